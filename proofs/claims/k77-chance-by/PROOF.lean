import PyProof.Rows.All
import Wide.All
import OpenK.AllK
import Wide.FinOn
import KE.KStateDown
import HandS.Base
import HandS.Call
import HandS.Ends
import HandS.More
import HandS.Words
import HandS.WordsExc
import HandS.Defaults
import HandS.Head0
import HandS.Head1
import HandS.Head2
import HandS.Head3
import HandS.HeadEnd
import HandS.HeadHook1
import HandS.HeadHook2
import PySem.Challenge.RW_longchances_k77_chances_by_told_picks
import KE.KOpsOwn
import HandS.List
import HandS.Comp
import HandS.Dict
import HandS.Iter
import HandS.WordsList
import HandS.WordsDict
import HandS.OwnEq
import HandS.IsInst
import HandS.Codes
import HandS.Conv
import HandS.DictComp
import HandS.Flow
import HandS.Gcd
import HandS.Wide
import HandS.WideBits
import HandS.Zip
import HandS.TupAny
import HandS.SortInts
import HandS.Style
import HandS.Walk
import KE.GoesMore
import KE.GoesEnum
import HandS.Exc
import HandS.ExcInit
import HandS.ExcIs
import HandS.ExcField
import HandS.RaiseMore
import KE.KNest
import KE.KDictZip
import KE.KDictSum
import HandS.Star
import HandS.ListEq
import KE.KRevSl
import KE.KItemsList
import HandS.ListItems
import KE.KTryMore
import KE.KExcIs
import HandS.Lambda
import HandS.ExcOwn
import HandS.EndTab
import HandS.TupMul
import HandS.MakeKwOnly
import PyProof.NeKinds
import HandS.TupLe
set_option Elab.async false
set_option linter.all false
set_option maxRecDepth 100000
set_option maxHeartbeats 4000000
namespace LcR
open PySem PySem.Spec PyProof.Rows L2
/-! ### a call of a def's function object with two values, inside an operator -/
section
variable {X : Cx} {k : Nat} {f C : Addr} {fd : FuncData} {ps : List Str} {sp : Sp}
/-- what an own operator's class must have -/
structure OpF (K : PySem.W.Frag) (C f : Addr) (nm : Str) : Prop where
  sf : PySem.W.selfFirst K C = true
  at_ : PySem.W.findIn K (.ref C) nm = some (some (.ref f))
  fn : PySem.W.isFn K (.ref f) = true
theorem inst_of {pins : List (Addr × Obj)} {σ : L2.St} {H : Hp} {s : Shared} {a dx : Addr} {fs : List (Str × V)} (I : Inv X pins σ H s) (e : H a = some (.ins C dx fs)) : ∃ od, PySem.W.InstAt s.heap a (PySem.W.instObj C dx) C od := by
  obtain ⟨mA, J, _⟩ := ins_get I.hok e
  obtain ⟨od, J, _⟩ := J.look
  exact ⟨_, J⟩
/-- a result that is no NotImplemented -/
theorem back_of {pins : List (Addr × Obj)} {σ : L2.St} {Q : VK} {v : Value} {s' : Shared} (h : EP X pins σ Q v s') : PySem.W.CmpBack (EP X pins σ Q) v s' := by
  obtain ⟨x, H', I', r, q⟩ := id h
  cases v with
  | notImplemented =>
    cases x <;> first | (cases r; done) | (obtain ⟨t, z⟩ := r; cases z)
  | _ => exact h
/-- x op y, both instances of C -/
def rOwn (C : Addr) (sp : Sp) : R2 := fun x y H Q => (∃ a dx fs, x = .ref a ∧ H a = some (.ins C dx fs)) ∧ (∃ a dx fs, y = .ref a ∧ H a = some (.ins C dx fs)) ∧ sp [x, y] H Q E0
theorem op_own {op : Operator} (F : FnOk X.prog X.w X.K X.mg X.base CX0 k f fd ps sp) (hr : Room k X.A) (hb : Binds X.K fd ps []) (hf : OpF X.K C f (PySem.dunder op.info.2)) : OpR X (binaryOp op) (rOwn C sp) := by
  intro pins s σ H x y v u Q I rx ry hq
  obtain ⟨⟨a, dx, fs, rfl, ea⟩, ⟨b, dy, gs, rfl, eb⟩, hsp⟩ := hq
  cases rx
  cases ry
  obtain ⟨od, J⟩ := inst_of I ea
  obtain ⟨od', J'⟩ := inst_of I eb
  obtain ⟨m, hF⟩ := I.fr
  refine PySem.W.binop_K hF I.ok.mod.kin J J'.type hf.sf hf.at_ hf.fn ?_
  have r2 : Vals [V.ref a, V.ref b] [Value.ref a, Value.ref b] := .cons rfl (.cons rfl .nil)
  exact wpAny_mono (run_fn F hr hb .nil pass0 I r2 hsp) (fun v s' h => back_of h) fun _ _ x => x
/-- x op n, x an instance of C, n an int -/
def rOwnI (C : Addr) (sp : Sp) : R2 := fun x y H Q => (∃ a dx fs, x = .ref a ∧ H a = some (.ins C dx fs)) ∧ (∃ i, y = .int i) ∧ sp [x, y] H Q E0
theorem op_ownI {op : Operator} {rc fo ro : Option Value} (F : FnOk X.prog X.w X.K X.mg X.base CX0 k f fd ps sp) (hr : Room k X.A) (hb : Binds X.K fd ps []) (hf : OpF X.K C f (PySem.dunder op.info.2))
    (h3 : PySem.W.findIn X.K (.ref C) (dunderR op.info.2) = some rc) (hp : rc = none ∨ ∃ g : Addr, rc = some (.ref g))
    (h1 : PySem.W.findIn X.K (.type "int") (PySem.dunder op.info.2) = some fo) (h2 : PySem.W.findIn X.K (.type "int") (dunderR op.info.2) = some ro) (hsub : PySem.W.subIn X.K (.type "int") (.ref C) = some false) : OpR X (binaryOp op) (rOwnI C sp) := by
  intro pins s σ H x y v u Q I rx ry hq
  obtain ⟨⟨a, dx, fs, rfl, ea⟩, ⟨i, rfl⟩, hsp⟩ := hq
  cases rx
  obtain ⟨t, rfl⟩ := ry
  obtain ⟨od, J⟩ := inst_of I ea
  obtain ⟨m, hF⟩ := I.fr
  refine PySem.W.ksp_binT hF I.ok.mod.kin J rfl hf.sf hf.at_ hf.fn h3 hp h1 h2 hsub ?_
  have r2 : Vals [V.ref a, V.int i] [Value.ref a, Value.int i t] := .cons rfl (.cons ⟨t, rfl⟩ .nil)
  exact wpAny_mono (run_fn F hr hb .nil pass0 I r2 hsp) (fun v s' h => back_of h) fun _ _ x => x
/-- x == y, both instances of C with an own == -/
theorem op_ownEq (F : FnOk X.prog X.w X.K X.mg X.base CX0 k f fd ps sp) (hr : Room k X.A) (hb : Binds X.K fd ps []) (hs : PySem.W.findIn X.K (.ref C) "__eq__" = some (some (.ref f))) (hf : PySem.W.isFn X.K (.ref f) = true) : OpR X (compareOp .Eq) (rOwn C sp) := by
  intro pins s σ H x y v u Q I rx ry hq
  obtain ⟨⟨a, dx, fs, rfl, ea⟩, ⟨b, dy, gs, rfl, eb⟩, hsp⟩ := hq
  cases rx
  cases ry
  obtain ⟨od, J⟩ := inst_of I ea
  obtain ⟨od', J'⟩ := inst_of I eb
  obtain ⟨m, hF⟩ := I.fr
  show wpAny (model X.prog X.w) X.A (richCompare .Eq (.ref a) (.ref b)) (EP X pins σ Q) X.xe s
  refine PySem.W.cmp_K (op := .Eq) (tb := .ref C) hr.units0 hF I.ok.mod.kin J J'.type (by simp [PySem.W.notFirst]) hs hf ?_
  have r2 : Vals [V.ref a, V.ref b] [Value.ref a, Value.ref b] := .cons rfl (.cons rfl .nil)
  exact wpAny_mono (run_fn F hr hb .nil pass0 I r2 hsp) (fun v s' h => back_of h) fun _ _ x => x
end
/-! ### x != y by an own == and object.__ne__ -/
section
variable {M : Model} {prog : Program} {w : World} {A : Around} {E : Value → Shared → Prop} {s : Shared} {K : PySem.W.Frag} {x y C f : Addr} {ox oy : Obj} {od od' : Option Obj}
theorem ifBound_ne {args : List Value} {Q : Option Value → Shared → Prop} (X : K.In s.heap) (I : PySem.W.InstAt s.heap x ox C od) (hs : PySem.W.findIn K (.ref C) "__ne__" = some (some (.builtin "object.__ne__")))
    (h : wpAny M A (call (.builtin "object.__ne__") (.ref x :: args)) (fun v => Q (some v)) E s) : wpAny M A (callSpecialIfBound? (.ref x) "__ne__" args) Q E s := by
  simp only [callSpecialIfBound?, bindSpecialIfBound?]
  refine wpAny_holding (wpAny_bind (wpAny_bind (wpAny_bind (I.type.here ((PySem.W.looks_findIn X hs).here ?_)))))
  refine wpAny_bind (wpAny_askSetting (wpAny_ite ?_))
  have fin : wpAny M A (call (.builtin "object.__ne__") ([.ref x] ++ args) >>= fun v => pure (some v)) Q E s := wpAny_bind (wpAny_mono h (fun v s' h' => wpAny_pure h') fun _ _ h' => h')
  split
  · exact wpAny_bind (wpAny_of_eq (F.cmp_object.ne.bind _) (wpAny_pure (by exact fin)))
  · exact wpAny_tryCatch (wpAny_bind (wpAny_of_eq (F.cmp_object.ne.bind _) (wpAny_pure (by exact fin))))
theorem entry_ne {Q : Fin → Shared → Prop} (hu : A.units < cLine) (X : K.In s.heap) (I : PySem.W.InstAt s.heap x ox C od) (hs : PySem.W.findIn K (.ref C) "__eq__" = some (some (.ref f))) (hf : PySem.W.isFn K (.ref f) = true)
    (h : wpAny M A (call (.ref f) [.ref x, .ref y]) (fun v s' => ∃ b, v = .bool b ∧ Q (.done (.ret (.bool (!b)))) s') E s) : wpAny M A (Builtin.«object.__ne__» ⟨[.ref x, .ref y], []⟩) Q E s := by
  unfold Builtin.«object.__ne__»
  repeat ((fail_if_success (with_reducible show wpAny _ _ (call _ _) _ _ _)); first | with_reducible refine wpAny_cRoomFor hu ?_ | with_reducible refine PySem.W.ifBound_K X I hs hf ?_ | wp_step)
  refine wpAny_mono h (fun v s' z => ?_) fun _ _ e => e
  obtain ⟨b, rfl, q⟩ := z
  repeat (first | with_reducible refine wpAny_truthy_bool ?_ | wp_step)
  exact q
theorem call_ne {Q : Value → Shared → Prop} (hu : A.units + 1 < cLine) (X : K.In s.heap) (I : PySem.W.InstAt s.heap x ox C od) (hm : PySem.W.mroIn K C (.type "object") = some true) (hs : PySem.W.findIn K (.ref C) "__eq__" = some (some (.ref f))) (hf : PySem.W.isFn K (.ref f) = true)
    (h : wpAny (model prog w) A.in1 (call (.ref f) [.ref x, .ref y]) (fun v s' => ∃ b, v = .bool b ∧ Q (.bool (!b)) s') E s) : wpAny (model prog w) A (call (.builtin "object.__ne__") [.ref x, .ref y]) Q E s :=
  wpAny_call (codeAny_call_builtin F.cmp_object.ne.plain F.cmpEntry_ne (PySem.W.check_slot F.cmpKind_ne F.cmpSplit_ne (I.type.andThen (PySem.W.looks_mroIn X hm)) (F.cmpArgs_ne _ _) (entry_ne (A := A.in1) hu X I hs hf h)))
end
section
variable {X : Cx} {k : Nat} {f C : Addr} {fd : FuncData} {ps : List Str} {sp : Sp}
/-- a call below the running body, with room -/
theorem run_sub {A : Around} {pins : List (Addr × Obj)} {σ : L2.St} {H : Hp} {s : Shared} {Q : VK} {us : List Value} {vs : List V} (F : FnOk X.prog X.w X.K X.mg X.base CX0 k f fd ps sp) (sb : Sub X k A) (hb : Binds X.K fd ps [])
    (I : Inv X pins σ H s) (r : Vals vs us) (h : sp vs H Q E0) : wpAny (model X.prog X.w) A (call (.ref f) us) (EP X pins σ Q) X.xe s := by
  have hl := F.len _ _ _ _ h
  have e0 : Env0 X.prog X.w X.K X.mg X.base A X.stack s H := by
    have e := I.env0
    exact ⟨by rw [sb.fr]; exact e.frames, e.mod, e.bs, e.bsz, e.funs, e.frf, e.hok, e.bare⟩
  refine wpAny_call (codeAny_mono (F.run A X.stack s H ⟨us, []⟩ us vs Q E0 sb.room e0 (by
    have := hb s us I.kIn (by rw [List.append_nil, ← r.length]; exact hl)
    simpa using this) r h) fun r s' hq => ?_)
  cases r with
  | error e => exact (pass0 (X := X)) pins σ H s e s' I hq
  | ok fl =>
    cases fl with
    | ret u => exact I.after hq
    | next => exact False.elim hq
    | brk => exact False.elim hq
    | cont => exact False.elim hq
/-- x != y, both instances of C with an own == that gives a bool -/
def rOwnNe (C : Addr) (sp : Sp) : R2 := fun x y H Q => (∃ a dx fs, x = .ref a ∧ H a = some (.ins C dx fs)) ∧ (∃ a dx fs, y = .ref a ∧ H a = some (.ins C dx fs)) ∧ sp [x, y] H (fun v H' => ∃ b, v = .bl b ∧ Q (.bl (!b)) H') E0
theorem op_ownNe (F : FnOk X.prog X.w X.K X.mg X.base CX0 k f fd ps sp) (hr : Room (k + 1) X.A) (hb : Binds X.K fd ps []) (hs : PySem.W.findIn X.K (.ref C) "__eq__" = some (some (.ref f))) (hf : PySem.W.isFn X.K (.ref f) = true)
    (hn : PySem.W.findIn X.K (.ref C) "__ne__" = some (some (.builtin "object.__ne__"))) (hm : PySem.W.mroIn X.K C (.type "object") = some true) : OpR X (compareOp .NotEq) (rOwnNe C sp) := by
  intro pins s σ H x y v u Q I rx ry hq
  obtain ⟨⟨a, dx, fs, rfl, ea⟩, ⟨b, dy, gs, rfl, eb⟩, hsp⟩ := hq
  cases rx
  cases ry
  obtain ⟨od, J⟩ := inst_of I ea
  obtain ⟨od', J'⟩ := inst_of I eb
  show wpAny (model X.prog X.w) X.A (richCompare .NotEq (.ref a) (.ref b)) (EP X pins σ Q) X.xe s
  have one : wpAny (model X.prog X.w) X.A (tryCompare (.ref a) "__ne__" (.ref b)) (fun r s' => ∃ v, r = some v ∧ EP X pins σ Q v s') X.xe s := by
    unfold tryCompare
    refine wpAny_bind (ifBound_ne I.kIn J hn (call_ne (by have := hr.units; omega) I.kIn J hm hs hf ?_))
    refine wpAny_mono (run_sub F (A := X.A.in1) ⟨hr.in1, rfl⟩ hb I (vs := [V.ref a, V.ref b]) (.cons rfl (.cons rfl .nil)) hsp) (fun v s' z => ?_) fun _ _ e => e
    obtain ⟨z1, H', I', rz, b', rfl, q⟩ := z
    cases rz
    exact ⟨b', rfl, wpAny_pure ⟨_, rfl, .bl (!b'), H', I', rfl, q⟩⟩
  unfold richCompare
  simp only [cmpInfo_NotEq, oneThing_ref]
  refine wpAny_holding (wpAny_bind (wpAny_cRoomFor hr.units0 ?_))
  refine wpAny_bind (J.type.here (wpAny_bind (J'.type.here ?_)))
  simp only [bne_self_eq_false, Bool.false_eq_true, if_false]
  refine wpAny_bind (wpAny_pure ?_)
  simp only [Bool.false_eq_true, if_false]
  refine wpAny_bind (wpAny_mono one (fun r s' z => ?_) fun _ _ e => e)
  obtain ⟨v, rfl, hq⟩ := z
  exact wpAny_pure hq
end
end LcR
namespace LcR
open PySem PySem.Spec PyProof.Rows L2
/-- what n op int asks of the classes -/
structure OpRf (K : PySem.W.Frag) (C : Addr) (nm : String) : Prop where
  rc : ∃ rc, PySem.W.findIn K (.ref C) (dunderR nm) = some rc ∧ (rc = none ∨ ∃ g : Addr, rc = some (.ref g))
  fo : ∃ fo, PySem.W.findIn K (.type "int") (PySem.dunder nm) = some fo
  ro : ∃ ro, PySem.W.findIn K (.type "int") (dunderR nm) = some ro
  sub : PySem.W.subIn K (.type "int") (.ref C) = some false
end LcR
set_option Elab.async false
set_option linter.all false
set_option maxRecDepth 100000
set_option maxHeartbeats 4000000
namespace LcX
open PySem PySem.Spec PyProof.Rows L2
/-! ### facts of an own exception class, looked at as a Bool -/
def oclsB (K : PySem.W.Frag) (C : Addr) : Bool := match K.lookup C with
  | some ⟨.type t, _, .cls cd, ⟨[_, _, _, _, some (.builtin b), _]⟩⟩ => t == "type" && (b == "ValueError.__new__" && (cd.hasDict && (!cd.hasDel && match cd.mro with
    | .ref c :: bm => decide (c = C) && PySem.HandSPX.refsVE bm
    | _ => false)))
  | _ => false
def oexB (K : PySem.W.Frag) (C : Addr) : Bool := oclsB K C && (decide (PySem.W.findIn K (.ref C) "__setattr__" = some (some (.builtin "object.__setattr__"))) && (decide (PySem.W.subIn K (.ref C) (.type "BaseException") = some true) &&
  (decide (PySem.W.typeIn K (.ref C) = some (.type "type")) && PySem.W.keepIn K (.ref C))))
theorem oclsB_ok {K : PySem.W.Frag} {C : Addr} (h : oclsB K C = true) : ∃ nm q N bs bm sn sub ab col dd k0 k1 k2 k3 k5, K.lookup C = some (excClassObj nm q C N bs bm true sn sub ab col dd k0 k1 k2 k3 k5 "ValueError.__new__") ∧ PySem.HandSPX.refsVE bm = true := by
  unfold oclsB at h
  split at h
  · rename_i t dd cd k0 k1 k2 k3 b k5 e
    simp only [Bool.and_eq_true, beq_iff_eq, Bool.not_eq_true'] at h
    obtain ⟨h1, h2, h3, h4, h5⟩ := h
    obtain ⟨nm, bs, mro, N, q, hd, sn, sub, ab, col, del⟩ := cd
    simp only at h3 h4 h5
    subst h1 h2 h3 h4
    cases mro with
    | nil => cases h5
    | cons m bm =>
      cases m with
      | ref c =>
        have h5 : (decide (c = C) && PySem.HandSPX.refsVE bm) = true := h5
        rw [Bool.and_eq_true, decide_eq_true_eq] at h5
        obtain ⟨h6, h7⟩ := h5
        subst h6
        exact ⟨nm, q, N, bs, bm, sn, sub, ab, col, dd, k0, k1, k2, k3, k5, e, h7⟩
      | _ => cases h5
  · cases h
theorem oexB_ok {K : PySem.W.Frag} {C : Addr} (h : oexB K C = true) : OexC K C := by
  unfold oexB at h
  simp only [Bool.and_eq_true, decide_eq_true_eq] at h
  obtain ⟨h1, h2, h3, h4, h5⟩ := h
  exact ⟨oclsB_ok h1, h2, h3, h4, h5⟩
def isExcB (K : PySem.W.Frag) (D : Addr) : Bool := decide (PySem.W.findIn K (.ref D) "__getattribute__" = some (some (.builtin "BaseException.__getattribute__"))) && (decide (PySem.W.findIn K (.ref D) "__getattr__" = some none) && (decide (PySem.W.subIn K (.ref D) (.type "BaseException") = some true) && (PySem.W.hasDictIn K D &&
  (decide (PySem.W.findIn K (.ref D) "__class__" = some (some (.builtin "object.__class__"))) && (decide (PySem.W.specialIn K (.builtin "object.__class__") "__get__" = some (some (.builtin "getset_descriptor.__get__"))) && (decide (PySem.W.takesIn K (.builtin "object.__class__") = some true) && decide (PySem.W.mroIn K D (.type "object") = some true)))))))
theorem isExcB_ok {K : PySem.W.Frag} {D : Addr} (h : isExcB K D = true) : ExcC K D := by
  unfold isExcB at h
  simp only [Bool.and_eq_true, decide_eq_true_eq] at h
  obtain ⟨h1, h2, h3, h4, h5, h6, h7, h8⟩ := h
  exact ⟨h1, h2, h3, h4, h5, h6, h7, h8⟩
end LcX
set_option Elab.async false
set_option linter.all false
set_option maxRecDepth 100000
set_option maxHeartbeats 4000000
namespace Lc
open PySem PySem.Spec PyProof.Rows L2 LcR
/-! ### the text by places -/
def lcTop (i : Nat) : Stmt := PySem.Challenge.pw_longchances_k77_chances_by_told_picks.main.body.getD i (.Pass ⟨0, 0, 0, 0⟩)
abbrev s_is_integer : Stmt := lcTop 7
abbrev s_is_within : Stmt := lcTop 8
abbrev s_is_name : Stmt := lcTop 9
abbrev s_is_lot : Stmt := lcTop 11
abbrev s_top_of : Stmt := lcTop 26
abbrev s_bottom_of : Stmt := lcTop 27
abbrev s_is_measures : Stmt := lcTop 50
abbrev s_is_pay : Stmt := lcTop 51
abbrev s_is_outcome : Stmt := lcTop 52
abbrev s_is_act : Stmt := lcTop 53
abbrev s_need_parts : Stmt := lcTop 56
abbrev s_steps_from : Stmt := lcTop 57
abbrev s_lots_of_acts : Stmt := lcTop 58
abbrev s_need_house : Stmt := lcTop 59
abbrev s_need_state : Stmt := lcTop 60
abbrev s_parts_in : Stmt := lcTop 63
abbrev s_made_anew : Stmt := lcTop 64
abbrev s_copied : Stmt := lcTop 65
abbrev s_need_goal : Stmt := lcTop 68
abbrev s_targets_of : Stmt := lcTop 69
abbrev s_mean_at : Stmt := lcTop 70
abbrev s_eliminated : Stmt := lcTop 71
abbrev s_solved : Stmt := lcTop 72
abbrev s_led_to : Stmt := lcTop 73
abbrev s_had_by : Stmt := lcTop 74
abbrev s_first_picks : Stmt := lcTop 75
abbrev s_better_pick : Stmt := lcTop 76
abbrev s_best_picks : Stmt := lcTop 77
abbrev s_ranked : Stmt := lcTop 78
abbrev s_greatest_coming : Stmt := lcTop 79
abbrev s_chance_by : Stmt := lcTop 80
abbrev s_law_pen : Stmt := lcTop 82
abbrev s_law_draw : Stmt := lcTop 83
abbrev s_law_pick : Stmt := lcTop 84
abbrev s_law_acts : Stmt := lcTop 85
abbrev s_law_near : Stmt := lcTop 86
abbrev s_law_solved : Stmt := lcTop 87
abbrev s_law_by : Stmt := lcTop 88
abbrev s_law_choices : Stmt := lcTop 89
abbrev s_law_heard : Stmt := lcTop 90
abbrev s_law : Stmt := lcTop 91
abbrev s_Ratio_init : Stmt := inClass (lcTop 28) 0
abbrev s_Ratio_add : Stmt := inClass (lcTop 28) 2
abbrev s_Ratio_sub : Stmt := inClass (lcTop 28) 4
abbrev s_Ratio_mul : Stmt := inClass (lcTop 28) 6
abbrev s_Ratio_eq : Stmt := inClass (lcTop 28) 9
abbrev s_Ratio_over : Stmt := inClass (lcTop 28) 11
abbrev s_Ratio_is_below : Stmt := inClass (lcTop 28) 12
abbrev s_Step_init : Stmt := inClass (lcTop 48) 0
abbrev s_House_init : Stmt := inClass (lcTop 61) 0
abbrev s_House_acts_at : Stmt := inClass (lcTop 61) 3
abbrev s_House_steps_of : Stmt := inClass (lcTop 61) 4
abbrev s_Coming_init : Stmt := inClass (lcTop 67) 0
abbrev s_BadGoal_init : Stmt := inClass (lcTop 18) 0
abbrev s_BadHouse_init : Stmt := inClass (lcTop 16) 0
abbrev s_BadPlan_init : Stmt := inClass (lcTop 19) 0
/-! ### names, parameters first -/
abbrev N_is_integer : List Str := ["value"]
abbrev P_is_integer : List Str := ["value"]
theorem sc_is_integer : FnScope N_is_integer P_is_integer (defScope s_is_integer) := C8.fnScope_by (by decide +kernel)
abbrev N_is_within : List Str := ["value", "least", "most"]
abbrev P_is_within : List Str := ["value", "least", "most"]
theorem sc_is_within : FnScope N_is_within P_is_within (defScope s_is_within) := C8.fnScope_by (by decide +kernel)
abbrev N_is_name : List Str := ["value", "letter"]
abbrev P_is_name : List Str := ["value"]
theorem sc_is_name : FnScope N_is_name P_is_name (defScope s_is_name) := C8.fnScope_by (by decide +kernel)
abbrev N_is_lot : List Str := ["value", "step", "later"]
abbrev P_is_lot : List Str := ["value"]
theorem sc_is_lot : FnScope N_is_lot P_is_lot (defScope s_is_lot) := C8.fnScope_by (by decide +kernel)
abbrev N_top_of : List Str := ["value"]
abbrev P_top_of : List Str := ["value"]
theorem sc_top_of : FnScope N_top_of P_top_of (defScope s_top_of) := C8.fnScope_by (by decide +kernel)
abbrev N_bottom_of : List Str := ["value"]
abbrev P_bottom_of : List Str := ["value"]
theorem sc_bottom_of : FnScope N_bottom_of P_bottom_of (defScope s_bottom_of) := C8.fnScope_by (by decide +kernel)
abbrev N_is_measures : List Str := ["value", "name", "later"]
abbrev P_is_measures : List Str := ["value"]
theorem sc_is_measures : FnScope N_is_measures P_is_measures (defScope s_is_measures) := C8.fnScope_by (by decide +kernel)
abbrev N_is_pay : List Str := ["value"]
abbrev P_is_pay : List Str := ["value"]
theorem sc_is_pay : FnScope N_is_pay P_is_pay (defScope s_is_pay) := C8.fnScope_by (by decide +kernel)
abbrev N_is_outcome : List Str := ["states", "many", "value", "pay"]
abbrev P_is_outcome : List Str := ["states", "many", "value"]
theorem sc_is_outcome : FnScope N_is_outcome P_is_outcome (defScope s_is_outcome) := C8.fnScope_by (by decide +kernel)
abbrev N_is_act : List Str := ["states", "many", "value", "outcome"]
abbrev P_is_act : List Str := ["states", "many", "value"]
theorem sc_is_act : FnScope N_is_act P_is_act (defScope s_is_act) := C8.fnScope_by (by decide +kernel)
abbrev N_need_parts : List Str := ["states", "start", "measures", "acts", "at", "act", "source", "outcomes"]
abbrev P_need_parts : List Str := ["states", "start", "measures", "acts"]
theorem sc_need_parts : FnScope N_need_parts P_need_parts (defScope s_need_parts) := C8.fnScope_by (by decide +kernel)
abbrev N_steps_from : List Str := ["acts", "found", "at", "source", "outcomes", "odds", "target", "time", "pays"]
abbrev P_steps_from : List Str := ["acts"]
theorem sc_steps_from : FnScope N_steps_from P_steps_from (defScope s_steps_from) := C8.fnScope_by (by decide +kernel)
abbrev N_lots_of_acts : List Str := ["acts", "found", "behind", "source", "outcomes"]
abbrev P_lots_of_acts : List Str := ["acts"]
theorem sc_lots_of_acts : FnScope N_lots_of_acts P_lots_of_acts (defScope s_lots_of_acts) := C8.fnScope_by (by decide +kernel)
abbrev N_need_house : List Str := ["value"]
abbrev P_need_house : List Str := ["value"]
theorem sc_need_house : FnScope N_need_house P_need_house (defScope s_need_house) := C8.fnScope_by (by decide +kernel)
abbrev N_need_state : List Str := ["house", "value"]
abbrev P_need_state : List Str := ["house", "value"]
theorem sc_need_state : FnScope N_need_state P_need_state (defScope s_need_state) := C8.fnScope_by (by decide +kernel)
abbrev N_parts_in : List Str := ["value"]
abbrev P_parts_in : List Str := ["value"]
theorem sc_parts_in : FnScope N_parts_in P_parts_in (defScope s_parts_in) := C8.fnScope_by (by decide +kernel)
abbrev N_made_anew : List Str := ["value", "parts"]
abbrev P_made_anew : List Str := ["value", "parts"]
theorem sc_made_anew : FnScope N_made_anew P_made_anew (defScope s_made_anew) := C8.fnScope_by (by decide +kernel)
abbrev N_copied : List Str := ["value", "nodes", "below", "left", "told", "parent", "spot", "found", "part", "one"]
abbrev P_copied : List Str := ["value"]
theorem sc_copied : FnScope N_copied P_copied (defScope s_copied) := C8.fnScope_by (by decide +kernel)
abbrev N_need_goal : List Str := ["house", "goal", "state"]
abbrev P_need_goal : List Str := ["house", "goal"]
theorem sc_need_goal : FnScope N_need_goal P_need_goal (defScope s_need_goal) := C8.fnScope_by (by decide +kernel)
abbrev N_targets_of : List Str := ["house", "act", "at"]
abbrev P_targets_of : List Str := ["house", "act"]
theorem sc_targets_of : FnScope N_targets_of P_targets_of (defScope s_targets_of) := C8.fnScope_by (by decide +kernel)
abbrev N_mean_at : List Str := ["house", "act", "numbers", "found", "whole", "target", "odds"]
abbrev P_mean_at : List Str := ["house", "act", "numbers"]
theorem sc_mean_at : FnScope N_mean_at P_mean_at (defScope s_mean_at) := C8.fnScope_by (by decide +kernel)
abbrev N_eliminated : List Str := ["rows", "at", "spot", "found", "k", "row", "entry", "one"]
abbrev P_eliminated : List Str := ["rows", "at"]
theorem sc_eliminated : FnScope N_eliminated P_eliminated (defScope s_eliminated) := C8.fnScope_by (by decide +kernel)
abbrev N_solved : List Str := ["rows", "at", "row"]
abbrev P_solved : List Str := ["rows"]
theorem sc_solved : FnScope N_solved P_solved (defScope s_solved) := C8.fnScope_by (by decide +kernel)
abbrev N_led_to : List Str := ["house", "picks", "worths", "found", "line", "near", "state", "target", "odds"]
abbrev P_led_to : List Str := ["house", "picks", "worths"]
theorem sc_led_to : FnScope N_led_to P_led_to (defScope s_led_to) := C8.fnScope_by (by decide +kernel)
abbrev N_had_by : List Str := ["house", "picks", "worths", "far", "open_states", "rows", "state", "row", "whole", "target", "odds", "spot", "found", "told"]
abbrev P_had_by : List Str := ["house", "picks", "worths"]
theorem sc_had_by : FnScope N_had_by P_had_by (defScope s_had_by) := C8.fnScope_by (by decide +kernel)
abbrev N_first_picks : List Str := ["house", "worths", "picks", "known", "line", "near", "act", "state", "target", "odds"]
abbrev P_first_picks : List Str := ["house", "worths"]
theorem sc_first_picks : FnScope N_first_picks P_first_picks (defScope s_first_picks) := C8.fnScope_by (by decide +kernel)
abbrev N_better_pick : List Str := ["house", "state", "pick", "numbers", "worths", "best", "found", "act", "mean"]
abbrev P_better_pick : List Str := ["house", "state", "pick", "numbers", "worths"]
theorem sc_better_pick : FnScope N_better_pick P_better_pick (defScope s_better_pick) := C8.fnScope_by (by decide +kernel)
abbrev N_best_picks : List Str := ["house", "worths", "picks", "numbers", "far", "later", "state"]
abbrev P_best_picks : List Str := ["house", "worths"]
theorem sc_best_picks : FnScope N_best_picks P_best_picks (defScope s_best_picks) := C8.fnScope_by (by decide +kernel)
abbrev N_ranked : List Str := ["house", "numbers", "picks", "worths", "stops", "kept", "far", "state", "pick"]
abbrev P_ranked : List Str := ["house", "numbers", "picks", "worths"]
theorem sc_ranked : FnScope N_ranked P_ranked (defScope s_ranked) := C8.fnScope_by (by decide +kernel)
abbrev N_greatest_coming : List Str := ["house", "goal", "worths", "numbers", "picks", "far", "kept", "state"]
abbrev P_greatest_coming : List Str := ["house", "goal"]
theorem sc_greatest_coming : FnScope N_greatest_coming P_greatest_coming (defScope s_greatest_coming) := C8.fnScope_by (by decide +kernel)
abbrev N_chance_by : List Str := ["house", "goal", "picks", "worths", "kept", "state", "act"]
abbrev P_chance_by : List Str := ["house", "goal", "picks"]
theorem sc_chance_by : FnScope N_chance_by P_chance_by (defScope s_chance_by) := C8.fnScope_by (by decide +kernel)
abbrev N_law_pen : List Str := ["script"]
abbrev P_law_pen : List Str := ["script"]
theorem sc_law_pen : FnScope N_law_pen P_law_pen (defScope s_law_pen) := C8.fnScope_by (by decide +kernel)
abbrev N_law_draw : List Str := ["pen", "many", "digit", "at", "cell", "great", "mixed"]
abbrev P_law_draw : List Str := ["pen", "many"]
theorem sc_law_draw : FnScope N_law_draw P_law_draw (defScope s_law_draw) := C8.fnScope_by (by decide +kernel)
abbrev N_law_pick : List Str := ["pen", "some"]
abbrev P_law_pick : List Str := ["pen", "some"]
theorem sc_law_pick : FnScope N_law_pick P_law_pick (defScope s_law_pick) := C8.fnScope_by (by decide +kernel)
abbrev N_law_acts : List Str := ["pen", "most", "measures", "many", "style", "acts", "state", "near", "unit", "turn", "outcomes", "k", "pays", "other", "spot"]
abbrev P_law_acts : List Str := ["pen", "most", "measures"]
theorem sc_law_acts : FnScope N_law_acts P_law_acts (defScope s_law_acts) := C8.fnScope_by (by decide +kernel)
abbrev N_law_near : List Str := ["acts", "some", "state", "known", "line", "here", "act", "odds", "target", "time", "pays"]
abbrev P_law_near : List Str := ["acts", "some", "state"]
theorem sc_law_near : FnScope N_law_near P_law_near (defScope s_law_near) := C8.fnScope_by (by decide +kernel)
abbrev N_law_solved : List Str := ["rows", "at", "spot", "k", "row", "entry", "one"]
abbrev P_law_solved : List Str := ["rows"]
theorem sc_law_solved : FnScope N_law_solved P_law_solved (defScope s_law_solved) := C8.fnScope_by (by decide +kernel)
abbrev N_law_by : List Str := ["many", "acts", "picks", "worths", "some", "far", "rest", "rows", "state", "row", "whole", "odds", "target", "time", "pays", "found", "goal"]
abbrev P_law_by : List Str := ["many", "acts", "picks", "worths"]
theorem sc_law_by : FnScope N_law_by P_law_by (defScope s_law_by) := C8.fnScope_by (by decide +kernel)
abbrev N_law_choices : List Str := ["many", "acts", "found", "state", "mine", "later", "act", "one", "choice"]
abbrev P_law_choices : List Str := ["many", "acts"]
theorem sc_law_choices : FnScope N_law_choices P_law_choices (defScope s_law_choices) := C8.fnScope_by (by decide +kernel)
abbrev N_law_heard : List Str := ["ask", "caught", "error"]
abbrev P_law_heard : List Str := ["ask"]
theorem sc_law_heard : FnScope N_law_heard P_law_heard (defScope s_law_heard) := C8.fnScope_by (by decide +kernel)
abbrev N_law : List Str := ["script", "pen", "turn", "many", "acts", "house", "goal", "best", "picks", "due", "told", "fine", "odd", "bad", "heard", "state", "one", "other"]
abbrev P_law : List Str := ["script"]
theorem sc_law : FnScope N_law P_law (defScope s_law) := C8.fnScope_by (by decide +kernel)
abbrev N_Ratio_init : List Str := ["self", "top", "bottom", "shared"]
abbrev P_Ratio_init : List Str := ["self", "top", "bottom"]
theorem sc_Ratio_init : FnScope N_Ratio_init P_Ratio_init (defScope s_Ratio_init) := C8.fnScope_by (by decide +kernel)
abbrev N_Ratio_add : List Str := ["self", "other"]
abbrev P_Ratio_add : List Str := ["self", "other"]
theorem sc_Ratio_add : FnScope N_Ratio_add P_Ratio_add (defScope s_Ratio_add) := C8.fnScope_by (by decide +kernel)
abbrev N_Ratio_sub : List Str := ["self", "other"]
abbrev P_Ratio_sub : List Str := ["self", "other"]
theorem sc_Ratio_sub : FnScope N_Ratio_sub P_Ratio_sub (defScope s_Ratio_sub) := C8.fnScope_by (by decide +kernel)
abbrev N_Ratio_mul : List Str := ["self", "other"]
abbrev P_Ratio_mul : List Str := ["self", "other"]
theorem sc_Ratio_mul : FnScope N_Ratio_mul P_Ratio_mul (defScope s_Ratio_mul) := C8.fnScope_by (by decide +kernel)
abbrev N_Ratio_eq : List Str := ["self", "other"]
abbrev P_Ratio_eq : List Str := ["self", "other"]
theorem sc_Ratio_eq : FnScope N_Ratio_eq P_Ratio_eq (defScope s_Ratio_eq) := C8.fnScope_by (by decide +kernel)
abbrev N_Ratio_over : List Str := ["self", "other"]
abbrev P_Ratio_over : List Str := ["self", "other"]
theorem sc_Ratio_over : FnScope N_Ratio_over P_Ratio_over (defScope s_Ratio_over) := C8.fnScope_by (by decide +kernel)
abbrev N_Ratio_is_below : List Str := ["self", "other"]
abbrev P_Ratio_is_below : List Str := ["self", "other"]
theorem sc_Ratio_is_below : FnScope N_Ratio_is_below P_Ratio_is_below (defScope s_Ratio_is_below) := C8.fnScope_by (by decide +kernel)
abbrev N_Step_init : List Str := ["self", "act", "source", "target", "odds", "time", "pays"]
abbrev P_Step_init : List Str := ["self", "act", "source", "target", "odds", "time", "pays"]
theorem sc_Step_init : FnScope N_Step_init P_Step_init (defScope s_Step_init) := C8.fnScope_by (by decide +kernel)
abbrev N_House_init : List Str := ["self", "states", "start", "measures", "acts", "events", "many", "lots", "source", "outcomes", "word"]
abbrev P_House_init : List Str := ["self", "states", "start", "measures", "acts", "events"]
theorem sc_House_init : FnScope N_House_init P_House_init (defScope s_House_init) := C8.fnScope_by (by decide +kernel)
abbrev N_House_acts_at : List Str := ["self", "state", "at", "act"]
abbrev P_House_acts_at : List Str := ["self", "state"]
theorem sc_House_acts_at : FnScope N_House_acts_at P_House_acts_at (defScope s_House_acts_at) := C8.fnScope_by (by decide +kernel)
abbrev N_House_steps_of : List Str := ["self", "act"]
abbrev P_House_steps_of : List Str := ["self", "act"]
theorem sc_House_steps_of : FnScope N_House_steps_of P_House_steps_of (defScope s_House_steps_of) := C8.fnScope_by (by decide +kernel)
abbrev N_Coming_init : List Str := ["self", "numbers", "picks", "ranks"]
abbrev P_Coming_init : List Str := ["self", "numbers", "picks", "ranks"]
theorem sc_Coming_init : FnScope N_Coming_init P_Coming_init (defScope s_Coming_init) := C8.fnScope_by (by decide +kernel)
abbrev N_BadGoal_init : List Str := ["self", "part"]
abbrev P_BadGoal_init : List Str := ["self", "part"]
theorem sc_BadGoal_init : FnScope N_BadGoal_init P_BadGoal_init (defScope s_BadGoal_init) := C8.fnScope_by (by decide +kernel)
abbrev N_BadHouse_init : List Str := ["self", "part"]
abbrev P_BadHouse_init : List Str := ["self", "part"]
theorem sc_BadHouse_init : FnScope N_BadHouse_init P_BadHouse_init (defScope s_BadHouse_init) := C8.fnScope_by (by decide +kernel)
abbrev N_BadPlan_init : List Str := ["self", "part"]
abbrev P_BadPlan_init : List Str := ["self", "part"]
theorem sc_BadPlan_init : FnScope N_BadPlan_init P_BadPlan_init (defScope s_BadPlan_init) := C8.fnScope_by (by decide +kernel)
/-! ### the facts of the top -/
abbrev CRatio (K : PySem.W.Frag) : Addr := He.ga K "Ratio"
abbrev CStep (K : PySem.W.Frag) : Addr := He.ga K "Step"
abbrev CHouse (K : PySem.W.Frag) : Addr := He.ga K "House"
abbrev CComing (K : PySem.W.Frag) : Addr := He.ga K "Coming"
abbrev CBadGoal (K : PySem.W.Frag) : Addr := He.ga K "BadGoal"
abbrev CBadHouse (K : PySem.W.Frag) : Addr := He.ga K "BadHouse"
abbrev CBadPlan (K : PySem.W.Frag) : Addr := He.ga K "BadPlan"
structure Tx (K : PySem.W.Frag) (mg : Str → Option Value) : Prop where
  b_int : mg "int" = none
  b_bool : mg "bool" = none
  b_str : mg "str" = none
  b_tuple : mg "tuple" = none
  b_list : mg "list" = none
  b_dict : mg "dict" = none
  b_len : mg "len" = none
  b_isinstance : mg "isinstance" = none
  b_range : mg "range" = none
  b_zip : mg "zip" = none
  b_enumerate : mg "enumerate" = none
  b_sorted : mg "sorted" = none
  b_min : mg "min" = none
  b_sum : mg "sum" = none
  b_all : mg "all" = none
  b_abs : mg "abs" = none
  b_any : mg "any" = none
  b_repr : mg "repr" = none
  g_Ratio : mg "Ratio" = some (.ref (CRatio K))
  g_Step : mg "Step" = some (.ref (CStep K))
  g_House : mg "House" = some (.ref (CHouse K))
  g_Coming : mg "Coming" = some (.ref (CComing K))
  g_is_integer : mg "is_integer" = some (.ref (He.ga K "is_integer"))
  g_is_within : mg "is_within" = some (.ref (He.ga K "is_within"))
  g_is_name : mg "is_name" = some (.ref (He.ga K "is_name"))
  g_is_lot : mg "is_lot" = some (.ref (He.ga K "is_lot"))
  g_top_of : mg "top_of" = some (.ref (He.ga K "top_of"))
  g_bottom_of : mg "bottom_of" = some (.ref (He.ga K "bottom_of"))
  g_is_measures : mg "is_measures" = some (.ref (He.ga K "is_measures"))
  g_is_pay : mg "is_pay" = some (.ref (He.ga K "is_pay"))
  g_is_outcome : mg "is_outcome" = some (.ref (He.ga K "is_outcome"))
  g_is_act : mg "is_act" = some (.ref (He.ga K "is_act"))
  g_need_parts : mg "need_parts" = some (.ref (He.ga K "need_parts"))
  g_steps_from : mg "steps_from" = some (.ref (He.ga K "steps_from"))
  g_lots_of_acts : mg "lots_of_acts" = some (.ref (He.ga K "lots_of_acts"))
  g_need_house : mg "need_house" = some (.ref (He.ga K "need_house"))
  g_need_state : mg "need_state" = some (.ref (He.ga K "need_state"))
  g_parts_in : mg "parts_in" = some (.ref (He.ga K "parts_in"))
  g_made_anew : mg "made_anew" = some (.ref (He.ga K "made_anew"))
  g_copied : mg "copied" = some (.ref (He.ga K "copied"))
  g_need_goal : mg "need_goal" = some (.ref (He.ga K "need_goal"))
  g_targets_of : mg "targets_of" = some (.ref (He.ga K "targets_of"))
  g_mean_at : mg "mean_at" = some (.ref (He.ga K "mean_at"))
  g_eliminated : mg "eliminated" = some (.ref (He.ga K "eliminated"))
  g_solved : mg "solved" = some (.ref (He.ga K "solved"))
  g_led_to : mg "led_to" = some (.ref (He.ga K "led_to"))
  g_had_by : mg "had_by" = some (.ref (He.ga K "had_by"))
  g_first_picks : mg "first_picks" = some (.ref (He.ga K "first_picks"))
  g_better_pick : mg "better_pick" = some (.ref (He.ga K "better_pick"))
  g_best_picks : mg "best_picks" = some (.ref (He.ga K "best_picks"))
  g_ranked : mg "ranked" = some (.ref (He.ga K "ranked"))
  g_greatest_coming : mg "greatest_coming" = some (.ref (He.ga K "greatest_coming"))
  g_chance_by : mg "chance_by" = some (.ref (He.ga K "chance_by"))
  g_law_pen : mg "_law_pen" = some (.ref (He.ga K "_law_pen"))
  g_law_draw : mg "_law_draw" = some (.ref (He.ga K "_law_draw"))
  g_law_pick : mg "_law_pick" = some (.ref (He.ga K "_law_pick"))
  g_law_acts : mg "_law_acts" = some (.ref (He.ga K "_law_acts"))
  g_law_near : mg "_law_near" = some (.ref (He.ga K "_law_near"))
  g_law_solved : mg "_law_solved" = some (.ref (He.ga K "_law_solved"))
  g_law_by : mg "_law_by" = some (.ref (He.ga K "_law_by"))
  g_law_choices : mg "_law_choices" = some (.ref (He.ga K "_law_choices"))
  g_law_heard : mg "_law_heard" = some (.ref (He.ga K "_law_heard"))
  g_law : mg "law" = some (.ref (He.ga K "law"))
  k_LETTERS : ∃ u, mg "LETTERS" = some u ∧ RelV (.str "abcdefghijklmnopqrstuvwxyz") u
  k_MOST_LETTERS : ∃ u, mg "MOST_LETTERS" = some u ∧ RelV (.int 8) u
  k_MOST_STATES : ∃ u, mg "MOST_STATES" = some u ∧ RelV (.int 200) u
  k_MOST_ACTS : ∃ u, mg "MOST_ACTS" = some u ∧ RelV (.int 600) u
  k_MOST_STEPS : ∃ u, mg "MOST_STEPS" = some u ∧ RelV (.int 1200) u
  k_MOST_ODDS : ∃ u, mg "MOST_ODDS" = some u ∧ RelV (.int 1000) u
  k_MOST_TIME : ∃ u, mg "MOST_TIME" = some u ∧ RelV (.int 1000) u
  k_MOST_PAY : ∃ u, mg "MOST_PAY" = some u ∧ RelV (.int 999999999999) u
  k_MOST_MEASURES : ∃ u, mg "MOST_MEASURES" = some u ∧ RelV (.int 4) u
  k_MOST_EVENTS : ∃ u, mg "MOST_EVENTS" = some u ∧ RelV (.int 200) u
  gcd : mg "gcd" = some (.builtin "math.gcd")
  f_is_integer : ∃ fd, FunD K "is_integer" "is_integer" (defArgs s_is_integer) (defBody s_is_integer) (defScope s_is_integer) [] [] (He.ga K "is_integer") fd
  f_is_within : ∃ fd, FunD K "is_within" "is_within" (defArgs s_is_within) (defBody s_is_within) (defScope s_is_within) [] [] (He.ga K "is_within") fd
  f_is_name : ∃ fd, FunD K "is_name" "is_name" (defArgs s_is_name) (defBody s_is_name) (defScope s_is_name) [] [] (He.ga K "is_name") fd
  f_is_lot : ∃ fd, FunD K "is_lot" "is_lot" (defArgs s_is_lot) (defBody s_is_lot) (defScope s_is_lot) [] [] (He.ga K "is_lot") fd
  f_top_of : ∃ fd, FunD K "top_of" "top_of" (defArgs s_top_of) (defBody s_top_of) (defScope s_top_of) [] [] (He.ga K "top_of") fd
  f_bottom_of : ∃ fd, FunD K "bottom_of" "bottom_of" (defArgs s_bottom_of) (defBody s_bottom_of) (defScope s_bottom_of) [] [] (He.ga K "bottom_of") fd
  f_is_measures : ∃ fd, FunD K "is_measures" "is_measures" (defArgs s_is_measures) (defBody s_is_measures) (defScope s_is_measures) [] [] (He.ga K "is_measures") fd
  f_is_pay : ∃ fd, FunD K "is_pay" "is_pay" (defArgs s_is_pay) (defBody s_is_pay) (defScope s_is_pay) [] [] (He.ga K "is_pay") fd
  f_is_outcome : ∃ fd, FunD K "is_outcome" "is_outcome" (defArgs s_is_outcome) (defBody s_is_outcome) (defScope s_is_outcome) [] [] (He.ga K "is_outcome") fd
  f_is_act : ∃ fd, FunD K "is_act" "is_act" (defArgs s_is_act) (defBody s_is_act) (defScope s_is_act) [] [] (He.ga K "is_act") fd
  f_need_parts : ∃ fd, FunD K "need_parts" "need_parts" (defArgs s_need_parts) (defBody s_need_parts) (defScope s_need_parts) [] [] (He.ga K "need_parts") fd
  f_steps_from : ∃ fd, FunD K "steps_from" "steps_from" (defArgs s_steps_from) (defBody s_steps_from) (defScope s_steps_from) [] [] (He.ga K "steps_from") fd
  f_lots_of_acts : ∃ fd, FunD K "lots_of_acts" "lots_of_acts" (defArgs s_lots_of_acts) (defBody s_lots_of_acts) (defScope s_lots_of_acts) [] [] (He.ga K "lots_of_acts") fd
  f_need_house : ∃ fd, FunD K "need_house" "need_house" (defArgs s_need_house) (defBody s_need_house) (defScope s_need_house) [] [] (He.ga K "need_house") fd
  f_need_state : ∃ fd, FunD K "need_state" "need_state" (defArgs s_need_state) (defBody s_need_state) (defScope s_need_state) [] [] (He.ga K "need_state") fd
  f_parts_in : ∃ fd, FunD K "parts_in" "parts_in" (defArgs s_parts_in) (defBody s_parts_in) (defScope s_parts_in) [] [] (He.ga K "parts_in") fd
  f_made_anew : ∃ fd, FunD K "made_anew" "made_anew" (defArgs s_made_anew) (defBody s_made_anew) (defScope s_made_anew) [] [] (He.ga K "made_anew") fd
  f_copied : ∃ fd, FunD K "copied" "copied" (defArgs s_copied) (defBody s_copied) (defScope s_copied) [] [] (He.ga K "copied") fd
  f_need_goal : ∃ fd, FunD K "need_goal" "need_goal" (defArgs s_need_goal) (defBody s_need_goal) (defScope s_need_goal) [] [] (He.ga K "need_goal") fd
  f_targets_of : ∃ fd, FunD K "targets_of" "targets_of" (defArgs s_targets_of) (defBody s_targets_of) (defScope s_targets_of) [] [] (He.ga K "targets_of") fd
  f_mean_at : ∃ fd, FunD K "mean_at" "mean_at" (defArgs s_mean_at) (defBody s_mean_at) (defScope s_mean_at) [] [] (He.ga K "mean_at") fd
  f_eliminated : ∃ fd, FunD K "eliminated" "eliminated" (defArgs s_eliminated) (defBody s_eliminated) (defScope s_eliminated) [] [] (He.ga K "eliminated") fd
  f_solved : ∃ fd, FunD K "solved" "solved" (defArgs s_solved) (defBody s_solved) (defScope s_solved) [] [] (He.ga K "solved") fd
  f_led_to : ∃ fd, FunD K "led_to" "led_to" (defArgs s_led_to) (defBody s_led_to) (defScope s_led_to) [] [] (He.ga K "led_to") fd
  f_had_by : ∃ fd, FunD K "had_by" "had_by" (defArgs s_had_by) (defBody s_had_by) (defScope s_had_by) [] [] (He.ga K "had_by") fd
  f_first_picks : ∃ fd, FunD K "first_picks" "first_picks" (defArgs s_first_picks) (defBody s_first_picks) (defScope s_first_picks) [] [] (He.ga K "first_picks") fd
  f_better_pick : ∃ fd, FunD K "better_pick" "better_pick" (defArgs s_better_pick) (defBody s_better_pick) (defScope s_better_pick) [] [] (He.ga K "better_pick") fd
  f_best_picks : ∃ fd, FunD K "best_picks" "best_picks" (defArgs s_best_picks) (defBody s_best_picks) (defScope s_best_picks) [] [] (He.ga K "best_picks") fd
  f_ranked : ∃ fd, FunD K "ranked" "ranked" (defArgs s_ranked) (defBody s_ranked) (defScope s_ranked) [] [] (He.ga K "ranked") fd
  f_greatest_coming : ∃ fd, FunD K "greatest_coming" "greatest_coming" (defArgs s_greatest_coming) (defBody s_greatest_coming) (defScope s_greatest_coming) [] [] (He.ga K "greatest_coming") fd
  f_chance_by : ∃ fd, FunD K "chance_by" "chance_by" (defArgs s_chance_by) (defBody s_chance_by) (defScope s_chance_by) [] [] (He.ga K "chance_by") fd
  f_law_pen : ∃ fd, FunD K "_law_pen" "_law_pen" (defArgs s_law_pen) (defBody s_law_pen) (defScope s_law_pen) [] [] (He.ga K "_law_pen") fd
  f_law_draw : ∃ fd, FunD K "_law_draw" "_law_draw" (defArgs s_law_draw) (defBody s_law_draw) (defScope s_law_draw) [] [] (He.ga K "_law_draw") fd
  f_law_pick : ∃ fd, FunD K "_law_pick" "_law_pick" (defArgs s_law_pick) (defBody s_law_pick) (defScope s_law_pick) [] [] (He.ga K "_law_pick") fd
  f_law_acts : ∃ fd, FunD K "_law_acts" "_law_acts" (defArgs s_law_acts) (defBody s_law_acts) (defScope s_law_acts) [] [] (He.ga K "_law_acts") fd
  f_law_near : ∃ fd, FunD K "_law_near" "_law_near" (defArgs s_law_near) (defBody s_law_near) (defScope s_law_near) [] [] (He.ga K "_law_near") fd
  f_law_solved : ∃ fd, FunD K "_law_solved" "_law_solved" (defArgs s_law_solved) (defBody s_law_solved) (defScope s_law_solved) [] [] (He.ga K "_law_solved") fd
  f_law_by : ∃ fd, FunD K "_law_by" "_law_by" (defArgs s_law_by) (defBody s_law_by) (defScope s_law_by) [] [] (He.ga K "_law_by") fd
  f_law_choices : ∃ fd, FunD K "_law_choices" "_law_choices" (defArgs s_law_choices) (defBody s_law_choices) (defScope s_law_choices) [] [] (He.ga K "_law_choices") fd
  f_law_heard : ∃ fd, FunD K "_law_heard" "_law_heard" (defArgs s_law_heard) (defBody s_law_heard) (defScope s_law_heard) [] [] (He.ga K "_law_heard") fd
  f_law : ∃ fd, FunD K "law" "law" (defArgs s_law) (defBody s_law) (defScope s_law) [] [] (He.ga K "law") fd
  f_Ratio_init : ∃ fd, FunD K "__init__" "Ratio.__init__" (defArgs s_Ratio_init) (defBody s_Ratio_init) (defScope s_Ratio_init) [.int 1] [] (He.ma K (CRatio K) "__init__") fd
  f_Ratio_add : ∃ fd, FunD K "__add__" "Ratio.__add__" (defArgs s_Ratio_add) (defBody s_Ratio_add) (defScope s_Ratio_add) [] [] (He.ma K (CRatio K) "__add__") fd
  f_Ratio_sub : ∃ fd, FunD K "__sub__" "Ratio.__sub__" (defArgs s_Ratio_sub) (defBody s_Ratio_sub) (defScope s_Ratio_sub) [] [] (He.ma K (CRatio K) "__sub__") fd
  f_Ratio_mul : ∃ fd, FunD K "__mul__" "Ratio.__mul__" (defArgs s_Ratio_mul) (defBody s_Ratio_mul) (defScope s_Ratio_mul) [] [] (He.ma K (CRatio K) "__mul__") fd
  f_Ratio_eq : ∃ fd, FunD K "__eq__" "Ratio.__eq__" (defArgs s_Ratio_eq) (defBody s_Ratio_eq) (defScope s_Ratio_eq) [] [] (He.ma K (CRatio K) "__eq__") fd
  f_Ratio_over : ∃ fd, FunD K "over" "Ratio.over" (defArgs s_Ratio_over) (defBody s_Ratio_over) (defScope s_Ratio_over) [] [] (He.ma K (CRatio K) "over") fd
  f_Ratio_is_below : ∃ fd, FunD K "is_below" "Ratio.is_below" (defArgs s_Ratio_is_below) (defBody s_Ratio_is_below) (defScope s_Ratio_is_below) [] [] (He.ma K (CRatio K) "is_below") fd
  f_Step_init : ∃ fd, FunD K "__init__" "Step.__init__" (defArgs s_Step_init) (defBody s_Step_init) (defScope s_Step_init) [] [] (He.ma K (CStep K) "__init__") fd
  f_House_init : ∃ fd, FunD K "__init__" "House.__init__" (defArgs s_House_init) (defBody s_House_init) (defScope s_House_init) [.non] [] (He.ma K (CHouse K) "__init__") fd
  f_House_acts_at : ∃ fd, FunD K "acts_at" "House.acts_at" (defArgs s_House_acts_at) (defBody s_House_acts_at) (defScope s_House_acts_at) [] [] (He.ma K (CHouse K) "acts_at") fd
  f_House_steps_of : ∃ fd, FunD K "steps_of" "House.steps_of" (defArgs s_House_steps_of) (defBody s_House_steps_of) (defScope s_House_steps_of) [] [] (He.ma K (CHouse K) "steps_of") fd
  f_Coming_init : ∃ fd, FunD K "__init__" "Coming.__init__" (defArgs s_Coming_init) (defBody s_Coming_init) (defScope s_Coming_init) [] [] (He.ma K (CComing K) "__init__") fd
  f_BadGoal_init : ∃ fd, FunD K "__init__" "BadGoal.__init__" (defArgs s_BadGoal_init) (defBody s_BadGoal_init) (defScope s_BadGoal_init) [] [] (He.ma K (CBadGoal K) "__init__") fd
  f_BadHouse_init : ∃ fd, FunD K "__init__" "BadHouse.__init__" (defArgs s_BadHouse_init) (defBody s_BadHouse_init) (defScope s_BadHouse_init) [] [] (He.ma K (CBadHouse K) "__init__") fd
  f_BadPlan_init : ∃ fd, FunD K "__init__" "BadPlan.__init__" (defArgs s_BadPlan_init) (defBody s_BadPlan_init) (defScope s_BadPlan_init) [] [] (He.ma K (CBadPlan K) "__init__") fd
  cl_Ratio : Cls K (CRatio K)
  mk_Ratio : Mk K (CRatio K) (He.ma K (CRatio K) "__init__")
  na_Ratio_top : NoAttr K (CRatio K) "top"
  na_Ratio_bottom : NoAttr K (CRatio K) "bottom"
  ha_Ratio : PySem.W.findIn K (.ref (CRatio K)) "__class__" = some (some (.builtin "object.__class__"))
  hm_Ratio : PySem.W.mroIn K (CRatio K) (.type "object") = some true
  ki_Ratio : PySem.W.kitOne K (.ref (CRatio K)) (.ref (CRatio K)) = some true
  cl_Step : Cls K (CStep K)
  mk_Step : Mk K (CStep K) (He.ma K (CStep K) "__init__")
  na_Step_act : NoAttr K (CStep K) "act"
  na_Step_source : NoAttr K (CStep K) "source"
  na_Step_target : NoAttr K (CStep K) "target"
  na_Step_odds : NoAttr K (CStep K) "odds"
  na_Step_time : NoAttr K (CStep K) "time"
  na_Step_pays : NoAttr K (CStep K) "pays"
  ha_Step : PySem.W.findIn K (.ref (CStep K)) "__class__" = some (some (.builtin "object.__class__"))
  hm_Step : PySem.W.mroIn K (CStep K) (.type "object") = some true
  ki_Step : PySem.W.kitOne K (.ref (CStep K)) (.ref (CStep K)) = some true
  cl_House : Cls K (CHouse K)
  mk_House : Mk K (CHouse K) (He.ma K (CHouse K) "__init__")
  na_House_states : NoAttr K (CHouse K) "states"
  na_House_start : NoAttr K (CHouse K) "start"
  na_House_measures : NoAttr K (CHouse K) "measures"
  na_House_acts : NoAttr K (CHouse K) "acts"
  na_House_steps : NoAttr K (CHouse K) "steps"
  na_House_lots : NoAttr K (CHouse K) "lots"
  na_House_lots_of : NoAttr K (CHouse K) "lots_of"
  ha_House : PySem.W.findIn K (.ref (CHouse K)) "__class__" = some (some (.builtin "object.__class__"))
  hm_House : PySem.W.mroIn K (CHouse K) (.type "object") = some true
  ki_House : PySem.W.kitOne K (.ref (CHouse K)) (.ref (CHouse K)) = some true
  cl_Coming : Cls K (CComing K)
  mk_Coming : Mk K (CComing K) (He.ma K (CComing K) "__init__")
  na_Coming_numbers : NoAttr K (CComing K) "numbers"
  na_Coming_picks : NoAttr K (CComing K) "picks"
  na_Coming_ranks : NoAttr K (CComing K) "ranks"
  ha_Coming : PySem.W.findIn K (.ref (CComing K)) "__class__" = some (some (.builtin "object.__class__"))
  hm_Coming : PySem.W.mroIn K (CComing K) (.type "object") = some true
  ki_Coming : PySem.W.kitOne K (.ref (CComing K)) (.ref (CComing K)) = some true
  kr_int : PySem.W.kitOne K (.ref (CRatio K)) (.type "int") = some false
  kr_bool : PySem.W.kitOne K (.ref (CRatio K)) (.type "bool") = some false
  kr_tuple : PySem.W.kitOne K (.ref (CRatio K)) (.type "tuple") = some false
  kr_list : PySem.W.kitOne K (.ref (CRatio K)) (.type "list") = some false
  kr_dict : PySem.W.kitOne K (.ref (CRatio K)) (.type "dict") = some false
  kr_str : PySem.W.kitOne K (.ref (CRatio K)) (.type "str") = some false
  kn_int : PySem.W.kitOne K (.type "int") (.ref (CRatio K)) = some false
  hn : PySem.W.specialIn K (.builtin "object.__class__") "__get__" = some (some (.builtin "getset_descriptor.__get__"))
  htk : PySem.W.takesIn K (.builtin "object.__class__") = some true
  me_Ratio_over : Meth K (CRatio K) "over" (He.ma K (CRatio K) "over")
  me_Ratio_is_below : Meth K (CRatio K) "is_below" (He.ma K (CRatio K) "is_below")
  me_House_acts_at : Meth K (CHouse K) "acts_at" (He.ma K (CHouse K) "acts_at")
  me_House_steps_of : Meth K (CHouse K) "steps_of" (He.ma K (CHouse K) "steps_of")
  op_add : OpF K (CRatio K) (He.ma K (CRatio K) "__add__") (PySem.dunder "add")
  opr_add : OpRf K (CRatio K) "add"
  op_sub : OpF K (CRatio K) (He.ma K (CRatio K) "__sub__") (PySem.dunder "sub")
  opr_sub : OpRf K (CRatio K) "sub"
  op_mul : OpF K (CRatio K) (He.ma K (CRatio K) "__mul__") (PySem.dunder "mul")
  opr_mul : OpRf K (CRatio K) "mul"
  eq_at : PySem.W.findIn K (.ref (CRatio K)) "__eq__" = some (some (.ref (He.ma K (CRatio K) "__eq__")))
  eq_fn : PySem.W.isFn K (.ref (He.ma K (CRatio K) "__eq__")) = true
  ne_at : PySem.W.findIn K (.ref (CRatio K)) "__ne__" = some (some (.builtin "object.__ne__"))
  g_BadGoal : mg "BadGoal" = some (.ref (CBadGoal K))
  oex_BadGoal : OexC K (CBadGoal K)
  in_BadGoal : PySem.W.findIn K (.ref (CBadGoal K)) "__init__" = some (some (.ref (He.ma K (CBadGoal K) "__init__")))
  it_BadGoal : PySem.W.typeIn K (.ref (He.ma K (CBadGoal K) "__init__")) = some (.type "function")
  np_BadGoal : PySem.W.findIn K (.ref (CBadGoal K)) "part" = some none
  xf_BadGoal : XfC K (CBadGoal K)
  ec_BadGoal : ExcC K (CBadGoal K)
  em_BadGoal : PySem.W.exmAny K (.ref (CBadGoal K)) [.ref (CBadGoal K), .ref (CBadHouse K), .ref (CBadPlan K)] = some true
  ke_BadGoal_BadGoal : PySem.W.kitOne K (.ref (CBadGoal K)) (.ref (CBadGoal K)) = some true
  ke_BadGoal_BadHouse : PySem.W.kitOne K (.ref (CBadGoal K)) (.ref (CBadHouse K)) = some false
  ke_BadGoal_BadPlan : PySem.W.kitOne K (.ref (CBadGoal K)) (.ref (CBadPlan K)) = some false
  g_BadHouse : mg "BadHouse" = some (.ref (CBadHouse K))
  oex_BadHouse : OexC K (CBadHouse K)
  in_BadHouse : PySem.W.findIn K (.ref (CBadHouse K)) "__init__" = some (some (.ref (He.ma K (CBadHouse K) "__init__")))
  it_BadHouse : PySem.W.typeIn K (.ref (He.ma K (CBadHouse K) "__init__")) = some (.type "function")
  np_BadHouse : PySem.W.findIn K (.ref (CBadHouse K)) "part" = some none
  xf_BadHouse : XfC K (CBadHouse K)
  ec_BadHouse : ExcC K (CBadHouse K)
  em_BadHouse : PySem.W.exmAny K (.ref (CBadHouse K)) [.ref (CBadGoal K), .ref (CBadHouse K), .ref (CBadPlan K)] = some true
  ke_BadHouse_BadGoal : PySem.W.kitOne K (.ref (CBadHouse K)) (.ref (CBadGoal K)) = some false
  ke_BadHouse_BadHouse : PySem.W.kitOne K (.ref (CBadHouse K)) (.ref (CBadHouse K)) = some true
  ke_BadHouse_BadPlan : PySem.W.kitOne K (.ref (CBadHouse K)) (.ref (CBadPlan K)) = some false
  g_BadPlan : mg "BadPlan" = some (.ref (CBadPlan K))
  oex_BadPlan : OexC K (CBadPlan K)
  in_BadPlan : PySem.W.findIn K (.ref (CBadPlan K)) "__init__" = some (some (.ref (He.ma K (CBadPlan K) "__init__")))
  it_BadPlan : PySem.W.typeIn K (.ref (He.ma K (CBadPlan K) "__init__")) = some (.type "function")
  np_BadPlan : PySem.W.findIn K (.ref (CBadPlan K)) "part" = some none
  xf_BadPlan : XfC K (CBadPlan K)
  ec_BadPlan : ExcC K (CBadPlan K)
  em_BadPlan : PySem.W.exmAny K (.ref (CBadPlan K)) [.ref (CBadGoal K), .ref (CBadHouse K), .ref (CBadPlan K)] = some true
  ke_BadPlan_BadGoal : PySem.W.kitOne K (.ref (CBadPlan K)) (.ref (CBadGoal K)) = some false
  ke_BadPlan_BadHouse : PySem.W.kitOne K (.ref (CBadPlan K)) (.ref (CBadHouse K)) = some false
  ke_BadPlan_BadPlan : PySem.W.kitOne K (.ref (CBadPlan K)) (.ref (CBadPlan K)) = some true
  kh_list : PySem.W.kitOne K (.type "list") (.ref (CHouse K)) = some false
end Lc
set_option Elab.async false
set_option linter.all false
set_option maxRecDepth 100000
set_option maxHeartbeats 4000000
namespace Lc
open PySem PySem.Spec PyProof.Rows L2 LcR He
section
variable {K : PySem.W.Frag} {h : Heap} {mg : Str → Option Value}
theorem int_rel (X : K.In h) (G : h.Ns mainGlobals mg) {x : Str} {i : Int} (c : (Fa.int x i).ok K = true) : ∃ u, mg x = some u ∧ RelV (.int i) u := by
  obtain ⟨t, e⟩ := He.int_ok X G c
  exact ⟨_, e, ⟨t, rfl⟩⟩
theorem str_rel (X : K.In h) (G : h.Ns mainGlobals mg) {x z : Str} (c : (Fa.str x z).ok K = true) : ∃ u, mg x = some u ∧ RelV (.str z) u := by
  obtain ⟨t, e⟩ := He.str_ok X G c
  exact ⟨_, e, ⟨t, rfl⟩⟩
def nsB (x : Str) (v : Value) (K : PySem.W.Frag) : Bool := eqO (PySem.W.nsIn K mainGlobals x) (some (some v))
theorem nsB_ok (X : K.In h) (G : h.Ns mainGlobals mg) {x : Str} {v : Value} (c : nsB x v K = true) : mg x = some v := PySem.W.mg_of X G (eqO_ok c)
def opB (m : String) (K : PySem.W.Frag) : Bool := PySem.W.selfFirst K (CRatio K) && (eqO (PySem.W.findIn K (.ref (CRatio K)) (PySem.dunder m)) (some (some (.ref (He.ma K (CRatio K) (PySem.dunder m))))) && PySem.W.isFn K (.ref (He.ma K (CRatio K) (PySem.dunder m))))
theorem opB_ok {m : String} (c : opB m K = true) : OpF K (CRatio K) (He.ma K (CRatio K) (PySem.dunder m)) (PySem.dunder m) := by
  obtain ⟨c1, c⟩ := ba c
  obtain ⟨c2, c3⟩ := ba c
  exact ⟨c1, eqO_ok c2, c3⟩
def oprB (m : String) (K : PySem.W.Frag) : Bool := (match PySem.W.findIn K (.ref (CRatio K)) (dunderR m) with
  | some none => true
  | some (some (.ref _)) => true
  | _ => false) && ((PySem.W.findIn K (.type "int") (PySem.dunder m)).isSome && ((PySem.W.findIn K (.type "int") (dunderR m)).isSome && decide (PySem.W.subIn K (.type "int") (.ref (CRatio K)) = some false)))
theorem oprB_ok {m : String} (c : oprB m K = true) : OpRf K (CRatio K) m := by
  obtain ⟨c1, c⟩ := ba c
  obtain ⟨c2, c⟩ := ba c
  obtain ⟨c3, c4⟩ := ba c
  refine ⟨?_, ⟨_, Option.eq_some_of_isSome c2⟩, ⟨_, Option.eq_some_of_isSome c3⟩, of_decide_eq_true c4⟩
  cases e : PySem.W.findIn K (.ref (CRatio K)) (dunderR m) with
  | none =>
    rw [e] at c1
    cases c1
  | some r =>
    rw [e] at c1
    cases r with
    | none => exact ⟨_, rfl, .inl rfl⟩
    | some v =>
      cases v with
      | ref g => exact ⟨_, rfl, .inr ⟨g, rfl⟩⟩
      | _ => cases c1
end
/-! ### the hook: what stands at the names that the law needs -/
def outs (g : Addr → Option Obj) (as : List Addr) : List Addr := as.flatMap fun a => match g a with
  | some o => refsD o
  | none => []
def asX (ns : List Str) (g : Addr → Option Obj) : List Addr :=
  let l1 := ns.map (ga (frG g [mainGlobals]))
  let l2 := outs g l1
  let l3 := outs g l2
  let l4 := outs g l3
  let l := mainGlobals :: (l1 ++ (l2 ++ (l3 ++ l4)))
  match PySem.W.tabIn (frG g l) "law" with
  | some (_, P) => l.filter fun a => !(a == P)
  | none => l
def obsX (fa : List Fa) (ex : List (PySem.W.Frag → Bool)) (fn : List DefD) (K : PySem.W.Frag) : AlD := ((fa.all fun f => f.ok K) && ((ex.all fun f => f K) && fn.all fun d => d.ok K), fn.map fun d => fnW K d.at_)
def SaysX (fa : List Fa) (ex : List (PySem.W.Frag → Bool)) (fn : List DefD) (K : PySem.W.Frag) : Prop := obsX fa ex fn K = valD fn
def obsXG (ns : List Str) (fa : List Fa) (ex : List (PySem.W.Frag → Bool)) (fn : List DefD) (g : Addr → Option Obj) : AlD := obsX fa ex fn (frG g (asX ns g))
def hookX (ns : List Str) (fa : List Fa) (ex : List (PySem.W.Frag → Bool)) (fn : List DefD) : PySem.W.Hook where
  α := AlD
  obs := fun s => obsXG ns fa ex fn s.heap.get?
  val := fun _ => valD fn
  says := fun _ h => ∃ K : PySem.W.Frag, K.In h ∧ SaysX fa ex fn K
  of := fun _ _ e => ⟨_, frG_in, e⟩
  keeps := fun _ _ _ ⟨K, hK, c⟩ k => ⟨K, PySem.W.Frag.In.keeps hK k, c⟩
theorem obsXG_eq {ns : List Str} {fa : List Fa} {ex : List (PySem.W.Frag → Bool)} {fn : List DefD} {g : Addr → Option Obj} {s : Shared} (h : ∀ a, g a = s.heap.get? a) : obsXG ns fa ex fn g = (hookX ns fa ex fn).obs s := by
  have e : g = s.heap.get? := funext h
  rw [e] <;> rfl
section
variable {fa : List Fa} {ex : List (PySem.W.Frag → Bool)} {fn : List DefD} {K : PySem.W.Frag}
theorem SaysX.fact (c : SaysX fa ex fn K) (i : Nat) {f : Fa} (h : fa[i]? = some f) : f.ok K = true := by
  have c1 := (ba (show ((fa.all fun f => f.ok K) && ((ex.all fun f => f K) && fn.all fun d => d.ok K)) = true from congrArg (fun z : AlD => z.1) c)).1
  exact List.all_eq_true.mp c1 f (List.mem_of_getElem? h)
theorem SaysX.more (c : SaysX fa ex fn K) (i : Nat) {f : PySem.W.Frag → Bool} (h : ex[i]? = some f) : f K = true := by
  have c1 := (ba (ba (show ((fa.all fun f => f.ok K) && ((ex.all fun f => f K) && fn.all fun d => d.ok K)) = true from congrArg (fun z : AlD => z.1) c)).2).1
  exact List.all_eq_true.mp c1 f (List.mem_of_getElem? h)
theorem SaysX.def_ (c : SaysX fa ex fn K) (i : Nat) {d : DefD} (h : fn[i]? = some d) : ∃ fd, FunD K d.name d.qual d.params d.body d.scope (d.dvs K) (d.kws K) (fAd K d.at_) fd := by
  have c2 := (ba (ba (show ((fa.all fun f => f.ok K) && ((ex.all fun f => f K) && fn.all fun d => d.ok K)) = true from congrArg (fun z : AlD => z.1) c)).2).2
  have e : fn.map (fun d => fnW K d.at_) = fn.map DefD.val := congrArg (fun z : AlD => z.2) c
  have e2 : (fn.map fun d => fnW K d.at_)[i]? = (fn.map DefD.val)[i]? := by rw [e]
  rw [List.getElem?_map, List.getElem?_map, h] at e2
  exact DefD.funD (Option.some.inj e2) (List.all_eq_true.mp c2 d (List.mem_of_getElem? h))
end
def d_is_integer : DefD := ⟨("is_integer", none), "is_integer", "is_integer", defArgs s_is_integer, defBody s_is_integer, defScope s_is_integer, [], []⟩
def d_is_within : DefD := ⟨("is_within", none), "is_within", "is_within", defArgs s_is_within, defBody s_is_within, defScope s_is_within, [], []⟩
def d_is_name : DefD := ⟨("is_name", none), "is_name", "is_name", defArgs s_is_name, defBody s_is_name, defScope s_is_name, [], []⟩
def d_is_lot : DefD := ⟨("is_lot", none), "is_lot", "is_lot", defArgs s_is_lot, defBody s_is_lot, defScope s_is_lot, [], []⟩
def d_top_of : DefD := ⟨("top_of", none), "top_of", "top_of", defArgs s_top_of, defBody s_top_of, defScope s_top_of, [], []⟩
def d_bottom_of : DefD := ⟨("bottom_of", none), "bottom_of", "bottom_of", defArgs s_bottom_of, defBody s_bottom_of, defScope s_bottom_of, [], []⟩
def d_is_measures : DefD := ⟨("is_measures", none), "is_measures", "is_measures", defArgs s_is_measures, defBody s_is_measures, defScope s_is_measures, [], []⟩
def d_is_pay : DefD := ⟨("is_pay", none), "is_pay", "is_pay", defArgs s_is_pay, defBody s_is_pay, defScope s_is_pay, [], []⟩
def d_is_outcome : DefD := ⟨("is_outcome", none), "is_outcome", "is_outcome", defArgs s_is_outcome, defBody s_is_outcome, defScope s_is_outcome, [], []⟩
def d_is_act : DefD := ⟨("is_act", none), "is_act", "is_act", defArgs s_is_act, defBody s_is_act, defScope s_is_act, [], []⟩
def d_need_parts : DefD := ⟨("need_parts", none), "need_parts", "need_parts", defArgs s_need_parts, defBody s_need_parts, defScope s_need_parts, [], []⟩
def d_steps_from : DefD := ⟨("steps_from", none), "steps_from", "steps_from", defArgs s_steps_from, defBody s_steps_from, defScope s_steps_from, [], []⟩
def d_lots_of_acts : DefD := ⟨("lots_of_acts", none), "lots_of_acts", "lots_of_acts", defArgs s_lots_of_acts, defBody s_lots_of_acts, defScope s_lots_of_acts, [], []⟩
def d_need_house : DefD := ⟨("need_house", none), "need_house", "need_house", defArgs s_need_house, defBody s_need_house, defScope s_need_house, [], []⟩
def d_need_state : DefD := ⟨("need_state", none), "need_state", "need_state", defArgs s_need_state, defBody s_need_state, defScope s_need_state, [], []⟩
def d_parts_in : DefD := ⟨("parts_in", none), "parts_in", "parts_in", defArgs s_parts_in, defBody s_parts_in, defScope s_parts_in, [], []⟩
def d_made_anew : DefD := ⟨("made_anew", none), "made_anew", "made_anew", defArgs s_made_anew, defBody s_made_anew, defScope s_made_anew, [], []⟩
def d_copied : DefD := ⟨("copied", none), "copied", "copied", defArgs s_copied, defBody s_copied, defScope s_copied, [], []⟩
def d_need_goal : DefD := ⟨("need_goal", none), "need_goal", "need_goal", defArgs s_need_goal, defBody s_need_goal, defScope s_need_goal, [], []⟩
def d_targets_of : DefD := ⟨("targets_of", none), "targets_of", "targets_of", defArgs s_targets_of, defBody s_targets_of, defScope s_targets_of, [], []⟩
def d_mean_at : DefD := ⟨("mean_at", none), "mean_at", "mean_at", defArgs s_mean_at, defBody s_mean_at, defScope s_mean_at, [], []⟩
def d_eliminated : DefD := ⟨("eliminated", none), "eliminated", "eliminated", defArgs s_eliminated, defBody s_eliminated, defScope s_eliminated, [], []⟩
def d_solved : DefD := ⟨("solved", none), "solved", "solved", defArgs s_solved, defBody s_solved, defScope s_solved, [], []⟩
def d_led_to : DefD := ⟨("led_to", none), "led_to", "led_to", defArgs s_led_to, defBody s_led_to, defScope s_led_to, [], []⟩
def d_had_by : DefD := ⟨("had_by", none), "had_by", "had_by", defArgs s_had_by, defBody s_had_by, defScope s_had_by, [], []⟩
def d_first_picks : DefD := ⟨("first_picks", none), "first_picks", "first_picks", defArgs s_first_picks, defBody s_first_picks, defScope s_first_picks, [], []⟩
def d_better_pick : DefD := ⟨("better_pick", none), "better_pick", "better_pick", defArgs s_better_pick, defBody s_better_pick, defScope s_better_pick, [], []⟩
def d_best_picks : DefD := ⟨("best_picks", none), "best_picks", "best_picks", defArgs s_best_picks, defBody s_best_picks, defScope s_best_picks, [], []⟩
def d_ranked : DefD := ⟨("ranked", none), "ranked", "ranked", defArgs s_ranked, defBody s_ranked, defScope s_ranked, [], []⟩
def d_greatest_coming : DefD := ⟨("greatest_coming", none), "greatest_coming", "greatest_coming", defArgs s_greatest_coming, defBody s_greatest_coming, defScope s_greatest_coming, [], []⟩
def d_chance_by : DefD := ⟨("chance_by", none), "chance_by", "chance_by", defArgs s_chance_by, defBody s_chance_by, defScope s_chance_by, [], []⟩
def d_law_pen : DefD := ⟨("_law_pen", none), "_law_pen", "_law_pen", defArgs s_law_pen, defBody s_law_pen, defScope s_law_pen, [], []⟩
def d_law_draw : DefD := ⟨("_law_draw", none), "_law_draw", "_law_draw", defArgs s_law_draw, defBody s_law_draw, defScope s_law_draw, [], []⟩
def d_law_pick : DefD := ⟨("_law_pick", none), "_law_pick", "_law_pick", defArgs s_law_pick, defBody s_law_pick, defScope s_law_pick, [], []⟩
def d_law_acts : DefD := ⟨("_law_acts", none), "_law_acts", "_law_acts", defArgs s_law_acts, defBody s_law_acts, defScope s_law_acts, [], []⟩
def d_law_near : DefD := ⟨("_law_near", none), "_law_near", "_law_near", defArgs s_law_near, defBody s_law_near, defScope s_law_near, [], []⟩
def d_law_solved : DefD := ⟨("_law_solved", none), "_law_solved", "_law_solved", defArgs s_law_solved, defBody s_law_solved, defScope s_law_solved, [], []⟩
def d_law_by : DefD := ⟨("_law_by", none), "_law_by", "_law_by", defArgs s_law_by, defBody s_law_by, defScope s_law_by, [], []⟩
def d_law_choices : DefD := ⟨("_law_choices", none), "_law_choices", "_law_choices", defArgs s_law_choices, defBody s_law_choices, defScope s_law_choices, [], []⟩
def d_law_heard : DefD := ⟨("_law_heard", none), "_law_heard", "_law_heard", defArgs s_law_heard, defBody s_law_heard, defScope s_law_heard, [], []⟩
def d_law : DefD := ⟨("law", none), "law", "law", defArgs s_law, defBody s_law, defScope s_law, [], []⟩
def d_Ratio_init : DefD := ⟨("Ratio", some "__init__"), "__init__", "Ratio.__init__", defArgs s_Ratio_init, defBody s_Ratio_init, defScope s_Ratio_init, [.int 1], []⟩
def d_Ratio_add : DefD := ⟨("Ratio", some "__add__"), "__add__", "Ratio.__add__", defArgs s_Ratio_add, defBody s_Ratio_add, defScope s_Ratio_add, [], []⟩
def d_Ratio_sub : DefD := ⟨("Ratio", some "__sub__"), "__sub__", "Ratio.__sub__", defArgs s_Ratio_sub, defBody s_Ratio_sub, defScope s_Ratio_sub, [], []⟩
def d_Ratio_mul : DefD := ⟨("Ratio", some "__mul__"), "__mul__", "Ratio.__mul__", defArgs s_Ratio_mul, defBody s_Ratio_mul, defScope s_Ratio_mul, [], []⟩
def d_Ratio_eq : DefD := ⟨("Ratio", some "__eq__"), "__eq__", "Ratio.__eq__", defArgs s_Ratio_eq, defBody s_Ratio_eq, defScope s_Ratio_eq, [], []⟩
def d_Ratio_over : DefD := ⟨("Ratio", some "over"), "over", "Ratio.over", defArgs s_Ratio_over, defBody s_Ratio_over, defScope s_Ratio_over, [], []⟩
def d_Ratio_is_below : DefD := ⟨("Ratio", some "is_below"), "is_below", "Ratio.is_below", defArgs s_Ratio_is_below, defBody s_Ratio_is_below, defScope s_Ratio_is_below, [], []⟩
def d_Step_init : DefD := ⟨("Step", some "__init__"), "__init__", "Step.__init__", defArgs s_Step_init, defBody s_Step_init, defScope s_Step_init, [], []⟩
def d_House_init : DefD := ⟨("House", some "__init__"), "__init__", "House.__init__", defArgs s_House_init, defBody s_House_init, defScope s_House_init, [.non], []⟩
def d_House_acts_at : DefD := ⟨("House", some "acts_at"), "acts_at", "House.acts_at", defArgs s_House_acts_at, defBody s_House_acts_at, defScope s_House_acts_at, [], []⟩
def d_House_steps_of : DefD := ⟨("House", some "steps_of"), "steps_of", "House.steps_of", defArgs s_House_steps_of, defBody s_House_steps_of, defScope s_House_steps_of, [], []⟩
def d_Coming_init : DefD := ⟨("Coming", some "__init__"), "__init__", "Coming.__init__", defArgs s_Coming_init, defBody s_Coming_init, defScope s_Coming_init, [], []⟩
def d_BadGoal_init : DefD := ⟨("BadGoal", some "__init__"), "__init__", "BadGoal.__init__", defArgs s_BadGoal_init, defBody s_BadGoal_init, defScope s_BadGoal_init, [], []⟩
def d_BadHouse_init : DefD := ⟨("BadHouse", some "__init__"), "__init__", "BadHouse.__init__", defArgs s_BadHouse_init, defBody s_BadHouse_init, defScope s_BadHouse_init, [], []⟩
def d_BadPlan_init : DefD := ⟨("BadPlan", some "__init__"), "__init__", "BadPlan.__init__", defArgs s_BadPlan_init, defBody s_BadPlan_init, defScope s_BadPlan_init, [], []⟩
def tabB (K : PySem.W.Frag) : Bool := match PySem.W.tabIn K "law" with
  | some (_, P) => (K.lookup P).isNone
  | none => false
def ex0 : PySem.W.Frag → Bool := nsB "gcd" (.builtin "math.gcd")
def ex1 : PySem.W.Frag → Bool := fun K => eqO (PySem.W.findIn K (.ref (CRatio K)) "__class__") (some (some (.builtin "object.__class__")))
def ex2 : PySem.W.Frag → Bool := fun K => decide (PySem.W.mroIn K (CRatio K) (.type "object") = some true)
def ex3 : PySem.W.Frag → Bool := fun K => decide (PySem.W.kitOne K (.ref (CRatio K)) (.ref (CRatio K)) = some true)
def ex4 : PySem.W.Frag → Bool := fun K => eqO (PySem.W.findIn K (.ref (CStep K)) "__class__") (some (some (.builtin "object.__class__")))
def ex5 : PySem.W.Frag → Bool := fun K => decide (PySem.W.mroIn K (CStep K) (.type "object") = some true)
def ex6 : PySem.W.Frag → Bool := fun K => decide (PySem.W.kitOne K (.ref (CStep K)) (.ref (CStep K)) = some true)
def ex7 : PySem.W.Frag → Bool := fun K => eqO (PySem.W.findIn K (.ref (CHouse K)) "__class__") (some (some (.builtin "object.__class__")))
def ex8 : PySem.W.Frag → Bool := fun K => decide (PySem.W.mroIn K (CHouse K) (.type "object") = some true)
def ex9 : PySem.W.Frag → Bool := fun K => decide (PySem.W.kitOne K (.ref (CHouse K)) (.ref (CHouse K)) = some true)
def ex10 : PySem.W.Frag → Bool := fun K => eqO (PySem.W.findIn K (.ref (CComing K)) "__class__") (some (some (.builtin "object.__class__")))
def ex11 : PySem.W.Frag → Bool := fun K => decide (PySem.W.mroIn K (CComing K) (.type "object") = some true)
def ex12 : PySem.W.Frag → Bool := fun K => decide (PySem.W.kitOne K (.ref (CComing K)) (.ref (CComing K)) = some true)
def ex13 : PySem.W.Frag → Bool := fun K => decide (PySem.W.kitOne K (.ref (CRatio K)) (.type "int") = some false)
def ex14 : PySem.W.Frag → Bool := fun K => decide (PySem.W.kitOne K (.ref (CRatio K)) (.type "bool") = some false)
def ex15 : PySem.W.Frag → Bool := fun K => decide (PySem.W.kitOne K (.ref (CRatio K)) (.type "tuple") = some false)
def ex16 : PySem.W.Frag → Bool := fun K => decide (PySem.W.kitOne K (.ref (CRatio K)) (.type "list") = some false)
def ex17 : PySem.W.Frag → Bool := fun K => decide (PySem.W.kitOne K (.ref (CRatio K)) (.type "dict") = some false)
def ex18 : PySem.W.Frag → Bool := fun K => decide (PySem.W.kitOne K (.ref (CRatio K)) (.type "str") = some false)
def ex19 : PySem.W.Frag → Bool := fun K => decide (PySem.W.kitOne K (.type "int") (.ref (CRatio K)) = some false)
def ex20 : PySem.W.Frag → Bool := fun K => decide (PySem.W.specialIn K (.builtin "object.__class__") "__get__" = some (some (.builtin "getset_descriptor.__get__")))
def ex21 : PySem.W.Frag → Bool := fun K => decide (PySem.W.takesIn K (.builtin "object.__class__") = some true)
def ex22 : PySem.W.Frag → Bool := opB "add"
def ex23 : PySem.W.Frag → Bool := oprB "add"
def ex24 : PySem.W.Frag → Bool := opB "sub"
def ex25 : PySem.W.Frag → Bool := oprB "sub"
def ex26 : PySem.W.Frag → Bool := opB "mul"
def ex27 : PySem.W.Frag → Bool := oprB "mul"
def ex28 : PySem.W.Frag → Bool := fun K => eqO (PySem.W.findIn K (.ref (CRatio K)) "__eq__") (some (some (.ref (He.ma K (CRatio K) "__eq__"))))
def ex29 : PySem.W.Frag → Bool := fun K => PySem.W.isFn K (.ref (He.ma K (CRatio K) "__eq__"))
def ex30 : PySem.W.Frag → Bool := fun K => eqO (PySem.W.findIn K (.ref (CRatio K)) "__ne__") (some (some (.builtin "object.__ne__")))
def ex31 : PySem.W.Frag → Bool := fun K => LcX.oexB K (CBadGoal K)
def ex32 : PySem.W.Frag → Bool := fun K => eqO (PySem.W.findIn K (.ref (CBadGoal K)) "__init__") (some (some (.ref (He.ma K (CBadGoal K) "__init__"))))
def ex33 : PySem.W.Frag → Bool := fun K => decide (PySem.W.typeIn K (.ref (He.ma K (CBadGoal K) "__init__")) = some (.type "function"))
def ex34 : PySem.W.Frag → Bool := fun K => decide (PySem.W.findIn K (.ref (CBadGoal K)) "part" = some none)
def ex35 : PySem.W.Frag → Bool := fun K => xfB K (CBadGoal K)
def ex36 : PySem.W.Frag → Bool := fun K => LcX.isExcB K (CBadGoal K)
def ex37 : PySem.W.Frag → Bool := fun K => decide (PySem.W.exmAny K (.ref (CBadGoal K)) [.ref (CBadGoal K), .ref (CBadHouse K), .ref (CBadPlan K)] = some true)
def ex38 : PySem.W.Frag → Bool := fun K => decide (PySem.W.kitOne K (.ref (CBadGoal K)) (.ref (CBadGoal K)) = some true)
def ex39 : PySem.W.Frag → Bool := fun K => decide (PySem.W.kitOne K (.ref (CBadGoal K)) (.ref (CBadHouse K)) = some false)
def ex40 : PySem.W.Frag → Bool := fun K => decide (PySem.W.kitOne K (.ref (CBadGoal K)) (.ref (CBadPlan K)) = some false)
def ex41 : PySem.W.Frag → Bool := fun K => LcX.oexB K (CBadHouse K)
def ex42 : PySem.W.Frag → Bool := fun K => eqO (PySem.W.findIn K (.ref (CBadHouse K)) "__init__") (some (some (.ref (He.ma K (CBadHouse K) "__init__"))))
def ex43 : PySem.W.Frag → Bool := fun K => decide (PySem.W.typeIn K (.ref (He.ma K (CBadHouse K) "__init__")) = some (.type "function"))
def ex44 : PySem.W.Frag → Bool := fun K => decide (PySem.W.findIn K (.ref (CBadHouse K)) "part" = some none)
def ex45 : PySem.W.Frag → Bool := fun K => xfB K (CBadHouse K)
def ex46 : PySem.W.Frag → Bool := fun K => LcX.isExcB K (CBadHouse K)
def ex47 : PySem.W.Frag → Bool := fun K => decide (PySem.W.exmAny K (.ref (CBadHouse K)) [.ref (CBadGoal K), .ref (CBadHouse K), .ref (CBadPlan K)] = some true)
def ex48 : PySem.W.Frag → Bool := fun K => decide (PySem.W.kitOne K (.ref (CBadHouse K)) (.ref (CBadGoal K)) = some false)
def ex49 : PySem.W.Frag → Bool := fun K => decide (PySem.W.kitOne K (.ref (CBadHouse K)) (.ref (CBadHouse K)) = some true)
def ex50 : PySem.W.Frag → Bool := fun K => decide (PySem.W.kitOne K (.ref (CBadHouse K)) (.ref (CBadPlan K)) = some false)
def ex51 : PySem.W.Frag → Bool := fun K => LcX.oexB K (CBadPlan K)
def ex52 : PySem.W.Frag → Bool := fun K => eqO (PySem.W.findIn K (.ref (CBadPlan K)) "__init__") (some (some (.ref (He.ma K (CBadPlan K) "__init__"))))
def ex53 : PySem.W.Frag → Bool := fun K => decide (PySem.W.typeIn K (.ref (He.ma K (CBadPlan K) "__init__")) = some (.type "function"))
def ex54 : PySem.W.Frag → Bool := fun K => decide (PySem.W.findIn K (.ref (CBadPlan K)) "part" = some none)
def ex55 : PySem.W.Frag → Bool := fun K => xfB K (CBadPlan K)
def ex56 : PySem.W.Frag → Bool := fun K => LcX.isExcB K (CBadPlan K)
def ex57 : PySem.W.Frag → Bool := fun K => decide (PySem.W.exmAny K (.ref (CBadPlan K)) [.ref (CBadGoal K), .ref (CBadHouse K), .ref (CBadPlan K)] = some true)
def ex58 : PySem.W.Frag → Bool := fun K => decide (PySem.W.kitOne K (.ref (CBadPlan K)) (.ref (CBadGoal K)) = some false)
def ex59 : PySem.W.Frag → Bool := fun K => decide (PySem.W.kitOne K (.ref (CBadPlan K)) (.ref (CBadHouse K)) = some false)
def ex60 : PySem.W.Frag → Bool := fun K => decide (PySem.W.kitOne K (.ref (CBadPlan K)) (.ref (CBadPlan K)) = some true)
def ex61 : PySem.W.Frag → Bool := fun K => decide (PySem.W.kitOne K (.type "list") (.ref (CHouse K)) = some false)
def ex62 : PySem.W.Frag → Bool := tabB
def nsL0 : List Str := [("Ratio" : Str), ("Step" : Str), ("House" : Str), ("Coming" : Str), ("BadGoal" : Str), ("BadHouse" : Str), ("BadPlan" : Str), ("is_integer" : Str), ("is_within" : Str), ("is_name" : Str), ("is_lot" : Str), ("top_of" : Str), ("bottom_of" : Str), ("is_measures" : Str), ("is_pay" : Str), ("is_outcome" : Str), ("is_act" : Str), ("need_parts" : Str), ("steps_from" : Str), ("lots_of_acts" : Str), ("need_house" : Str), ("need_state" : Str), ("parts_in" : Str), ("made_anew" : Str), ("copied" : Str), ("need_goal" : Str), ("targets_of" : Str), ("mean_at" : Str), ("eliminated" : Str), ("solved" : Str)]
def nsL1 : List Str := [("led_to" : Str), ("had_by" : Str), ("first_picks" : Str), ("better_pick" : Str), ("best_picks" : Str), ("ranked" : Str), ("greatest_coming" : Str), ("chance_by" : Str), ("_law_pen" : Str), ("_law_draw" : Str), ("_law_pick" : Str), ("_law_acts" : Str), ("_law_near" : Str), ("_law_solved" : Str), ("_law_by" : Str), ("_law_choices" : Str), ("_law_heard" : Str), ("law" : Str)]
def nsL : List Str := nsL0 ++ nsL1
def faL0 : List Fa := [.free "int", .free "bool", .free "str", .free "tuple", .free "list", .free "dict", .free "len", .free "isinstance", .free "range", .free "zip", .free "enumerate", .free "sorted", .free "min", .free "sum", .free "all", .free "abs", .free "any", .free "repr", .glo "Ratio", .glo "Step", .glo "House", .glo "Coming", .glo "is_integer", .glo "is_within", .glo "is_name", .glo "is_lot", .glo "top_of", .glo "bottom_of", .glo "is_measures", .glo "is_pay"]
def faL1 : List Fa := [.glo "is_outcome", .glo "is_act", .glo "need_parts", .glo "steps_from", .glo "lots_of_acts", .glo "need_house", .glo "need_state", .glo "parts_in", .glo "made_anew", .glo "copied", .glo "need_goal", .glo "targets_of", .glo "mean_at", .glo "eliminated", .glo "solved", .glo "led_to", .glo "had_by", .glo "first_picks", .glo "better_pick", .glo "best_picks", .glo "ranked", .glo "greatest_coming", .glo "chance_by", .glo "_law_pen", .glo "_law_draw", .glo "_law_pick", .glo "_law_acts", .glo "_law_near", .glo "_law_solved", .glo "_law_by"]
def faL2 : List Fa := [.glo "_law_choices", .glo "_law_heard", .glo "law", .str "LETTERS" "abcdefghijklmnopqrstuvwxyz", .int "MOST_LETTERS" 8, .int "MOST_STATES" 200, .int "MOST_ACTS" 600, .int "MOST_STEPS" 1200, .int "MOST_ODDS" 1000, .int "MOST_TIME" 1000, .int "MOST_PAY" 999999999999, .int "MOST_MEASURES" 4, .int "MOST_EVENTS" 200, .cls "Ratio", .mkr "Ratio", .noat "Ratio" "top", .noat "Ratio" "bottom", .cls "Step", .mkr "Step", .noat "Step" "act", .noat "Step" "source", .noat "Step" "target", .noat "Step" "odds", .noat "Step" "time", .noat "Step" "pays", .cls "House", .mkr "House", .noat "House" "states", .noat "House" "start", .noat "House" "measures"]
def faL3 : List Fa := [.noat "House" "acts", .noat "House" "steps", .noat "House" "lots", .noat "House" "lots_of", .cls "Coming", .mkr "Coming", .noat "Coming" "numbers", .noat "Coming" "picks", .noat "Coming" "ranks", .meth "Ratio" "over", .meth "Ratio" "is_below", .meth "House" "acts_at", .meth "House" "steps_of", .glo "BadGoal", .glo "BadHouse", .glo "BadPlan"]
def faL : List Fa := faL0 ++ faL1 ++ faL2 ++ faL3
def exL0 : List (PySem.W.Frag → Bool) := [ex0, ex1, ex2, ex3, ex4, ex5, ex6, ex7, ex8, ex9, ex10, ex11, ex12, ex13, ex14, ex15, ex16, ex17, ex18, ex19, ex20, ex21, ex22, ex23, ex24, ex25, ex26, ex27, ex28, ex29]
def exL1 : List (PySem.W.Frag → Bool) := [ex30, ex31, ex32, ex33, ex34, ex35, ex36, ex37, ex38, ex39, ex40, ex41, ex42, ex43, ex44, ex45, ex46, ex47, ex48, ex49, ex50, ex51, ex52, ex53, ex54, ex55, ex56, ex57, ex58, ex59]
def exL2 : List (PySem.W.Frag → Bool) := [ex60, ex61, ex62]
def exL : List (PySem.W.Frag → Bool) := exL0 ++ exL1 ++ exL2
def fnL0 : List DefD := [d_is_integer, d_is_within, d_is_name, d_is_lot, d_top_of, d_bottom_of, d_is_measures, d_is_pay, d_is_outcome, d_is_act, d_need_parts, d_steps_from, d_lots_of_acts, d_need_house, d_need_state, d_parts_in, d_made_anew, d_copied, d_need_goal, d_targets_of, d_mean_at, d_eliminated, d_solved, d_led_to, d_had_by, d_first_picks, d_better_pick, d_best_picks, d_ranked, d_greatest_coming]
def fnL1 : List DefD := [d_chance_by, d_law_pen, d_law_draw, d_law_pick, d_law_acts, d_law_near, d_law_solved, d_law_by, d_law_choices, d_law_heard, d_law, d_Ratio_init, d_Ratio_add, d_Ratio_sub, d_Ratio_mul, d_Ratio_eq, d_Ratio_over, d_Ratio_is_below, d_Step_init, d_House_init, d_House_acts_at, d_House_steps_of, d_Coming_init, d_BadGoal_init, d_BadHouse_init, d_BadPlan_init]
def fnL : List DefD := fnL0 ++ fnL1
theorem tx_of {K : PySem.W.Frag} {h : Heap} {mg : Str → Option Value} (X : K.In h) (G : h.Ns mainGlobals mg) (c : SaysX faL exL fnL K) : Tx K mg where
  b_int := He.free_ok X G (c.fact 0 (f := .free "int") rfl)
  b_bool := He.free_ok X G (c.fact 1 (f := .free "bool") rfl)
  b_str := He.free_ok X G (c.fact 2 (f := .free "str") rfl)
  b_tuple := He.free_ok X G (c.fact 3 (f := .free "tuple") rfl)
  b_list := He.free_ok X G (c.fact 4 (f := .free "list") rfl)
  b_dict := He.free_ok X G (c.fact 5 (f := .free "dict") rfl)
  b_len := He.free_ok X G (c.fact 6 (f := .free "len") rfl)
  b_isinstance := He.free_ok X G (c.fact 7 (f := .free "isinstance") rfl)
  b_range := He.free_ok X G (c.fact 8 (f := .free "range") rfl)
  b_zip := He.free_ok X G (c.fact 9 (f := .free "zip") rfl)
  b_enumerate := He.free_ok X G (c.fact 10 (f := .free "enumerate") rfl)
  b_sorted := He.free_ok X G (c.fact 11 (f := .free "sorted") rfl)
  b_min := He.free_ok X G (c.fact 12 (f := .free "min") rfl)
  b_sum := He.free_ok X G (c.fact 13 (f := .free "sum") rfl)
  b_all := He.free_ok X G (c.fact 14 (f := .free "all") rfl)
  b_abs := He.free_ok X G (c.fact 15 (f := .free "abs") rfl)
  b_any := He.free_ok X G (c.fact 16 (f := .free "any") rfl)
  b_repr := He.free_ok X G (c.fact 17 (f := .free "repr") rfl)
  g_Ratio := He.glo_ok X G (c.fact 18 (f := .glo "Ratio") rfl)
  g_Step := He.glo_ok X G (c.fact 19 (f := .glo "Step") rfl)
  g_House := He.glo_ok X G (c.fact 20 (f := .glo "House") rfl)
  g_Coming := He.glo_ok X G (c.fact 21 (f := .glo "Coming") rfl)
  g_is_integer := He.glo_ok X G (c.fact 22 (f := .glo "is_integer") rfl)
  g_is_within := He.glo_ok X G (c.fact 23 (f := .glo "is_within") rfl)
  g_is_name := He.glo_ok X G (c.fact 24 (f := .glo "is_name") rfl)
  g_is_lot := He.glo_ok X G (c.fact 25 (f := .glo "is_lot") rfl)
  g_top_of := He.glo_ok X G (c.fact 26 (f := .glo "top_of") rfl)
  g_bottom_of := He.glo_ok X G (c.fact 27 (f := .glo "bottom_of") rfl)
  g_is_measures := He.glo_ok X G (c.fact 28 (f := .glo "is_measures") rfl)
  g_is_pay := He.glo_ok X G (c.fact 29 (f := .glo "is_pay") rfl)
  g_is_outcome := He.glo_ok X G (c.fact 30 (f := .glo "is_outcome") rfl)
  g_is_act := He.glo_ok X G (c.fact 31 (f := .glo "is_act") rfl)
  g_need_parts := He.glo_ok X G (c.fact 32 (f := .glo "need_parts") rfl)
  g_steps_from := He.glo_ok X G (c.fact 33 (f := .glo "steps_from") rfl)
  g_lots_of_acts := He.glo_ok X G (c.fact 34 (f := .glo "lots_of_acts") rfl)
  g_need_house := He.glo_ok X G (c.fact 35 (f := .glo "need_house") rfl)
  g_need_state := He.glo_ok X G (c.fact 36 (f := .glo "need_state") rfl)
  g_parts_in := He.glo_ok X G (c.fact 37 (f := .glo "parts_in") rfl)
  g_made_anew := He.glo_ok X G (c.fact 38 (f := .glo "made_anew") rfl)
  g_copied := He.glo_ok X G (c.fact 39 (f := .glo "copied") rfl)
  g_need_goal := He.glo_ok X G (c.fact 40 (f := .glo "need_goal") rfl)
  g_targets_of := He.glo_ok X G (c.fact 41 (f := .glo "targets_of") rfl)
  g_mean_at := He.glo_ok X G (c.fact 42 (f := .glo "mean_at") rfl)
  g_eliminated := He.glo_ok X G (c.fact 43 (f := .glo "eliminated") rfl)
  g_solved := He.glo_ok X G (c.fact 44 (f := .glo "solved") rfl)
  g_led_to := He.glo_ok X G (c.fact 45 (f := .glo "led_to") rfl)
  g_had_by := He.glo_ok X G (c.fact 46 (f := .glo "had_by") rfl)
  g_first_picks := He.glo_ok X G (c.fact 47 (f := .glo "first_picks") rfl)
  g_better_pick := He.glo_ok X G (c.fact 48 (f := .glo "better_pick") rfl)
  g_best_picks := He.glo_ok X G (c.fact 49 (f := .glo "best_picks") rfl)
  g_ranked := He.glo_ok X G (c.fact 50 (f := .glo "ranked") rfl)
  g_greatest_coming := He.glo_ok X G (c.fact 51 (f := .glo "greatest_coming") rfl)
  g_chance_by := He.glo_ok X G (c.fact 52 (f := .glo "chance_by") rfl)
  g_law_pen := He.glo_ok X G (c.fact 53 (f := .glo "_law_pen") rfl)
  g_law_draw := He.glo_ok X G (c.fact 54 (f := .glo "_law_draw") rfl)
  g_law_pick := He.glo_ok X G (c.fact 55 (f := .glo "_law_pick") rfl)
  g_law_acts := He.glo_ok X G (c.fact 56 (f := .glo "_law_acts") rfl)
  g_law_near := He.glo_ok X G (c.fact 57 (f := .glo "_law_near") rfl)
  g_law_solved := He.glo_ok X G (c.fact 58 (f := .glo "_law_solved") rfl)
  g_law_by := He.glo_ok X G (c.fact 59 (f := .glo "_law_by") rfl)
  g_law_choices := He.glo_ok X G (c.fact 60 (f := .glo "_law_choices") rfl)
  g_law_heard := He.glo_ok X G (c.fact 61 (f := .glo "_law_heard") rfl)
  g_law := He.glo_ok X G (c.fact 62 (f := .glo "law") rfl)
  k_LETTERS := str_rel X G (c.fact 63 (f := .str "LETTERS" "abcdefghijklmnopqrstuvwxyz") rfl)
  k_MOST_LETTERS := int_rel X G (c.fact 64 (f := .int "MOST_LETTERS" 8) rfl)
  k_MOST_STATES := int_rel X G (c.fact 65 (f := .int "MOST_STATES" 200) rfl)
  k_MOST_ACTS := int_rel X G (c.fact 66 (f := .int "MOST_ACTS" 600) rfl)
  k_MOST_STEPS := int_rel X G (c.fact 67 (f := .int "MOST_STEPS" 1200) rfl)
  k_MOST_ODDS := int_rel X G (c.fact 68 (f := .int "MOST_ODDS" 1000) rfl)
  k_MOST_TIME := int_rel X G (c.fact 69 (f := .int "MOST_TIME" 1000) rfl)
  k_MOST_PAY := int_rel X G (c.fact 70 (f := .int "MOST_PAY" 999999999999) rfl)
  k_MOST_MEASURES := int_rel X G (c.fact 71 (f := .int "MOST_MEASURES" 4) rfl)
  k_MOST_EVENTS := int_rel X G (c.fact 72 (f := .int "MOST_EVENTS" 200) rfl)
  gcd := nsB_ok X G (c.more 0 (f := ex0) rfl)
  f_is_integer := c.def_ 0 (d := d_is_integer) rfl
  f_is_within := c.def_ 1 (d := d_is_within) rfl
  f_is_name := c.def_ 2 (d := d_is_name) rfl
  f_is_lot := c.def_ 3 (d := d_is_lot) rfl
  f_top_of := c.def_ 4 (d := d_top_of) rfl
  f_bottom_of := c.def_ 5 (d := d_bottom_of) rfl
  f_is_measures := c.def_ 6 (d := d_is_measures) rfl
  f_is_pay := c.def_ 7 (d := d_is_pay) rfl
  f_is_outcome := c.def_ 8 (d := d_is_outcome) rfl
  f_is_act := c.def_ 9 (d := d_is_act) rfl
  f_need_parts := c.def_ 10 (d := d_need_parts) rfl
  f_steps_from := c.def_ 11 (d := d_steps_from) rfl
  f_lots_of_acts := c.def_ 12 (d := d_lots_of_acts) rfl
  f_need_house := c.def_ 13 (d := d_need_house) rfl
  f_need_state := c.def_ 14 (d := d_need_state) rfl
  f_parts_in := c.def_ 15 (d := d_parts_in) rfl
  f_made_anew := c.def_ 16 (d := d_made_anew) rfl
  f_copied := c.def_ 17 (d := d_copied) rfl
  f_need_goal := c.def_ 18 (d := d_need_goal) rfl
  f_targets_of := c.def_ 19 (d := d_targets_of) rfl
  f_mean_at := c.def_ 20 (d := d_mean_at) rfl
  f_eliminated := c.def_ 21 (d := d_eliminated) rfl
  f_solved := c.def_ 22 (d := d_solved) rfl
  f_led_to := c.def_ 23 (d := d_led_to) rfl
  f_had_by := c.def_ 24 (d := d_had_by) rfl
  f_first_picks := c.def_ 25 (d := d_first_picks) rfl
  f_better_pick := c.def_ 26 (d := d_better_pick) rfl
  f_best_picks := c.def_ 27 (d := d_best_picks) rfl
  f_ranked := c.def_ 28 (d := d_ranked) rfl
  f_greatest_coming := c.def_ 29 (d := d_greatest_coming) rfl
  f_chance_by := c.def_ 30 (d := d_chance_by) rfl
  f_law_pen := c.def_ 31 (d := d_law_pen) rfl
  f_law_draw := c.def_ 32 (d := d_law_draw) rfl
  f_law_pick := c.def_ 33 (d := d_law_pick) rfl
  f_law_acts := c.def_ 34 (d := d_law_acts) rfl
  f_law_near := c.def_ 35 (d := d_law_near) rfl
  f_law_solved := c.def_ 36 (d := d_law_solved) rfl
  f_law_by := c.def_ 37 (d := d_law_by) rfl
  f_law_choices := c.def_ 38 (d := d_law_choices) rfl
  f_law_heard := c.def_ 39 (d := d_law_heard) rfl
  f_law := c.def_ 40 (d := d_law) rfl
  f_Ratio_init := c.def_ 41 (d := d_Ratio_init) rfl
  f_Ratio_add := c.def_ 42 (d := d_Ratio_add) rfl
  f_Ratio_sub := c.def_ 43 (d := d_Ratio_sub) rfl
  f_Ratio_mul := c.def_ 44 (d := d_Ratio_mul) rfl
  f_Ratio_eq := c.def_ 45 (d := d_Ratio_eq) rfl
  f_Ratio_over := c.def_ 46 (d := d_Ratio_over) rfl
  f_Ratio_is_below := c.def_ 47 (d := d_Ratio_is_below) rfl
  f_Step_init := c.def_ 48 (d := d_Step_init) rfl
  f_House_init := c.def_ 49 (d := d_House_init) rfl
  f_House_acts_at := c.def_ 50 (d := d_House_acts_at) rfl
  f_House_steps_of := c.def_ 51 (d := d_House_steps_of) rfl
  f_Coming_init := c.def_ 52 (d := d_Coming_init) rfl
  f_BadGoal_init := c.def_ 53 (d := d_BadGoal_init) rfl
  f_BadHouse_init := c.def_ 54 (d := d_BadHouse_init) rfl
  f_BadPlan_init := c.def_ 55 (d := d_BadPlan_init) rfl
  cl_Ratio := He.cls_ok (c.fact 73 (f := .cls "Ratio") rfl)
  mk_Ratio := He.mkr_ok (c.fact 74 (f := .mkr "Ratio") rfl)
  na_Ratio_top := He.noat_ok (c.fact 75 (f := .noat "Ratio" "top") rfl)
  na_Ratio_bottom := He.noat_ok (c.fact 76 (f := .noat "Ratio" "bottom") rfl)
  ha_Ratio := eqO_ok (c.more 1 (f := ex1) rfl)
  hm_Ratio := of_decide_eq_true (c.more 2 (f := ex2) rfl)
  ki_Ratio := of_decide_eq_true (c.more 3 (f := ex3) rfl)
  cl_Step := He.cls_ok (c.fact 77 (f := .cls "Step") rfl)
  mk_Step := He.mkr_ok (c.fact 78 (f := .mkr "Step") rfl)
  na_Step_act := He.noat_ok (c.fact 79 (f := .noat "Step" "act") rfl)
  na_Step_source := He.noat_ok (c.fact 80 (f := .noat "Step" "source") rfl)
  na_Step_target := He.noat_ok (c.fact 81 (f := .noat "Step" "target") rfl)
  na_Step_odds := He.noat_ok (c.fact 82 (f := .noat "Step" "odds") rfl)
  na_Step_time := He.noat_ok (c.fact 83 (f := .noat "Step" "time") rfl)
  na_Step_pays := He.noat_ok (c.fact 84 (f := .noat "Step" "pays") rfl)
  ha_Step := eqO_ok (c.more 4 (f := ex4) rfl)
  hm_Step := of_decide_eq_true (c.more 5 (f := ex5) rfl)
  ki_Step := of_decide_eq_true (c.more 6 (f := ex6) rfl)
  cl_House := He.cls_ok (c.fact 85 (f := .cls "House") rfl)
  mk_House := He.mkr_ok (c.fact 86 (f := .mkr "House") rfl)
  na_House_states := He.noat_ok (c.fact 87 (f := .noat "House" "states") rfl)
  na_House_start := He.noat_ok (c.fact 88 (f := .noat "House" "start") rfl)
  na_House_measures := He.noat_ok (c.fact 89 (f := .noat "House" "measures") rfl)
  na_House_acts := He.noat_ok (c.fact 90 (f := .noat "House" "acts") rfl)
  na_House_steps := He.noat_ok (c.fact 91 (f := .noat "House" "steps") rfl)
  na_House_lots := He.noat_ok (c.fact 92 (f := .noat "House" "lots") rfl)
  na_House_lots_of := He.noat_ok (c.fact 93 (f := .noat "House" "lots_of") rfl)
  ha_House := eqO_ok (c.more 7 (f := ex7) rfl)
  hm_House := of_decide_eq_true (c.more 8 (f := ex8) rfl)
  ki_House := of_decide_eq_true (c.more 9 (f := ex9) rfl)
  cl_Coming := He.cls_ok (c.fact 94 (f := .cls "Coming") rfl)
  mk_Coming := He.mkr_ok (c.fact 95 (f := .mkr "Coming") rfl)
  na_Coming_numbers := He.noat_ok (c.fact 96 (f := .noat "Coming" "numbers") rfl)
  na_Coming_picks := He.noat_ok (c.fact 97 (f := .noat "Coming" "picks") rfl)
  na_Coming_ranks := He.noat_ok (c.fact 98 (f := .noat "Coming" "ranks") rfl)
  ha_Coming := eqO_ok (c.more 10 (f := ex10) rfl)
  hm_Coming := of_decide_eq_true (c.more 11 (f := ex11) rfl)
  ki_Coming := of_decide_eq_true (c.more 12 (f := ex12) rfl)
  kr_int := of_decide_eq_true (c.more 13 (f := ex13) rfl)
  kr_bool := of_decide_eq_true (c.more 14 (f := ex14) rfl)
  kr_tuple := of_decide_eq_true (c.more 15 (f := ex15) rfl)
  kr_list := of_decide_eq_true (c.more 16 (f := ex16) rfl)
  kr_dict := of_decide_eq_true (c.more 17 (f := ex17) rfl)
  kr_str := of_decide_eq_true (c.more 18 (f := ex18) rfl)
  kn_int := of_decide_eq_true (c.more 19 (f := ex19) rfl)
  hn := of_decide_eq_true (c.more 20 (f := ex20) rfl)
  htk := of_decide_eq_true (c.more 21 (f := ex21) rfl)
  me_Ratio_over := He.meth_ok (c.fact 99 (f := .meth "Ratio" "over") rfl)
  me_Ratio_is_below := He.meth_ok (c.fact 100 (f := .meth "Ratio" "is_below") rfl)
  me_House_acts_at := He.meth_ok (c.fact 101 (f := .meth "House" "acts_at") rfl)
  me_House_steps_of := He.meth_ok (c.fact 102 (f := .meth "House" "steps_of") rfl)
  op_add := opB_ok (c.more 22 (f := ex22) rfl)
  opr_add := oprB_ok (c.more 23 (f := ex23) rfl)
  op_sub := opB_ok (c.more 24 (f := ex24) rfl)
  opr_sub := oprB_ok (c.more 25 (f := ex25) rfl)
  op_mul := opB_ok (c.more 26 (f := ex26) rfl)
  opr_mul := oprB_ok (c.more 27 (f := ex27) rfl)
  eq_at := eqO_ok (c.more 28 (f := ex28) rfl)
  eq_fn := id (c.more 29 (f := ex29) rfl)
  ne_at := eqO_ok (c.more 30 (f := ex30) rfl)
  g_BadGoal := He.glo_ok X G (c.fact 103 (f := .glo "BadGoal") rfl)
  oex_BadGoal := LcX.oexB_ok (c.more 31 (f := ex31) rfl)
  in_BadGoal := eqO_ok (c.more 32 (f := ex32) rfl)
  it_BadGoal := of_decide_eq_true (c.more 33 (f := ex33) rfl)
  np_BadGoal := of_decide_eq_true (c.more 34 (f := ex34) rfl)
  xf_BadGoal := xfB_ok (c.more 35 (f := ex35) rfl)
  ec_BadGoal := LcX.isExcB_ok (c.more 36 (f := ex36) rfl)
  em_BadGoal := of_decide_eq_true (c.more 37 (f := ex37) rfl)
  ke_BadGoal_BadGoal := of_decide_eq_true (c.more 38 (f := ex38) rfl)
  ke_BadGoal_BadHouse := of_decide_eq_true (c.more 39 (f := ex39) rfl)
  ke_BadGoal_BadPlan := of_decide_eq_true (c.more 40 (f := ex40) rfl)
  g_BadHouse := He.glo_ok X G (c.fact 104 (f := .glo "BadHouse") rfl)
  oex_BadHouse := LcX.oexB_ok (c.more 41 (f := ex41) rfl)
  in_BadHouse := eqO_ok (c.more 42 (f := ex42) rfl)
  it_BadHouse := of_decide_eq_true (c.more 43 (f := ex43) rfl)
  np_BadHouse := of_decide_eq_true (c.more 44 (f := ex44) rfl)
  xf_BadHouse := xfB_ok (c.more 45 (f := ex45) rfl)
  ec_BadHouse := LcX.isExcB_ok (c.more 46 (f := ex46) rfl)
  em_BadHouse := of_decide_eq_true (c.more 47 (f := ex47) rfl)
  ke_BadHouse_BadGoal := of_decide_eq_true (c.more 48 (f := ex48) rfl)
  ke_BadHouse_BadHouse := of_decide_eq_true (c.more 49 (f := ex49) rfl)
  ke_BadHouse_BadPlan := of_decide_eq_true (c.more 50 (f := ex50) rfl)
  g_BadPlan := He.glo_ok X G (c.fact 105 (f := .glo "BadPlan") rfl)
  oex_BadPlan := LcX.oexB_ok (c.more 51 (f := ex51) rfl)
  in_BadPlan := eqO_ok (c.more 52 (f := ex52) rfl)
  it_BadPlan := of_decide_eq_true (c.more 53 (f := ex53) rfl)
  np_BadPlan := of_decide_eq_true (c.more 54 (f := ex54) rfl)
  xf_BadPlan := xfB_ok (c.more 55 (f := ex55) rfl)
  ec_BadPlan := LcX.isExcB_ok (c.more 56 (f := ex56) rfl)
  em_BadPlan := of_decide_eq_true (c.more 57 (f := ex57) rfl)
  ke_BadPlan_BadGoal := of_decide_eq_true (c.more 58 (f := ex58) rfl)
  ke_BadPlan_BadHouse := of_decide_eq_true (c.more 59 (f := ex59) rfl)
  ke_BadPlan_BadPlan := of_decide_eq_true (c.more 60 (f := ex60) rfl)
  kh_list := of_decide_eq_true (c.more 61 (f := ex61) rfl)
theorem tab_of {K : PySem.W.Frag} (c : SaysX faL exL fnL K) : ∃ c0 P, PySem.W.tabIn K "law" = some (c0, P) ∧ K.lookup P = none := by
  have h : tabB K = true := c.more 62 (f := ex62) rfl
  unfold tabB at h
  split at h
  · rename_i c0 P e
    exact ⟨c0, P, e, Option.isNone_iff_eq_none.mp h⟩
  · cases h
end Lc
set_option Elab.async false
set_option linter.all false
set_option maxRecDepth 100000
set_option maxHeartbeats 0
namespace Hd
open PySem PySem.Spec PyProof.Rows L2
abbrev LAW := PySem.Challenge.rw_longchances_k77_chances_by_told_picks
abbrev R : PySem.W.OpenRow := PySem.W.OpenLaw.row LAW
abbrev hk : PySem.W.Hook := Lc.hookX Lc.nsL Lc.faL Lc.exL Lc.fnL
def ob (s : PySem.W.SharedT) : He.AlD := Lc.obsXG Lc.nsL Lc.faL Lc.exL Lc.fnL (HandSHeadRun.getT s)
theorem ob_eq (s : PySem.W.SharedT) : ob s = hk.obs s.abs := Lc.obsXG_eq (HandSHeadRun.getT_eq s)
def loose0 : List Str := ["_wall", "LETTERS", "SIGNS", "MOST_LETTERS", "MOST_SIGNS", "is_integer", "is_within", "is_name", "is_event", "is_lot", "OddsError", "BadNumber", "BadRatio", "BadHouse", "BadAct", "BadGoal", "BadPlan", "NoState", "NoAct", "NoStep", "NoEvent", "TooMany", "top_of", "bottom_of", "Ratio", "HOUSE", "PART", "MORE", "OR", "joined"]
def loose1 : List Str := ["act_words", "house_words", "MOST_STATES", "MOST_ACTS", "MOST_STEPS", "MOST_ODDS", "MOST_TIME", "MOST_PAY", "MOST_MEASURES", "MOST_EVENTS", "EVERY", "NEVER", "Step", "are_alike_paid", "is_measures", "is_pay", "is_outcome", "is_act", "is_lot_of", "is_events", "need_parts", "steps_from", "lots_of_acts", "need_house", "need_state", "House", "parts_in", "made_anew", "copied", "Coming"]
def loose2 : List Str := ["need_goal", "targets_of", "mean_at", "eliminated", "solved", "led_to", "had_by", "first_picks", "better_pick", "best_picks", "ranked", "greatest_coming", "chance_by", "_law_pen", "_law_draw", "_law_pick", "_law_acts", "_law_near", "_law_solved", "_law_by", "_law_choices", "_law_heard"]
def loose : List Str := loose0 ++ loose1 ++ loose2
theorem run (w : World) : HandSHeadRun.RunEqI R (PySem.W.view R.prog [0, 91]) hk ob 20000 loose w := by
  unfold HandSHeadRun.RunEqI
  kernel_rfl
end Hd
set_option Elab.async false
set_option linter.all false
set_option maxRecDepth 100000
set_option maxHeartbeats 4000000
namespace Lc
open PySem PySem.Spec PyProof.Rows L2 LcR
section
variable {P : Program} {w : World} {K : PySem.W.Frag} {mg : Str → Option Value} {base : Heap}
theorem calD {x : Str} {st : Stmt} {f : Addr} {fd : FuncData} {N ps : List Str} {k : Nat} {sp : Sp} (F : FunD K x x (defArgs st) (defBody st) (defScope st) [] [] f fd) (hm : mg x = some (.ref f)) (S : FnScope N ps (defScope st))
    (hb : ∀ (kV doc pm : Value) (an : Option Addr) (cdv ct : Value) (us : List Value), us.length = ps.length → bindArgs (PySem.W.fnOf x x (defArgs st) (defBody st) (defScope st) .none kV doc pm an cdv ct) ⟨us, []⟩ = pure (ps.zip us))
    (len : ∀ vs H Q E, sp vs H Q E → vs.length = ps.length)
    (hbody : ∀ (cdv : Value) (A : Around) (outer : List Env) (s : Shared) (H : Hp) (vs : List V) (Q : VK) (E : XK), Room k (A.deeper (envOfC x (defScope st) s.heap.objs.size f cdv)) → sp vs H Q E →
      ∃ t, PSs (cxOf CX0 P w K mg base N x (defScope st) f cdv A outer s H E).nox (defBody st) t ∧ t { nx := fun _ H' => Q .non H', rt := Q } (start N vs) H) : C8.Cal P w K mg base (k + 1) x sp [] :=
  ⟨f, fd, ps, [], F.ok S len fun cdv A outer s H vs Q E hr h => (hbody cdv A outer s H vs Q E hr h).imp fun _ z => ⟨z.1.nox, z.2⟩, hm, F.kp, F.bindsN hb, .nil⟩
theorem fnD {x qual : Str} {st : Stmt} {f : Addr} {fd : FuncData} {N ps : List Str} {dvs : List V} {k : Nat} {sp : Sp} (F : FunD K x qual (defArgs st) (defBody st) (defScope st) dvs [] f fd) (S : FnScope N ps (defScope st))
    (len : ∀ vs H Q E, sp vs H Q E → vs.length = ps.length)
    (hbody : ∀ (cdv : Value) (A : Around) (outer : List Env) (s : Shared) (H : Hp) (vs : List V) (Q : VK) (E : XK), Room k (A.deeper (envOfC qual (defScope st) s.heap.objs.size f cdv)) → sp vs H Q E →
      ∃ t, PSs (cxOf CX0 P w K mg base N qual (defScope st) f cdv A outer s H E).nox (defBody st) t ∧ t { nx := fun _ H' => Q .non H', rt := Q } (start N vs) H) : FnOk P w K mg base CX0 (k + 1) f fd ps sp :=
  F.ok S len fun cdv A outer s H vs Q E hr h => (hbody cdv A outer s H vs Q E hr h).imp fun _ z => ⟨z.1.nox, z.2⟩
end
/-! ### fractions in the heap -/
def flR (q : Rat) : List (Str × V) := [("top", .int q.num), ("bottom", .int (q.den : Int))]
/-- the value v is a Ratio that is q -/
def IsR (K : PySem.W.Frag) (H : Hp) (v : V) (q : Rat) : Prop := ∃ a dx, v = .ref a ∧ H a = some (.ins (CRatio K) dx (flR q))
theorem IsR.same {K : PySem.W.Frag} {H H' : Hp} {v : V} {q : Rat} (h : IsR K H v q) (s : Same H H') : IsR K H' v q := by
  obtain ⟨a, dx, rfl, e⟩ := h
  exact ⟨a, dx, rfl, s _ _ e⟩
/-- a Ratio or an int -/
def IsN (K : PySem.W.Frag) (H : Hp) (v : V) (q : Rat) : Prop := IsR K H v q ∨ ∃ i : Int, v = .int i ∧ q = (i : Rat)
theorem ty_R {K : PySem.W.Frag} {mg : Str → Option Value} {H : Hp} (T : Tx K mg) {a dx : Addr} {fs : List (Str × V)} (e : H a = some (.ins (CRatio K) dx fs)) : TyX K H (.ref a) (.ref (CRatio K)) :=
  .base (.ins e T.cl_Ratio T.ha_Ratio T.hn T.htk T.hm_Ratio)
section
variable {P : Program} {w : World} {K : PySem.W.Frag} {mg : Str → Option Value} {base : Heap}
/-! ### is_integer, is_within of ints -/
def sp_is_integer : Sp := fun vs H Q _ => ∃ i, vs = [.int i] ∧ Q (.bl true) H
theorem c_is_integer (T : Tx K mg) : C8.Cal P w K mg base 1 "is_integer" sp_is_integer [] := by
  obtain ⟨fd, F⟩ := T.f_is_integer
  refine calD F T.g_is_integer sc_is_integer (fun _ _ _ _ _ _ us hl => match us, hl with | [_], _ => rfl) (fun vs H Q E h => ?_) (fun cdv A outer s H vs Q E hr h => ?_)
  · obtain ⟨_, rfl, _⟩ := h; rfl
  obtain ⟨i, rfl, k⟩ := h
  refine ⟨_, (pss_one (ps_ret (pe_and (pe_callB call_isi (by rfl) T.b_isinstance (by decide +kernel) (pa_cons (pv 0) (pa_cons (pe_bltn (v := .ty "int") (by rfl) T.b_int (by decide +kernel) rfl) pa_nil))) (pe_one (pe_not (pe_callB call_isi (by rfl) T.b_isinstance (by decide +kernel) (pa_cons (pv 0) (pa_cons (pe_bltn (v := .ty "bool") (by rfl) T.b_bool (by decide +kernel) rfl) pa_nil)))))))), ?_⟩
  refine ⟨_, rfl, _, _, _, _, true, rfl, .ty _, .base (.int i), kit_ty (by decide +kernel), true, rfl, iteT ?_⟩
  exact ⟨_, rfl, _, _, _, _, false, rfl, .ty _, .base (.int i), kit_ty (by decide +kernel), false, rfl, k⟩
def sp_is_within : Sp := fun vs H Q _ => ∃ i lo hi, vs = [.int i, .int lo, .int hi] ∧ lo ≤ i ∧ i ≤ hi ∧ Q (.bl true) H
theorem c_is_within (T : Tx K mg) : C8.Cal P w K mg base 2 "is_within" sp_is_within [] := by
  obtain ⟨fd, F⟩ := T.f_is_within
  refine calD F T.g_is_within sc_is_within (fun _ _ _ _ _ _ us hl => match us, hl with | [_, _, _], _ => rfl) (fun vs H Q E h => ?_) (fun cdv A outer s H vs Q E hr h => ?_)
  · obtain ⟨_, _, _, rfl, _⟩ := h; rfl
  obtain ⟨i, lo, hi, rfl, h1, h2, k⟩ := h
  refine ⟨_, (pss_one (ps_ret (pe_and (C8.pe_c (c_is_integer T) hr (by decide) (by rfl) (pa_cons (pv 0) pa_nil)) (pe_one (pe_chain op_le op_le (pv 1) (pv 0) (pv 2)))))), ?_⟩
  refine ⟨_, rfl, i, rfl, true, rfl, iteT ?_⟩
  refine ⟨_, rfl, _, rfl, _, _, rfl, rfl, true, by simp [h1], iteT ⟨_, rfl, _, _, rfl, rfl, ?_⟩⟩
  simpa [h2] using k
/-! ### top_of, bottom_of -/
def sp_top_of (K : PySem.W.Frag) : Sp := fun vs H Q _ => ∃ v q, vs = [v] ∧ IsN K H v q ∧ Q (.int q.num) H
theorem c_top_of (T : Tx K mg) : C8.Cal P w K mg base 2 "top_of" (sp_top_of K) [] := by
  obtain ⟨fd, F⟩ := T.f_top_of
  refine calD F T.g_top_of sc_top_of (fun _ _ _ _ _ _ us hl => match us, hl with | [_], _ => rfl) (fun vs H Q E h => ?_) (fun cdv A outer s H vs Q E hr h => ?_)
  · obtain ⟨_, _, rfl, _⟩ := h; rfl
  obtain ⟨v, q, rfl, hv, k⟩ := h
  refine ⟨_, (pss_cons (ps_if (pt_val (pe_callB call_isi (by rfl) T.b_isinstance (by decide +kernel) (pa_cons (pv 0) (pa_cons (pe_glob (v := .ref (CRatio K)) (by rfl) T.g_Ratio rfl) pa_nil)))) (pss_one (ps_ret (pe_fld (pv 0) rfl))) pss_nil)
      (pss_cons (ps_if (pt_not (pt_val (C8.pe_c (c_is_integer T) hr (by decide) (by rfl) (pa_cons (pv 0) pa_nil)))) (pss_one ps_never) pss_nil)
      (pss_one (ps_ret (pv 0))))), ?_⟩
  rcases hv with ⟨a, dx, rfl, e⟩ | ⟨i, rfl, rfl⟩
  · refine ⟨_, rfl, _, _, _, _, true, rfl, .own _, ty_R T e, T.ki_Ratio, true, rfl, iteT ?_⟩
    exact ⟨_, rfl, a, _, dx, _, _, rfl, e, T.cl_Ratio, T.na_Ratio_top, rfl, k⟩
  · refine ⟨_, rfl, _, _, _, _, false, rfl, .own _, .base (.int i), T.kn_int, false, rfl, iteF ?_⟩
    refine ⟨_, rfl, i, rfl, true, rfl, iteF ?_⟩
    exact ⟨_, rfl, by simpa using k⟩
end
end Lc
set_option linter.all false
namespace LC
/-! ### fractions by top and bottom -/
/-- what __init__ divides by -/
def shr (t b : Int) : Int := if b > 0 then ((Nat.gcd t.natAbs b.natAbs : Nat) : Int) else -((Nat.gcd t.natAbs b.natAbs : Nat) : Int)
theorem gcd_pos {t b : Int} (h : b ≠ 0) : 0 < Nat.gcd t.natAbs b.natAbs := Nat.gcd_pos_of_pos_right _ (Int.natAbs_pos.mpr h)
theorem shr_ne {t b : Int} (h : b ≠ 0) : shr t b ≠ 0 := by
  have := gcd_pos (t := t) h
  unfold shr
  split <;> omega
theorem shr_abs {t b : Int} : (shr t b).natAbs = Nat.gcd t.natAbs b.natAbs := by
  unfold shr
  split <;> simp
theorem shr_le {t b : Int} (h : b ≠ 0) : (shr t b).natAbs ≤ b.natAbs := by
  rw [shr_abs]; exact Nat.gcd_le_right _ (Int.natAbs_pos.mpr h)
theorem fdiv_num {t b : Int} (h : b ≠ 0) : t.fdiv (shr t b) = (Rat.divInt t b).num := by
  have hg := gcd_pos (t := t) h
  rw [Rat.num_divInt]
  have e : (b.gcd t : Int) = ((Nat.gcd t.natAbs b.natAbs : Nat) : Int) := by unfold Int.gcd; rw [Nat.gcd_comm]
  rw [e]
  obtain ⟨c, hc⟩ : ((Nat.gcd t.natAbs b.natAbs : Nat) : Int) ∣ t := Int.ofNat_dvd_left.mpr (Nat.gcd_dvd_left _ _)
  generalize hG : ((Nat.gcd t.natAbs b.natAbs : Nat) : Int) = G at *
  have G0 : 0 < G := by omega
  unfold shr
  rw [hG]
  split
  · rename_i hb
    rw [Int.sign_eq_one_of_pos hb, Int.one_mul, Int.fdiv_eq_ediv_of_nonneg _ (by omega)]
  · have hb : b < 0 := by omega
    rw [Int.sign_eq_neg_one_of_neg hb, hc]
    have e1 : -1 * (G * c) = G * (-c) := by grind
    have e2 : G * c = (-G) * (-c) := by grind
    rw [e1, Int.mul_ediv_cancel_left _ (by omega), e2, Int.mul_fdiv_cancel_left _ (by omega)]
theorem fdiv_den {t b : Int} (h : b ≠ 0) : b.fdiv (shr t b) = ((Rat.divInt t b).den : Int) := by
  have hg := gcd_pos (t := t) h
  rw [Rat.den_divInt, if_neg h]
  have e : b.gcd t = Nat.gcd t.natAbs b.natAbs := by unfold Int.gcd; rw [Nat.gcd_comm]
  rw [e]
  obtain ⟨c, hc⟩ : ((Nat.gcd t.natAbs b.natAbs : Nat) : Int) ∣ b := Int.ofNat_dvd_left.mpr (Nat.gcd_dvd_right _ _)
  have e3 : ((b.natAbs / Nat.gcd t.natAbs b.natAbs : Nat) : Int) = (b.natAbs : Int) / ((Nat.gcd t.natAbs b.natAbs : Nat) : Int) := by simp
  rw [e3]
  generalize hG : ((Nat.gcd t.natAbs b.natAbs : Nat) : Int) = G at *
  have G0 : 0 < G := by omega
  unfold shr
  rw [hG]
  split
  · rename_i hb
    rw [Int.fdiv_eq_ediv_of_nonneg _ (by omega)]
    congr 1
    omega
  · have hb : b < 0 := by omega
    have e4 : (b.natAbs : Int) = G * (-c) := by
      have e5 : (b.natAbs : Int) = -b := by omega
      rw [e5, hc]; grind
    have e2 : b = (-G) * (-c) := by rw [hc]; grind
    rw [e4, Int.mul_ediv_cancel_left _ (by omega)]
    conv => lhs; lhs; rw [e2]
    rw [Int.mul_fdiv_cancel_left _ (by omega)]
theorem nd (q : Rat) : (q.num : Rat) / ((q.den : Nat) : Rat) = q := by
  have := Rat.num_divInt_den q
  rw [Rat.divInt_eq_div, Rat.intCast_natCast] at this
  exact this
theorem den_ne (q : Rat) : ((q.den : Nat) : Rat) ≠ 0 := by
  have : 0 < ((q.den : Nat) : Rat) := by
    have : ((0 : Nat) : Rat) < (q.den : Rat) := Rat.natCast_lt_natCast.mpr q.den_pos
    simpa using this
  grind
/-- the four operations by tops and bottoms -/
theorem add_frac (a b : Rat) : Rat.divInt (a.num * (b.den : Int) + b.num * (a.den : Int)) ((a.den : Int) * (b.den : Int)) = a + b := by
  rw [Rat.divInt_eq_div]
  have ha := den_ne a
  have hb := den_ne b
  have e1 := nd a
  have e2 := nd b
  push_cast
  generalize ((a.den : Nat) : Rat) = x at *
  generalize ((b.den : Nat) : Rat) = y at *
  generalize (a.num : Rat) = p at *
  generalize (b.num : Rat) = q at *
  rw [← e1, ← e2]
  grind
theorem sub_frac (a b : Rat) : Rat.divInt (a.num * (b.den : Int) - b.num * (a.den : Int)) ((a.den : Int) * (b.den : Int)) = a - b := by
  rw [Rat.divInt_eq_div]
  have ha := den_ne a
  have hb := den_ne b
  have e1 := nd a
  have e2 := nd b
  push_cast
  generalize ((a.den : Nat) : Rat) = x at *
  generalize ((b.den : Nat) : Rat) = y at *
  generalize (a.num : Rat) = p at *
  generalize (b.num : Rat) = q at *
  rw [← e1, ← e2]
  grind
theorem mul_frac (a b : Rat) : Rat.divInt (a.num * b.num) ((a.den : Int) * (b.den : Int)) = a * b := by
  rw [Rat.divInt_eq_div]
  have ha := den_ne a
  have hb := den_ne b
  have e1 := nd a
  have e2 := nd b
  push_cast
  generalize ((a.den : Nat) : Rat) = x at *
  generalize ((b.den : Nat) : Rat) = y at *
  generalize (a.num : Rat) = p at *
  generalize (b.num : Rat) = q at *
  rw [← e1, ← e2]
  grind
theorem num_ne {q : Rat} (h : q ≠ 0) : q.num ≠ 0 := fun e => h (by rw [← Rat.num_eq_zero]; exact e)
theorem div_frac {a b : Rat} (h : b ≠ 0) : Rat.divInt (a.num * (b.den : Int)) ((a.den : Int) * b.num) = a / b := by
  rw [Rat.divInt_eq_div]
  have ha := den_ne a
  have hb := den_ne b
  have hn : (b.num : Rat) ≠ 0 := fun e => num_ne h (by exact_mod_cast e)
  have e1 := nd a
  have e2 := nd b
  push_cast
  generalize ((a.den : Nat) : Rat) = x at *
  generalize ((b.den : Nat) : Rat) = y at *
  generalize (a.num : Rat) = p at *
  generalize (b.num : Rat) = q at *
  rw [← e1, ← e2]
  grind
/-- sizes: the top is below 2 ^ t, the bottom below 2 ^ b -/
def Sz (t b : Nat) (q : Rat) : Prop := q.num.natAbs ≤ 2 ^ t ∧ q.den ≤ 2 ^ b
theorem Sz.mono {t b t' b' : Nat} {q : Rat} (h : Sz t b q) (h1 : t ≤ t') (h2 : b ≤ b') : Sz t' b' q :=
  ⟨Nat.le_trans h.1 (Nat.pow_le_pow_right (by omega) h1), Nat.le_trans h.2 (Nat.pow_le_pow_right (by omega) h2)⟩
theorem sz_divInt {n d : Int} {t b : Nat} (hd : d ≠ 0) (h1 : n.natAbs ≤ 2 ^ t) (h2 : d.natAbs ≤ 2 ^ b) : Sz t b (Rat.divInt n d) := by
  constructor
  · rw [← fdiv_num hd]
    obtain ⟨c, hc⟩ : shr n d ∣ n := by
      rw [← Int.natAbs_dvd_natAbs, shr_abs]; exact Nat.gcd_dvd_left _ _
    have hs := shr_ne (t := n) hd
    have : n.fdiv (shr n d) = c := by
      conv => lhs; lhs; rw [hc]
      exact Int.mul_fdiv_cancel_left _ hs
    rw [this]
    refine Nat.le_trans ?_ h1
    rw [hc, Int.natAbs_mul]
    exact Nat.le_mul_of_pos_left _ (Int.natAbs_pos.mpr hs)
  · rw [Rat.den_divInt, if_neg hd]
    exact Nat.le_trans (Nat.div_le_self _ _) h2
theorem pow_mul_le {a b x y : Nat} (h1 : a ≤ 2 ^ x) (h2 : b ≤ 2 ^ y) : a * b ≤ 2 ^ (x + y) := by
  rw [Nat.pow_add]; exact Nat.mul_le_mul h1 h2
theorem add_top_le {p q : Int} {x : Nat} (h1 : p.natAbs ≤ 2 ^ x) (h2 : q.natAbs ≤ 2 ^ x) : (p + q).natAbs ≤ 2 ^ (x + 1) ∧ (p - q).natAbs ≤ 2 ^ (x + 1) := by
  have e : 2 ^ (x + 1) = 2 ^ x + 2 ^ x := by rw [Nat.pow_succ]; omega
  rw [e]
  omega
theorem Sz.add {a b : Rat} {t u x y : Nat} (h : Sz t x a) (k : Sz u y b) : Sz (max (t + y) (u + x) + 1) (x + y) (a + b) := by
  rw [← add_frac]
  have d1 := a.den_pos
  have d2 := b.den_pos
  refine sz_divInt (by have := Int.mul_pos (by omega : (0 : Int) < a.den) (by omega : (0 : Int) < b.den); omega) (add_top_le ?_ ?_).1 ?_
  · rw [Int.natAbs_mul]; exact Nat.le_trans (pow_mul_le h.1 (by simpa using k.2)) (Nat.pow_le_pow_right (by omega) (Nat.le_max_left _ _))
  · rw [Int.natAbs_mul]; exact Nat.le_trans (pow_mul_le k.1 (by simpa using h.2)) (Nat.pow_le_pow_right (by omega) (Nat.le_max_right _ _))
  · rw [Int.natAbs_mul]; exact pow_mul_le (by simpa using h.2) (by simpa using k.2)
theorem Sz.sub {a b : Rat} {t u x y : Nat} (h : Sz t x a) (k : Sz u y b) : Sz (max (t + y) (u + x) + 1) (x + y) (a - b) := by
  rw [← sub_frac]
  have d1 := a.den_pos
  have d2 := b.den_pos
  refine sz_divInt (by have := Int.mul_pos (by omega : (0 : Int) < a.den) (by omega : (0 : Int) < b.den); omega) (add_top_le ?_ ?_).2 ?_
  · rw [Int.natAbs_mul]; exact Nat.le_trans (pow_mul_le h.1 (by simpa using k.2)) (Nat.pow_le_pow_right (by omega) (Nat.le_max_left _ _))
  · rw [Int.natAbs_mul]; exact Nat.le_trans (pow_mul_le k.1 (by simpa using h.2)) (Nat.pow_le_pow_right (by omega) (Nat.le_max_right _ _))
  · rw [Int.natAbs_mul]; exact pow_mul_le (by simpa using h.2) (by simpa using k.2)
theorem Sz.mul {a b : Rat} {t u x y : Nat} (h : Sz t x a) (k : Sz u y b) : Sz (t + u) (x + y) (a * b) := by
  rw [← mul_frac]
  have d1 := a.den_pos
  have d2 := b.den_pos
  refine sz_divInt (by have := Int.mul_pos (by omega : (0 : Int) < a.den) (by omega : (0 : Int) < b.den); omega) ?_ ?_
  · rw [Int.natAbs_mul]; exact pow_mul_le h.1 k.1
  · rw [Int.natAbs_mul]; exact pow_mul_le (by simpa using h.2) (by simpa using k.2)
theorem Sz.div {a b : Rat} {t u x y : Nat} (h : Sz t x a) (k : Sz u y b) (hb : b ≠ 0) : Sz (t + y) (x + u) (a / b) := by
  rw [← div_frac hb]
  have d1 := a.den_pos
  have hn := num_ne hb
  refine sz_divInt (fun e => by rcases Int.mul_eq_zero.mp e with e | e <;> omega) ?_ ?_
  · rw [Int.natAbs_mul]; exact pow_mul_le h.1 (by simpa using k.2)
  · rw [Int.natAbs_mul]; exact pow_mul_le (by simpa using h.2) k.1
theorem sz_int {i : Int} {t : Nat} (h : i.natAbs ≤ 2 ^ t) : Sz t 0 (i : Rat) := ⟨by simpa using h, by simp⟩
theorem below_iff (a b : Rat) : (decide (a.num * (b.den : Int) < b.num * (a.den : Int))) = decide (a < b) := by
  simp [Rat.lt_iff]
theorem eq_iff (a b : Rat) : a = b ↔ a.num = b.num ∧ (a.den : Int) = (b.den : Int) := by
  constructor
  · rintro rfl; exact ⟨rfl, rfl⟩
  · rintro ⟨h1, h2⟩; exact Rat.ext h1 (by omega)
end LC
set_option Elab.async false
set_option linter.all false
set_option maxRecDepth 100000
set_option maxHeartbeats 4000000
namespace Lc
open PySem PySem.Spec PyProof.Rows L2 LcR
/-- // by a divisor of either sign below 2 ^ 9000 -/
def CDivA (_ j : Int) : Prop := j ≠ 0 ∧ j.natAbs.log2 < 9000
theorem op_fdivA {X : Cx} : OpR X (binaryOp .FloorDiv) (rI CDivA fun i j => .int (i.fdiv j)) := opI fun i j _ _ _ _ _ hc q => floordiv_int hc.1 q (.inl (PyProof.noPylong_of_log2 hc.2))
theorem hu64 {A : Around} {k : Nat} (hr : Room k A) : A.units + 64 < cLine := hr.units
/-- a product of ints of together at most so many bits -/
theorem mulx {i j : Int} {a b : Nat} (ha : i.natAbs ≤ 2 ^ a) (hb : j.natAbs ≤ 2 ^ b) (h : a + b ≤ 100000) : CMulX i j :=
  mulx_ok (a := a + 1) (b := b + 1) (Nat.lt_of_le_of_lt ha (Nat.pow_lt_pow_right (by omega) (by omega))) (Nat.lt_of_le_of_lt hb (Nat.pow_lt_pow_right (by omega) (by omega))) (by omega)
theorem log2_le {n b : Nat} (h : n ≤ 2 ^ b) (hb : b < 8999) : n.log2 < 9000 := by
  have := PySem.Flt.log2_lt_of (n := n) (k := b + 1) (by omega) (Nat.lt_of_le_of_lt h (Nat.pow_lt_pow_right (by omega) (by omega)))
  omega
section
variable {P : Program} {w : World} {K : PySem.W.Frag} {mg : Str → Option Value} {base : Heap}
def sp_bottom_of (K : PySem.W.Frag) : Sp := fun vs H Q _ => ∃ v q, vs = [v] ∧ IsN K H v q ∧ Q (.int (q.den : Int)) H
theorem c_bottom_of (T : Tx K mg) : C8.Cal P w K mg base 1 "bottom_of" (sp_bottom_of K) [] := by
  obtain ⟨fd, F⟩ := T.f_bottom_of
  refine calD F T.g_bottom_of sc_bottom_of (fun _ _ _ _ _ _ us hl => match us, hl with | [_], _ => rfl) (fun vs H Q E h => ?_) (fun cdv A outer s H vs Q E hr h => ?_)
  · obtain ⟨_, _, rfl, _⟩ := h; rfl
  obtain ⟨v, q, rfl, hv, k⟩ := h
  refine ⟨_, (pss_one (ps_ret (pe_ifExp (pt_val (pe_callB call_isi (by rfl) T.b_isinstance (by decide +kernel) (pa_cons (pv 0) (pa_cons (pe_glob (v := .ref (CRatio K)) (by rfl) T.g_Ratio rfl) pa_nil)))) (pe_fld (pv 0) rfl) pe_int))), ?_⟩
  rcases hv with ⟨a, dx, rfl, e⟩ | ⟨i, rfl, rfl⟩
  · refine ⟨_, rfl, _, _, _, _, true, rfl, .own _, ty_R T e, T.ki_Ratio, true, rfl, iteT ?_⟩
    exact ⟨_, rfl, a, _, dx, _, _, rfl, e, T.cl_Ratio, T.na_Ratio_bottom, rfl, k⟩
  · refine ⟨_, rfl, _, _, _, _, false, rfl, .own _, .base (.int i), T.kn_int, false, rfl, iteF ?_⟩
    have z : Q (.int 1) H := by simpa using k
    exact z
/-! ### Ratio(top, bottom) -/
def sp_Ratio_init (K : PySem.W.Frag) : Sp := fun vs H Q _ => ∃ a dx t b n, vs = [.ref a, .int t, .int b] ∧ b ≠ 0 ∧ b.natAbs ≤ 2 ^ n ∧ n < 8999 ∧ H a = some (.ins (CRatio K) dx []) ∧
  ∀ q : Rat, q = Rat.divInt t b → Q .non (upd H a (.ins (CRatio K) dx (flR q)))
theorem k_tb : ¬ (("top" : Str) = "bottom") := by decide +kernel
theorem ok_Ratio_init (T : Tx K mg) {f : Addr} {fd : FuncData} (F : FunD K "__init__" "Ratio.__init__" (defArgs s_Ratio_init) (defBody s_Ratio_init) (defScope s_Ratio_init) [.int 1] [] f fd) : FnOk P w K mg base CX0 2 f fd P_Ratio_init (sp_Ratio_init K) := by
  refine fnD F sc_Ratio_init (fun vs H Q E h => ?_) (fun cdv A outer s H vs Q E hr h => ?_)
  · obtain ⟨_, _, _, _, _, rfl, _⟩ := h; rfl
  obtain ⟨a, dx, t, b, n, rfl, hb, hn, hn2, ha, k⟩ := h
  refine ⟨_, (pss_cons (ps_if (pt_not (pt_val (C8.pe_c (c_is_integer T) hr (by decide) (by rfl) (pa_cons (pv 1) pa_nil)))) (pss_one ps_never) pss_nil)
      (pss_cons (ps_if (PW.pt (pw_or (pt_not (pt_val (C8.pe_c (c_is_integer T) hr (by decide) (by rfl) (pa_cons (pv 2) pa_nil)))) (pw_or1 (pt_cmpR op_eq (pv 2) pe_int (nomark _))))) (pss_one ps_never) pss_nil)
      (pss_cons (ps_set (i := 3) sc_Ratio_init.nd rfl (Or.inl rfl) (pe_ifExp (pt_cmpR op_gt (pv 2) pe_int (nomark _)) (pe_callBfun cr_gcd (by rfl) T.gcd (pa_cons (pv 1) (pa_cons (pv 2) pa_nil))) (pe_un un_neg (pe_callBfun cr_gcd (by rfl) T.gcd (pa_cons (pv 1) (pa_cons (pv 2) pa_nil))))))
      (pss_cons (ps_fld (pv 0) (pe_op op_fdivA (pv 1) (pv 3)) rfl)
      (pss_one (ps_fld (pv 0) (pe_op op_fdivA (pv 2) (pv 3)) rfl)))))), ?_⟩
  refine ⟨_, rfl, t, rfl, true, rfl, iteF ?_⟩
  refine ⟨_, rfl, b, rfl, true, rfl, iteF ?_⟩
  refine ⟨_, rfl, rfl, false, by simp [hb], iteF ?_⟩
  have key : ∀ sh : Int, sh = LC.shr t b → (tSeq (sFld K (tVar 0) (tOp (rI CDivA fun i j => .int (i.fdiv j)) (tVar 1) (tVar 3)) "top") (sFld K (tVar 0) (tOp (rI CDivA fun i j => .int (i.fdiv j)) (tVar 2) (tVar 3)) "bottom")) { nx := fun _ H' => Q .non H', rt := Q } [some (.ref a), some (.int t), some (.int b), some (.int sh)] H := by
    rintro sh rfl
    have c : ∀ x, CDivA x (LC.shr t b) := fun x => ⟨LC.shr_ne hb, log2_le (Nat.le_trans (LC.shr_le hb) hn) hn2⟩
    refine ⟨_, rfl, _, rfl, _, _, rfl, rfl, c _, _, rfl, a, _, dx, _, rfl, ha, T.cl_Ratio, T.na_Ratio_top, (by decide), ?_⟩
    refine ⟨_, rfl, _, rfl, _, _, rfl, rfl, c _, _, rfl, a, _, dx, _, rfl, upd_same, T.cl_Ratio, T.na_Ratio_bottom, (by show 1 < 1000; decide), ?_⟩
    have e : putF "bottom" (V.int (b.fdiv (LC.shr t b))) (putF "top" (V.int (t.fdiv (LC.shr t b))) []) = flR (Rat.divInt t b) := by
      rw [LC.fdiv_num hb, LC.fdiv_den hb]
      show (if ("top" : Str) = "bottom" then _ else _) = _
      rw [if_neg k_tb]
      rfl
    have := k _ rfl
    rw [upd_upd, e]
    exact this
  refine ⟨_, rfl, b, 0, rfl, rfl, decide (0 < b), rfl, ite2 (fun h0 => ?_) (fun h0 => ?_)⟩
  · refine ⟨_, rfl, _, rfl, t, b, rfl, ?_⟩
    exact key _ (by unfold LC.shr; rw [if_pos (of_decide_eq_true h0)])
  · refine ⟨_, rfl, _, rfl, t, b, rfl, _, rfl, ?_⟩
    exact key _ (by unfold LC.shr; rw [if_neg (fun z => h0 (decide_eq_true z))])
theorem bind_Ratio (T : Tx K mg) {f : Addr} {fd : FuncData} (F : FunD K "__init__" "Ratio.__init__" (defArgs s_Ratio_init) (defBody s_Ratio_init) (defScope s_Ratio_init) [.int 1] [] f fd) :
    Binds K fd P_Ratio_init [] ∧ ∃ ds, Vals [V.int 1] ds ∧ Binds K fd P_Ratio_init ds := by
  constructor
  · obtain ⟨ds, v, b⟩ := F.binds1 (ps := P_Ratio_init) 3 1 (by simp) rfl (fun _ _ _ _ _ _ _ us its h1 h2 => match us, h1, its, h2 with | [_, _, _], _, [_], _ => ⟨_, rfl, rfl⟩)
    cases v
    exact b
  · exact F.binds1 (ps := P_Ratio_init) 2 0 (by simp) rfl (fun _ _ _ _ _ _ _ us its h1 h2 => match us, h1, its, h2 with | [_, _], _, [_], _ => ⟨_, rfl, rfl⟩)
theorem c_Ratio_2 (T : Tx K mg) : C8.Mak P w K mg base 2 "Ratio" (CRatio K) (sp_Ratio_init K) [] := by
  obtain ⟨fd, F⟩ := T.f_Ratio_init
  exact ⟨_, fd, P_Ratio_init, [], T.mk_Ratio, ok_Ratio_init T F, T.g_Ratio, (bind_Ratio T F).1, .nil⟩
theorem c_Ratio_1 (T : Tx K mg) : C8.Mak P w K mg base 2 "Ratio" (CRatio K) (sp_Ratio_init K) [.int 1] := by
  obtain ⟨fd, F⟩ := T.f_Ratio_init
  obtain ⟨ds, v, b⟩ := (bind_Ratio T F).2
  exact ⟨_, fd, P_Ratio_init, ds, T.mk_Ratio, ok_Ratio_init T F, T.g_Ratio, b, v⟩
end
end Lc
set_option Elab.async false
set_option linter.all false
set_option maxRecDepth 100000
set_option maxHeartbeats 4000000
namespace Lc
open PySem PySem.Spec PyProof.Rows L2 LcR
open LC (Sz)
theorem same_made {H : Hp} {x dx : Addr} {o : HO} (hx : H x = none) (hd : H dx = none) : Same H (upd (upd H dx (.own x)) x o) := fun b u e => by
  rw [upd_ne (ne_of_none e hx), upd_ne (ne_of_none e hd)]
  exact e
theorem same_upd {H : Hp} {p : Addr} {o : HO} (h : H p = none) : Same H (upd H p o) := fun b u e => by rw [upd_ne (ne_of_none e h)]; exact e
/-- a Ratio is made -/
theorem made_R {K : PySem.W.Frag} {H : Hp} {Q : VK} {E : XK} {vs : List V} {t b : Int} {n : Nat} (hv : vs = [.int t, .int b]) (hb : b ≠ 0) (h1 : b.natAbs ≤ 2 ^ n) (h2 : n < 8999) (k : ∀ H' v, Same H H' → IsR K H' v (Rat.divInt t b) → Q v H') :
    ∀ x dx, H x = none → H dx = none → dx ≠ x → sp_Ratio_init K (.ref x :: vs) (upd (upd H dx (.own x)) x (.ins (CRatio K) dx [])) (fun v H2 => v = .non ∧ Q (.ref x) H2) E := by
  intro x dx hx hd ne
  subst hv
  refine ⟨x, dx, t, b, n, rfl, hb, h1, h2, upd_same, fun q hq => ⟨rfl, ?_⟩⟩
  subst hq
  rw [upd_upd]
  exact k _ _ (same_made hx hd) ⟨x, dx, rfl, upd_same⟩
section
variable {P : Program} {w : World} {K : PySem.W.Frag} {mg : Str → Option Value} {base : Heap}
def sp_op (K : PySem.W.Frag) (f : Rat → Rat → Rat) : Sp := fun vs H Q _ => ∃ x y p q t b t' b', vs = [x, y] ∧ IsR K H x p ∧ IsN K H y q ∧ Sz t b p ∧ Sz t' b' q ∧ t + b + t' + b' ≤ 40000 ∧ b + b' < 8999 ∧
  ∀ H' v, Same H H' → IsR K H' v (f p q) → Q v H'
theorem den_nz (a b : Rat) : (a.den : Int) * (b.den : Int) ≠ 0 := by
  have d1 := a.den_pos
  have d2 := b.den_pos
  have := Int.mul_pos (by omega : (0 : Int) < a.den) (by omega : (0 : Int) < b.den)
  omega
theorem den_abs {a : Rat} {t b : Nat} (h : Sz t b a) : ((a.den : Int)).natAbs ≤ 2 ^ b := by simpa using h.2
theorem ok_add (T : Tx K mg) {f : Addr} {fd : FuncData} (F : FunD K "__add__" "Ratio.__add__" (defArgs s_Ratio_add) (defBody s_Ratio_add) (defScope s_Ratio_add) [] [] f fd) : FnOk P w K mg base CX0 4 f fd P_Ratio_add (sp_op K fun p q => p + q) := by
  refine fnD F sc_Ratio_add (fun vs H Q E h => ?_) (fun cdv A outer s H vs Q E hr h => ?_)
  · obtain ⟨_, _, _, _, _, _, _, _, rfl, _⟩ := h; rfl
  obtain ⟨x, y, p, q, t, b, t', b', rfl, hx, hy, hp, hq, h1, h2, k⟩ := h
  obtain ⟨a, dx, rfl, e⟩ := id hx
  refine ⟨_, (pss_one (ps_ret (C8.pe_mk (c_Ratio_2 T) hr (by decide) (by rfl) (pa_cons (pe_op op_add (pe_op op_mulX (pe_fld (pv 0) rfl) (C8.pe_c (c_bottom_of T) hr (by decide) (by rfl) (pa_cons (pv 1) pa_nil))) (pe_op op_mulX (C8.pe_c (c_top_of T) hr (by decide) (by rfl) (pa_cons (pv 1) pa_nil)) (pe_fld (pv 0) rfl))) (pa_cons (pe_op op_mulX (pe_fld (pv 0) rfl) (C8.pe_c (c_bottom_of T) hr (by decide) (by rfl) (pa_cons (pv 1) pa_nil))) pa_nil))))), ?_⟩
  refine ⟨_, rfl, a, _, dx, _, _, rfl, e, T.cl_Ratio, T.na_Ratio_top, rfl, _, rfl, y, q, rfl, hy, _, _, rfl, rfl, mulx hp.1 (den_abs hq) (by omega), ?_⟩
  refine ⟨_, rfl, y, q, rfl, hy, _, rfl, a, _, dx, _, _, rfl, e, T.cl_Ratio, T.na_Ratio_bottom, rfl, _, _, rfl, rfl, mulx hq.1 (den_abs hp) (by omega), _, _, rfl, rfl, ?_⟩
  refine ⟨_, rfl, a, _, dx, _, _, rfl, e, T.cl_Ratio, T.na_Ratio_bottom, rfl, _, rfl, y, q, rfl, hy, _, _, rfl, rfl, mulx (den_abs hp) (den_abs hq) (by omega), ?_⟩
  refine made_R rfl (den_nz p q) (n := b + b') (by rw [Int.natAbs_mul]; exact LC.pow_mul_le (den_abs hp) (den_abs hq)) h2 ?_
  rw [LC.add_frac]
  exact k
theorem ok_sub (T : Tx K mg) {f : Addr} {fd : FuncData} (F : FunD K "__sub__" "Ratio.__sub__" (defArgs s_Ratio_sub) (defBody s_Ratio_sub) (defScope s_Ratio_sub) [] [] f fd) : FnOk P w K mg base CX0 4 f fd P_Ratio_sub (sp_op K fun p q => p - q) := by
  refine fnD F sc_Ratio_sub (fun vs H Q E h => ?_) (fun cdv A outer s H vs Q E hr h => ?_)
  · obtain ⟨_, _, _, _, _, _, _, _, rfl, _⟩ := h; rfl
  obtain ⟨x, y, p, q, t, b, t', b', rfl, hx, hy, hp, hq, h1, h2, k⟩ := h
  obtain ⟨a, dx, rfl, e⟩ := id hx
  refine ⟨_, (pss_one (ps_ret (C8.pe_mk (c_Ratio_2 T) hr (by decide) (by rfl) (pa_cons (pe_op op_sub (pe_op op_mulX (pe_fld (pv 0) rfl) (C8.pe_c (c_bottom_of T) hr (by decide) (by rfl) (pa_cons (pv 1) pa_nil))) (pe_op op_mulX (C8.pe_c (c_top_of T) hr (by decide) (by rfl) (pa_cons (pv 1) pa_nil)) (pe_fld (pv 0) rfl))) (pa_cons (pe_op op_mulX (pe_fld (pv 0) rfl) (C8.pe_c (c_bottom_of T) hr (by decide) (by rfl) (pa_cons (pv 1) pa_nil))) pa_nil))))), ?_⟩
  refine ⟨_, rfl, a, _, dx, _, _, rfl, e, T.cl_Ratio, T.na_Ratio_top, rfl, _, rfl, y, q, rfl, hy, _, _, rfl, rfl, mulx hp.1 (den_abs hq) (by omega), ?_⟩
  refine ⟨_, rfl, y, q, rfl, hy, _, rfl, a, _, dx, _, _, rfl, e, T.cl_Ratio, T.na_Ratio_bottom, rfl, _, _, rfl, rfl, mulx hq.1 (den_abs hp) (by omega), _, _, rfl, rfl, ?_⟩
  refine ⟨_, rfl, a, _, dx, _, _, rfl, e, T.cl_Ratio, T.na_Ratio_bottom, rfl, _, rfl, y, q, rfl, hy, _, _, rfl, rfl, mulx (den_abs hp) (den_abs hq) (by omega), ?_⟩
  refine made_R rfl (den_nz p q) (n := b + b') (by rw [Int.natAbs_mul]; exact LC.pow_mul_le (den_abs hp) (den_abs hq)) h2 ?_
  rw [LC.sub_frac]
  exact k
theorem ok_mul (T : Tx K mg) {f : Addr} {fd : FuncData} (F : FunD K "__mul__" "Ratio.__mul__" (defArgs s_Ratio_mul) (defBody s_Ratio_mul) (defScope s_Ratio_mul) [] [] f fd) : FnOk P w K mg base CX0 4 f fd P_Ratio_mul (sp_op K fun p q => p * q) := by
  refine fnD F sc_Ratio_mul (fun vs H Q E h => ?_) (fun cdv A outer s H vs Q E hr h => ?_)
  · obtain ⟨_, _, _, _, _, _, _, _, rfl, _⟩ := h; rfl
  obtain ⟨x, y, p, q, t, b, t', b', rfl, hx, hy, hp, hq, h1, h2, k⟩ := h
  obtain ⟨a, dx, rfl, e⟩ := id hx
  refine ⟨_, (pss_one (ps_ret (C8.pe_mk (c_Ratio_2 T) hr (by decide) (by rfl) (pa_cons (pe_op op_mulX (pe_fld (pv 0) rfl) (C8.pe_c (c_top_of T) hr (by decide) (by rfl) (pa_cons (pv 1) pa_nil))) (pa_cons (pe_op op_mulX (pe_fld (pv 0) rfl) (C8.pe_c (c_bottom_of T) hr (by decide) (by rfl) (pa_cons (pv 1) pa_nil))) pa_nil))))), ?_⟩
  refine ⟨_, rfl, a, _, dx, _, _, rfl, e, T.cl_Ratio, T.na_Ratio_top, rfl, _, rfl, y, q, rfl, hy, _, _, rfl, rfl, mulx hp.1 hq.1 (by omega), ?_⟩
  refine ⟨_, rfl, a, _, dx, _, _, rfl, e, T.cl_Ratio, T.na_Ratio_bottom, rfl, _, rfl, y, q, rfl, hy, _, _, rfl, rfl, mulx (den_abs hp) (den_abs hq) (by omega), ?_⟩
  refine made_R rfl (den_nz p q) (n := b + b') (by rw [Int.natAbs_mul]; exact LC.pow_mul_le (den_abs hp) (den_abs hq)) h2 ?_
  rw [LC.mul_frac]
  exact k
def sp_over (K : PySem.W.Frag) : Sp := fun vs H Q _ => ∃ x y p q t b t' b', vs = [x, y] ∧ IsR K H x p ∧ IsN K H y q ∧ Sz t b p ∧ Sz t' b' q ∧ t + b + t' + b' ≤ 40000 ∧ b + t' < 8999 ∧ q ≠ 0 ∧
  ∀ H' v, Same H H' → IsR K H' v (p / q) → Q v H'
theorem m_over (T : Tx K mg) : C8.Met P w K mg base 4 (CRatio K) "over" (sp_over K) [] := by
  obtain ⟨fd, F⟩ := T.f_Ratio_over
  refine ⟨_, fd, P_Ratio_over, [], T.cl_Ratio, T.me_Ratio_over, ?_, F.bindsN (fun _ _ _ _ _ _ us hl => match us, hl with | [_, _], _ => rfl), .nil⟩
  refine fnD F sc_Ratio_over (fun vs H Q E h => ?_) (fun cdv A outer s H vs Q E hr h => ?_)
  · obtain ⟨_, _, _, _, _, _, _, _, rfl, _⟩ := h; rfl
  obtain ⟨x, y, p, q, t, b, t', b', rfl, hx, hy, hp, hq, h1, h2, h3, k⟩ := h
  obtain ⟨a, dx, rfl, e⟩ := id hx
  have hn := LC.num_ne h3
  refine ⟨_, (pss_cons (ps_if (pt_cmpR op_eq (C8.pe_c (c_top_of T) hr (by decide) (by rfl) (pa_cons (pv 1) pa_nil)) pe_int (nomark _)) (pss_one ps_never) pss_nil)
      (pss_one (ps_ret (C8.pe_mk (c_Ratio_2 T) hr (by decide) (by rfl) (pa_cons (pe_op op_mulX (pe_fld (pv 0) rfl) (C8.pe_c (c_bottom_of T) hr (by decide) (by rfl) (pa_cons (pv 1) pa_nil))) (pa_cons (pe_op op_mulX (pe_fld (pv 0) rfl) (C8.pe_c (c_top_of T) hr (by decide) (by rfl) (pa_cons (pv 1) pa_nil))) pa_nil)))))), ?_⟩
  refine ⟨_, rfl, y, q, rfl, hy, rfl, false, by simp [hn], iteF ?_⟩
  refine ⟨_, rfl, a, _, dx, _, _, rfl, e, T.cl_Ratio, T.na_Ratio_top, rfl, _, rfl, y, q, rfl, hy, _, _, rfl, rfl, mulx hp.1 (den_abs hq) (by omega), ?_⟩
  refine ⟨_, rfl, a, _, dx, _, _, rfl, e, T.cl_Ratio, T.na_Ratio_bottom, rfl, _, rfl, y, q, rfl, hy, _, _, rfl, rfl, mulx (den_abs hp) hq.1 (by omega), ?_⟩
  refine made_R rfl (fun z => by have := p.den_pos; rcases Int.mul_eq_zero.mp z with z | z <;> omega) (n := b + t') (by rw [Int.natAbs_mul]; exact LC.pow_mul_le (den_abs hp) hq.1) h2 ?_
  rw [LC.div_frac h3]
  exact k
def sp_is_below (K : PySem.W.Frag) : Sp := fun vs H Q _ => ∃ x y p q t b t' b', vs = [x, y] ∧ IsR K H x p ∧ IsN K H y q ∧ Sz t b p ∧ Sz t' b' q ∧ t + b + t' + b' ≤ 40000 ∧ Q (.bl (decide (p < q))) H
theorem m_is_below (T : Tx K mg) : C8.Met P w K mg base 3 (CRatio K) "is_below" (sp_is_below K) [] := by
  obtain ⟨fd, F⟩ := T.f_Ratio_is_below
  refine ⟨_, fd, P_Ratio_is_below, [], T.cl_Ratio, T.me_Ratio_is_below, ?_, F.bindsN (fun _ _ _ _ _ _ us hl => match us, hl with | [_, _], _ => rfl), .nil⟩
  refine fnD F sc_Ratio_is_below (fun vs H Q E h => ?_) (fun cdv A outer s H vs Q E hr h => ?_)
  · obtain ⟨_, _, _, _, _, _, _, _, rfl, _⟩ := h; rfl
  obtain ⟨x, y, p, q, t, b, t', b', rfl, hx, hy, hp, hq, h1, k⟩ := h
  obtain ⟨a, dx, rfl, e⟩ := id hx
  refine ⟨_, (pss_one (ps_ret (pe_cmpR op_lt (pe_op op_mulX (pe_fld (pv 0) rfl) (C8.pe_c (c_bottom_of T) hr (by decide) (by rfl) (pa_cons (pv 1) pa_nil))) (pe_op op_mulX (C8.pe_c (c_top_of T) hr (by decide) (by rfl) (pa_cons (pv 1) pa_nil)) (pe_fld (pv 0) rfl)) (nomark _)))), ?_⟩
  refine ⟨_, rfl, a, _, dx, _, _, rfl, e, T.cl_Ratio, T.na_Ratio_top, rfl, _, rfl, y, q, rfl, hy, _, _, rfl, rfl, mulx hp.1 (den_abs hq) (by omega), ?_⟩
  refine ⟨_, rfl, y, q, rfl, hy, _, rfl, a, _, dx, _, _, rfl, e, T.cl_Ratio, T.na_Ratio_bottom, rfl, _, _, rfl, rfl, mulx hq.1 (den_abs hp) (by omega), _, _, rfl, rfl, ?_⟩
  rw [← LC.below_iff] at k
  exact k
def sp_eqR (K : PySem.W.Frag) : Sp := fun vs H Q _ => ∃ x y p q, vs = [x, y] ∧ IsR K H x p ∧ IsR K H y q ∧ Q (.bl (decide (p = q))) H
theorem ok_eq (T : Tx K mg) {f : Addr} {fd : FuncData} (F : FunD K "__eq__" "Ratio.__eq__" (defArgs s_Ratio_eq) (defBody s_Ratio_eq) (defScope s_Ratio_eq) [] [] f fd) : FnOk P w K mg base CX0 1 f fd P_Ratio_eq (sp_eqR K) := by
  refine fnD F sc_Ratio_eq (fun vs H Q E h => ?_) (fun cdv A outer s H vs Q E hr h => ?_)
  · obtain ⟨_, _, _, _, rfl, _⟩ := h; rfl
  obtain ⟨x, y, p, q, rfl, ⟨a, dx, rfl, e⟩, ⟨b, dy, rfl, e2⟩, k⟩ := h
  refine ⟨_, (pss_one (ps_ret (pe_and (pe_callB call_isi (by rfl) T.b_isinstance (by decide +kernel) (pa_cons (pv 1) (pa_cons (pe_glob (v := .ref (CRatio K)) (by rfl) T.g_Ratio rfl) pa_nil))) (pe_and (pe_cmpR op_eq (pe_fld (pv 0) rfl) (pe_fld (pv 1) rfl) (nomark _)) (pe_one (pe_cmpR op_eq (pe_fld (pv 0) rfl) (pe_fld (pv 1) rfl) (nomark _))))))), ?_⟩
  refine ⟨_, rfl, _, _, _, _, true, rfl, .own _, ty_R T e2, T.ki_Ratio, true, rfl, iteT ?_⟩
  refine ⟨_, rfl, a, _, dx, _, _, rfl, e, T.cl_Ratio, T.na_Ratio_top, rfl, _, rfl, b, _, dy, _, _, rfl, e2, T.cl_Ratio, T.na_Ratio_top, rfl, rfl, _, rfl, ite2 (fun h => ?_) (fun h => ?_)⟩
  · refine ⟨_, rfl, a, _, dx, _, _, rfl, e, T.cl_Ratio, T.na_Ratio_bottom, rfl, _, rfl, b, _, dy, _, _, rfl, e2, T.cl_Ratio, T.na_Ratio_bottom, rfl, rfl, ?_⟩
    have h1 : p.num = q.num := by simpa using of_decide_eq_true h
    have e3 : decide (V.int (p.den : Int) = V.int (q.den : Int)) = decide (p = q) := by
      rw [decide_eq_decide, LC.eq_iff]
      simp [h1]
    rw [e3]
    exact k
  · have h1 : ¬ p.num = q.num := by
      intro z
      exact h (decide_eq_true (by rw [z]))
    have e3 : decide (p = q) = false := decide_eq_false fun z => h1 (by rw [z])
    rw [e3] at k
    exact k
end
end Lc
set_option Elab.async false
set_option linter.all false
set_option maxRecDepth 100000
set_option maxHeartbeats 4000000
namespace Lc
open PySem PySem.Spec PyProof.Rows L2 LcR
open LC (Sz)
/-- a Ratio by a Ratio or an int -/
def rRN (K : PySem.W.Frag) (f : Rat → Rat → Rat) : R2 := fun x y H Q => ∃ p q t b t' b', IsR K H x p ∧ IsN K H y q ∧ Sz t b p ∧ Sz t' b' q ∧ t + b + t' + b' ≤ 40000 ∧ b + b' < 8999 ∧ ∀ H' v, Same H H' → IsR K H' v (f p q) → Q v H'
theorem op_RN {X : Cx} {op : Operator} {nm : String} {f : Addr} {fd : FuncData} {ps : List Str} {g : Rat → Rat → Rat} (T : Tx X.K X.mg) (F : FnOk X.prog X.w X.K X.mg X.base CX0 4 f fd ps (sp_op X.K g)) (hb : Binds X.K fd ps []) (e : op.info.2 = nm)
    (hf : OpF X.K (CRatio X.K) f (PySem.dunder nm)) (hg : OpRf X.K (CRatio X.K) nm) {j : Nat} (hr : Room j X.A) (hj : 4 ≤ j) : OpR X (binaryOp op) (rRN X.K g) := by
  subst e
  have hr4 := hr.mono hj
  intro pins s σ H x y v u Q I rx ry hq
  obtain ⟨p, q, t, b, t', b', hx, hy, h1, h2, h3, h4, k⟩ := hq
  obtain ⟨a, dx, rfl, ea⟩ := id hx
  have sp : sp_op X.K g [V.ref a, y] H Q E0 := ⟨_, _, p, q, t, b, t', b', rfl, hx, hy, h1, h2, h3, h4, k⟩
  rcases hy with ⟨c, dy, rfl, ec⟩ | ⟨i, rfl, _⟩
  · exact op_own F hr4 hb hf pins s σ H _ _ v u Q I rx ry ⟨⟨a, dx, _, rfl, ea⟩, ⟨c, dy, _, rfl, ec⟩, sp⟩
  · obtain ⟨rc, h5, h6⟩ := hg.rc
    obtain ⟨fo, h7⟩ := hg.fo
    obtain ⟨ro, h8⟩ := hg.ro
    exact op_ownI F hr4 hb hf h5 h6 h7 h8 hg.sub pins s σ H _ _ v u Q I rx ry ⟨⟨a, dx, _, rfl, ea⟩, ⟨i, rfl⟩, sp⟩
section
variable {X : Cx} {j : Nat}
theorem op_Radd (T : Tx X.K X.mg) (hr : Room j X.A) (hj : 4 ≤ j) : OpR X (binaryOp .Add) (rRN X.K fun p q => p + q) := by
  obtain ⟨fd, F⟩ := T.f_Ratio_add
  exact op_RN T (ok_add T F) (F.bindsN (ps := P_Ratio_add) (fun _ _ _ _ _ _ us hl => match us, hl with | [_, _], _ => rfl)) rfl T.op_add T.opr_add hr hj
theorem op_Rsub (T : Tx X.K X.mg) (hr : Room j X.A) (hj : 4 ≤ j) : OpR X (binaryOp .Sub) (rRN X.K fun p q => p - q) := by
  obtain ⟨fd, F⟩ := T.f_Ratio_sub
  exact op_RN T (ok_sub T F) (F.bindsN (ps := P_Ratio_sub) (fun _ _ _ _ _ _ us hl => match us, hl with | [_, _], _ => rfl)) rfl T.op_sub T.opr_sub hr hj
theorem op_Rmul (T : Tx X.K X.mg) (hr : Room j X.A) (hj : 4 ≤ j) : OpR X (binaryOp .Mult) (rRN X.K fun p q => p * q) := by
  obtain ⟨fd, F⟩ := T.f_Ratio_mul
  exact op_RN T (ok_mul T F) (F.bindsN (ps := P_Ratio_mul) (fun _ _ _ _ _ _ us hl => match us, hl with | [_, _], _ => rfl)) rfl T.op_mul T.opr_mul hr hj
/-- ==, != of two Ratios -/
def rEqR (K : PySem.W.Frag) : R2 := fun x y H Q => ∃ p q, IsR K H x p ∧ IsR K H y q ∧ Q (.bl (decide (p = q))) H
def rNeR (K : PySem.W.Frag) : R2 := fun x y H Q => ∃ p q, IsR K H x p ∧ IsR K H y q ∧ Q (.bl (!decide (p = q))) H
theorem bind_eq (T : Tx X.K X.mg) {f : Addr} {fd : FuncData} (F : FunD X.K "__eq__" "Ratio.__eq__" (defArgs s_Ratio_eq) (defBody s_Ratio_eq) (defScope s_Ratio_eq) [] [] f fd) : Binds X.K fd P_Ratio_eq [] :=
  F.bindsN (ps := P_Ratio_eq) (fun _ _ _ _ _ _ us hl => match us, hl with | [_, _], _ => rfl)
theorem op_Req (T : Tx X.K X.mg) (hr : Room j X.A) (hj : 4 ≤ j) : OpR X (compareOp .Eq) (rEqR X.K) := by
  obtain ⟨fd, F⟩ := T.f_Ratio_eq
  intro pins s σ H x y v u Q I rx ry hq
  obtain ⟨p, q, hx, hy, k⟩ := hq
  obtain ⟨a, dx, rfl, ea⟩ := id hx
  obtain ⟨c, dy, rfl, ec⟩ := id hy
  exact op_ownEq (ok_eq T F) (hr.mono (by omega)) (bind_eq T F) T.eq_at T.eq_fn pins s σ H _ _ v u Q I rx ry ⟨⟨a, dx, _, rfl, ea⟩, ⟨c, dy, _, rfl, ec⟩, _, _, p, q, rfl, hx, hy, k⟩
theorem op_Rne (T : Tx X.K X.mg) (hr : Room j X.A) (hj : 4 ≤ j) : OpR X (compareOp .NotEq) (rNeR X.K) := by
  obtain ⟨fd, F⟩ := T.f_Ratio_eq
  intro pins s σ H x y v u Q I rx ry hq
  obtain ⟨p, q, hx, hy, k⟩ := hq
  obtain ⟨a, dx, rfl, ea⟩ := id hx
  obtain ⟨c, dy, rfl, ec⟩ := id hy
  exact op_ownNe (ok_eq T F) (hr.mono (by omega)) (bind_eq T F) T.eq_at T.eq_fn T.ne_at T.hm_Ratio pins s σ H _ _ v u Q I rx ry ⟨⟨a, dx, _, rfl, ea⟩, ⟨c, dy, _, rfl, ec⟩, _, _, p, q, rfl, hx, hy, _, rfl, k⟩
/-- what Ratio(n) asks -/
theorem made_R1 {K : PySem.W.Frag} {H : Hp} {Q : VK} {E : XK} {i : Int} (k : ∀ H' v, Same H H' → IsR K H' v (i : Rat) → Q v H') :
    ∀ x dx, H x = none → H dx = none → dx ≠ x → sp_Ratio_init K (.ref x :: ([.int i] ++ [.int 1])) (upd (upd H dx (.own x)) x (.ins (CRatio K) dx [])) (fun v H2 => v = .non ∧ Q (.ref x) H2) E := by
  refine made_R (t := i) (b := 1) (n := 0) rfl (by decide) (by decide) (by decide) ?_
  have e : Rat.divInt i 1 = (i : Rat) := by
    rw [Rat.divInt_eq_div, show ((1 : Int) : Rat) = 1 from rfl]; grind
  rw [e]
  exact k
end
end Lc
set_option Elab.async false
set_option linter.all false
set_option maxRecDepth 100000
set_option maxHeartbeats 4000000
namespace Lc
open PySem PySem.Spec PyProof.Rows L2 LcR
/-! ### lists side by side -/
def All2 {α β : Type} (R : α → β → Prop) (xs : List α) (ys : List β) : Prop := xs.length = ys.length ∧ ∀ (i : Nat) x y, xs[i]? = some x → ys[i]? = some y → R x y
theorem All2.nil {α β : Type} {R : α → β → Prop} : All2 R [] [] := ⟨rfl, fun i x y h _ => by simp at h⟩
theorem All2.snoc {α β : Type} {R : α → β → Prop} {xs : List α} {ys : List β} {x : α} {y : β} (h : All2 R xs ys) (r : R x y) : All2 R (xs ++ [x]) (ys ++ [y]) := by
  refine ⟨by simp [h.1], fun i a b ha hb => ?_⟩
  by_cases hi : i < xs.length
  · rw [List.getElem?_append_left hi] at ha
    rw [List.getElem?_append_left (by rw [← h.1]; exact hi)] at hb
    exact h.2 i a b ha hb
  · rw [List.getElem?_append_right (by omega)] at ha
    rw [List.getElem?_append_right (by rw [← h.1]; omega)] at hb
    have e1 : i - xs.length = 0 := by
      cases q : i - xs.length with
      | zero => rfl
      | succ k => rw [q] at ha; simp at ha
    rw [e1] at ha
    rw [← h.1, e1] at hb
    simp at ha hb
    subst ha hb
    exact r
theorem All2.imp {α β : Type} {R S : α → β → Prop} {xs : List α} {ys : List β} (h : All2 R xs ys) (f : ∀ x y, R x y → S x y) : All2 S xs ys := ⟨h.1, fun i x y a b => f x y (h.2 i x y a b)⟩
theorem All2.get {α β : Type} {R : α → β → Prop} {xs : List α} {ys : List β} (h : All2 R xs ys) {i : Nat} {y : β} (e : ys[i]? = some y) : ∃ x, xs[i]? = some x ∧ R x y := by
  have hi : i < xs.length := by rw [h.1]; exact (List.getElem?_eq_some_iff.mp e).1
  exact ⟨xs[i], List.getElem?_eq_getElem hi, h.2 i _ _ (List.getElem?_eq_getElem hi) e⟩
theorem All2.get' {α β : Type} {R : α → β → Prop} {xs : List α} {ys : List β} (h : All2 R xs ys) {i : Nat} {x : α} (e : xs[i]? = some x) : ∃ y, ys[i]? = some y ∧ R x y := by
  have hi : i < ys.length := by rw [← h.1]; exact (List.getElem?_eq_some_iff.mp e).1
  exact ⟨ys[i], List.getElem?_eq_getElem hi, h.2 i _ _ e (List.getElem?_eq_getElem hi)⟩
/-! ### what stays while lists and dicts turn -/
def Fz : HO → Prop
  | .lst _ => False
  | .dK _ => False
  | .tbl _ => False
  | _ => True
def SameN (H H' : Hp) : Prop := ∀ b o, H b = some o → Fz o → H' b = some o
theorem SameN.refl (H : Hp) : SameN H H := fun _ _ h _ => h
theorem SameN.trans {H H1 H2 : Hp} (a : SameN H H1) (b : SameN H1 H2) : SameN H H2 := fun c o h f => b c o (a c o h f) f
theorem same_n {H H' : Hp} (s : Same H H') : SameN H H' := fun b o h _ => s b o h
theorem sameN_upd {H : Hp} {a : Addr} {o u : HO} (h : H a = some u) (f : ¬ Fz u) : SameN H (upd H a o) := fun b x e fx => by
  rw [upd_ne (fun z => by subst z; rw [h] at e; cases e; exact f fx)]
  exact e
theorem sameN_new {H : Hp} {a : Addr} {o : HO} (h : H a = none) : SameN H (upd H a o) := same_n (same_upd h)
theorem IsR.n {K : PySem.W.Frag} {H H' : Hp} {v : V} {q : Rat} (h : IsR K H v q) (s : SameN H H') : IsR K H' v q := by
  obtain ⟨a, dx, rfl, e⟩ := h
  exact ⟨a, dx, rfl, s _ _ e trivial⟩
theorem same_seqT {K : PySem.W.Frag} {H H' : Hp} {a : Addr} {xs : List V} (e : Same H H') (h : SqT K H a xs) : SqT K H' a xs := by
  rcases h with (h | ⟨o, h⟩) | h
  · exact .inl (.inl (e _ _ h))
  · exact .inl (.inr ⟨o, e _ _ h⟩)
  · exact .inr h
/-! ### comprehensions whose elements leave what stood -/
def Kept (keep : Nat → Bool) (R : Nat → V → Hp → Prop) (n : Nat) (ys : List V) (H : Hp) : Prop :=
  ys.length = ((List.range n).filter keep).length ∧ ∀ (m j : Nat) (y : V), ((List.range n).filter keep)[m]? = some j → ys[m]? = some y → R j y H
theorem Kept.all {R : Nat → V → Hp → Prop} {n : Nat} {ys : List V} {H : Hp} (h : Kept (fun _ => true) R n ys H) : ys.length = n ∧ ∀ (i : Nat) y, ys[i]? = some y → R i y H := by
  obtain ⟨h1, h2⟩ := h
  rw [List.filter_eq_self.mpr (fun _ _ => rfl), List.length_range] at h1
  refine ⟨h1, fun i y e => h2 i i y ?_ e⟩
  rw [List.filter_eq_self.mpr (fun _ _ => rfl)]
  have := (List.getElem?_eq_some_iff.mp e).1
  exact List.getElem?_range (by omega)
theorem lcm {J : It} {n : Nat} {G : Hp → Prop} {Y : Nat → Hp → V → Hp → Prop} (w : Walk J n G Y) {g : TG} {tt : TT} {te : TE} {vs : List Nat} {σ : L2.St} {H1 : Hp} {D : Addr} {Qd : Hp → Prop} (hD : H1 D = none) (hn : n ≤ sizeLine)
    (keep : Nat → Bool) (R : Nat → V → Hp → Prop) (mono : ∀ i y H H', SameN H H' → R i y H → R i y H') (hG : ∀ H, Same H1 H → G H)
    (hs : ∀ i x H H' (kN : Hp → Prop) (k : V → Hp → Prop), i < n → Same H1 H → Y i H x H' → (∀ H3, Same H H3 → keep i = false → kN H3) → (∀ y H4, Same H H4 → keep i = true → R i y H4 → k y H4) →
      g x (wipe σ vs) H' fun σ2 H2 => wipe σ2 vs = wipe σ vs ∧ tt σ2 H2 fun b H3 => if b = true then te σ2 H3 k else kN H3)
    (hd : ∀ H' ys, Same H1 H' → H' D = some (.lst ys) → Kept keep R n ys H' → Qd H') :
    ∃ W : Nat → Nat → Hp → Prop, (∃ m, W 0 m (upd H1 D (.lst []))) ∧ ∀ i m H, W i m H →
      (J.stop i H ∧ Qd H) ∨ (J.go i H ∧ ∃ Nx : Hp → Prop, (∀ H', Nx H' → ∃ m', m' < m ∧ W (i + 1) m' H') ∧ ∀ x H', J.yld i H x H' → g x (wipe σ vs) H' fun σ2 H2 => wipe σ2 vs = wipe σ vs ∧ tt σ2 H2 fun b H3 =>
        if b = true then te σ2 H3 fun y H4 => ∃ acc, H4 D = some (.lst acc) ∧ acc.length < sizeLine ∧ Nx (upd H4 D (.lst (acc ++ [y]))) else Nx H3) := by
  refine lc_it w (fun i H => Same H1 H ∧ ∃ ys, H D = some (.lst ys) ∧ Kept keep R i ys H) ⟨same_upd hD, [], upd_same, rfl, fun m j y h _ => by simp at h⟩ (fun i H _ p => hG H p.1) ?_ ?_
  · rintro i x H H' hi ⟨s1, ys, e, kp⟩ hy
    have el : ∀ {c : Bool}, keep i = c → (List.range (i + 1)).filter keep = if c = true then (List.range i).filter keep ++ [i] else (List.range i).filter keep := by
      intro c hc
      rw [List.range_succ, List.filter_append]
      cases c with
      | true => rw [if_pos rfl, List.filter_cons_of_pos (by rw [hc]), List.filter_nil]
      | false => rw [if_neg (by simp), List.filter_cons_of_neg (by rw [hc]; simp), List.filter_nil, List.append_nil]
    refine hs i x H H' _ _ hi s1 hy (fun H3 s3 hk => ?_) (fun y H4 s4 hk r => ?_)
    · refine ⟨s1.trans s3, ys, s3 _ _ e, ?_⟩
      obtain ⟨k1, k2⟩ := kp
      have e1 := el hk
      rw [if_neg (by simp)] at e1
      exact ⟨by rw [e1]; exact k1, fun m j y h1 h2 => mono _ _ _ _ (same_n s3) (k2 m j y (by rw [e1] at h1; exact h1) h2)⟩
    · obtain ⟨k1, k2⟩ := kp
      have e1 := el hk
      rw [if_pos rfl] at e1
      have hl : ys.length ≤ i := by
        rw [k1]
        exact Nat.le_trans (List.length_filter_le _ _) (by simp)
      have sN : SameN H4 (upd H4 D (.lst (ys ++ [y]))) := sameN_upd (s4 _ _ e) (fun z => z)
      refine ⟨ys, s4 _ _ e, by omega, fun b o hb => ?_, ys ++ [y], upd_same, by rw [e1]; simp [k1], fun m j z h1 h2 => ?_⟩
      · rw [upd_ne (ne_of_none hb hD)]
        exact s4 _ _ (s1 _ _ hb)
      · rw [e1] at h1
        by_cases hm : m < ys.length
        · rw [List.getElem?_append_left hm] at h2
          rw [List.getElem?_append_left (by rw [← k1]; exact hm)] at h1
          exact mono _ _ _ _ ((same_n s4).trans sN) (k2 m j z h1 h2)
        · have hm2 : m = ys.length := by
            have := (List.getElem?_eq_some_iff.mp h2).1
            simp at this
            omega
          subst hm2
          rw [List.getElem?_append_right (by omega)] at h2
          rw [List.getElem?_append_right (by omega)] at h1
          simp [k1] at h1 h2
          subst h1 h2
          exact mono _ _ _ _ sN r
  · rintro H ⟨s1, ys, e, kp⟩
    exact hd H ys s1 e kp
end Lc
set_option Elab.async false
set_option linter.all false
set_option maxRecDepth 100000
set_option maxHeartbeats 4000000
namespace LcE
open PySem PySem.Spec PyProof.Rows
open AutoSeq1 (wpAny_loadPart')
theorem meets_enumerate_newB1 {v : Value} {o : Obj} {H : Heap → Prop} (B : Begins v o H) :
    Meets (Builtin.«enumerate.__new__» ⟨[.type "enumerate", v], []⟩) (fun _ R s => H s.heap ∧
      R (.ok (.ret (.ref (s.heap.push o).objs.size))) { s with heap := (s.heap.push o).push { cls := .type "enumerate", data := .fields #[.none, .bool false, .ref s.heap.objs.size, rawInt 0, .none, .none] } }) :=
  .of_wp fun prog w A R s h => by
    obtain ⟨hp, g, d, tk, os⟩ := s; obtain ⟨h1, h⟩ := h
    have hsub := sub_enumerate
    have q1 : ∀ {A' : Around} {E : Value → Shared → Prop} {Q : Value → Shared → Prop}, Q (.ref hp.objs.size) ⟨hp.push o, g, d, tk, os⟩ → wpAny (model prog w) A' (pyIter v) Q E ⟨hp, g, d, tk, os⟩ :=
      fun q => B.iter prog w _ _ ⟨hp, g, d, tk, os⟩ _ h1 q
    wp_walk using q1
    refine wpAny_stack_any fun st => wpAny_pure ?_
    split
    · rename_i c _ _ _ _ _
      cases (c == Value.type "enumerate")
      · wp_walk using q1
        exact ⟨_, rfl, h⟩
      · wp_walk using q1
        exact ⟨_, rfl, h⟩
    · wp_walk using q1
      exact ⟨_, rfl, h⟩
section
variable {prog : Program} {w : World} {A : Around} {E : Value → Shared → Prop} {s : Shared}
theorem enum_begins1 {v : Value} {o : Obj} {H : Heap → Prop} {Q : Value → Shared → Prop} (B : Begins v o H) (h1 : H s.heap)
    (h : ∀ h', IsEnum h' (s.heap.objs.size + 1) s.heap.objs.size 0 .none → h'.get? s.heap.objs.size = some o → h'.objs.size = s.heap.objs.size + 2 →
      (∀ b o, s.heap.get? b = some o → h'.get? b = some o) → Q (.ref (s.heap.objs.size + 1)) { s with heap := h' }) :
    wpAny (model prog w) A (call (.type "enumerate") [v]) Q E s := by
  refine callType_new F.called_enumerate (by decide) (F.typeCall_enumerate_1 _) (F.newCall_enumerate_1 _) (fun obj => F.args_object_init_2 obj _) F.entry_enumerate_new
    (meets_enumerate_newB1 B) ⟨h1, ?_⟩
  have hz : (s.heap.push o).objs.size = s.heap.objs.size + 1 := Heap.size_push ..
  show _ ∧ _
  rw [hz]
  have he : IsEnum ((s.heap.push o).push { cls := .type "enumerate", data := .fields #[.none, .bool false, .ref s.heap.objs.size, rawInt 0, .none, .none] }) (s.heap.objs.size + 1) s.heap.objs.size 0 .none := by
    have := Heap.get?_push_size (s.heap.push o) (o := { cls := .type "enumerate", data := .fields #[.none, .bool false, .ref s.heap.objs.size, rawInt 0, .none, .none] }) rfl
    rw [hz] at this; exact this
  refine ⟨⟨_, he, rfl⟩, h _ he (Heap.get?_push_of_some _ (Heap.get?_push_size _ B.free)) (by rw [Heap.size_push, hz]) fun b o x => Heap.get?_push_of_some _ (Heap.get?_push_of_some _ x)⟩
end
end LcE
namespace LcE
open PySem PySem.Spec PyProof.Rows L2
/-! ### enumerate(tuple) -/
def IteT (K : PySem.W.Frag) (a : Addr) : It :=
  ⟨fun i H => ∃ (xs : List V) (x : V), SqT K H a xs ∧ xs[i]? = some x, fun i H v H' => ∃ T x, v = .ref T ∧ H T = none ∧ H' = upd H T (.tup [.int (i : Nat), x]) ∧ ∀ xs, SqT K H a xs → xs[i]? = some x, fun i H => ∃ xs : List V, SqT K H a xs ∧ xs.length ≤ i⟩
theorem tup_inj {X : Cx} {pins : List (Addr × Obj)} {σ : L2.St} {H : Hp} {s : Shared} (I : Inv X pins σ H s) {a : Addr} {xs ys : List V} (h : SqT X.K H a xs) (k : SqT X.K H a ys) : xs = ys := by
  exact I.tuple_inj h k
theorem turn_enumT {P : Program} {w : World} {K : PySem.W.Frag} {elts : List Expr} {kk : Nat} {tpos : Pos} (a e it : Addr) :
    Turn P w K (.Tuple elts kk tpos) (IteT K a) [e, it] e (fun i h => (∃ old, IsEnum h e it ((i : Nat) : Int) old) ∧ h.IsTupleIter it a i ∧ e ≠ it) where
  mem := by simp
  obj := fun i h st b hb => by
    obtain ⟨⟨old, he⟩, ⟨o, ho, hc, hd⟩, _⟩ := st
    have e' : b = e ∨ b = it := by simpa using hb
    rcases e' with z | z
    · rw [z]; exact ⟨_, he, fun v q => nomatch q⟩
    · rw [z]; exact ⟨o, ho, fun v q => by rw [hd] at q; cases q⟩
  keep := fun i h h' st k => let ⟨⟨old, he⟩, hi, hne⟩ := st; ⟨⟨old, k e (by simp) _ he⟩, hi.at fun o q => k it (by simp) o q, hne⟩
  item := by
    intro X hP hw hK hc i pins s σ H E I hf st hg
    subst hP hw hK
    obtain ⟨⟨old, he⟩, hit, hne⟩ := st
    obtain ⟨xs, x, hq, hx⟩ := hg
    obtain ⟨its, rv, p, hz⟩ := I.tuple hq
    obtain ⟨u, hu, ru⟩ := rv.get hx
    have hel : e < s.heap.objs.size := Heap.lt_size he
    have hil : it < s.heap.objs.size := by obtain ⟨_, q, _⟩ := hit; exact Heap.lt_size q
    have hta : a ≠ it := fun z => by
      obtain ⟨o1, q1, c1, _⟩ := p
      obtain ⟨o2, q2, c2, _⟩ := hit
      rw [z, q2] at q1
      cases q1
      rw [c2] at c1
      exact absurd (Value.type.inj c1) (by decide)
    have hte : e ≠ a := fun z => by
      obtain ⟨o1, q1, c1, _⟩ := p
      have he' := he
      unfold IsEnum at he'
      rw [z, q1] at he'
      cases he'
      exact absurd (Value.type.inj c1) (by decide)
    have hu' : its.toArray[i]? = some u := by simpa using hu
    refine wpAny_pyNext_enum_itemD (Draws.tuple (prog := X.prog) (w := X.w) (A := X.A.in1) (I.ok.hd hc) it a hta its.toArray) he ⟨hit, p⟩ (by
      have := (List.getElem?_eq_some_iff.mp hu).1
      simpa using this) hne (by simp [hne, hte]) fun y h' tk hy ho hst hT hsz hk => ?_
    have hit' := hst.1
    have hyu : y = u := by rw [hu'] at hy; exact (Option.some.inj hy).symm
    subst hyu
    refine ⟨_, rfl, wpAny_letOwnedTupleGo_enum (s := { s with heap := h', toks := tk + 1 }) ho fun h'' he' sb => ?_⟩
    have hT2 : h''.get? s.heap.objs.size = some { cls := .type "tuple", data := .seq #[.int i tk, y] } := (sb.2 _ (Nat.ne_of_gt hel)).trans hT
    have new : ObjOk X.prog X.w (upd H s.heap.objs.size (.tup [.int (i : Nat), x])) h'' s.heap.objs.size (.tup [.int (i : Nat), x]) :=
      ⟨by show 2 ≤ sizeLine; decide, [.int i tk, y], .cons ⟨_, rfl⟩ (.cons ru .nil), ⟨_, hT2, rfl, _, rfl⟩⟩
    have I1 : Inv X pins σ (upd H s.heap.objs.size (.tup [.int (i : Nat), x])) { s with heap := h'', toks := tk + 1 } :=
      I.turnedNew (ch := [e, it]) (fun b ob hb q => (sb.2 b (fun z => hb (by simp [z]))).trans (hk b ob (fun z => hb (by simp [z])) (fun z => hb (by simp [z])) q)) hf (Nat.le_refl _) new
    refine ⟨.ref s.heap.objs.size, _, I1, rfl, ⟨_, x, rfl, I.hok.fresh (Nat.le_refl _), rfl, fun ys hy => by rw [tup_inj I hy hq]; exact hx⟩, ⟨⟨y, ?_⟩, hit'.at fun o q => (sb.2 it (Ne.symm hne)).trans q, hne⟩, fun b hb => ?_⟩
    · have e1 : ((i + 1 : Nat) : Int) = (i : Int) + 1 := by omega
      rw [e1]; exact he'
    · have hb' : b < s.heap.objs.size := by
        have e' : b = e ∨ b = it := by simpa using hb
        rcases e' with z | z
        · rw [z]; exact hel
        · rw [z]; exact hil
      rw [upd_ne (Nat.ne_of_lt hb')]
      exact (hf b hb).1
  done := by
    intro X hP hw hK hc i pins s σ H E I hf st hg
    subst hP hw hK
    obtain ⟨⟨old, he⟩, hit, hne⟩ := st
    obtain ⟨xs, hq, hx⟩ := hg
    obtain ⟨its, rv, p, hz⟩ := I.tuple hq
    obtain ⟨f0, f1, f2, f3, f4, f5⟩ := hf it (by simp)
    have hl := rv.length
    have hta : a ≠ it := fun z => by
      obtain ⟨o1, q1, c1, _⟩ := p
      obtain ⟨o2, q2, c2, _⟩ := hit
      rw [z, q2] at q1
      cases q1
      rw [c2] at c1
      exact absurd (Value.type.inj c1) (by decide)
    have D' : Draws X.prog X.w X.A.in1 it [it, a] i (fun i v => its.toArray[i]? = some v) (fun j h => j = i ∧ h.IsTupleIter it a i ∧ h.IsTuple a its.toArray) :=
      { live := fun _ _ st => let ⟨o, ho, _⟩ := st.2.1; ⟨o, ho⟩
        frame := fun _ _ _ st hk => ⟨st.1, st.2.1.at fun o e => hk it (by simp) o e, st.2.2.at fun o e => hk a (by simp) o e⟩
        item := fun j s Q E hj st hQ => by have := st.1; omega
        done := fun s Q E st hE => wpAny_nextOf_tuple_end (A := X.A.in1) (I.ok.hd hc) st.2.1 st.2.2 (by simp; omega) hE }
    exact wpAny_pyNext_enum_endD D' he ⟨rfl, hit, p⟩ fun h' eb => ⟨rfl, I.turned (t' := s.toks) (fun b o hb q => eb b o hb q) f0 f1 f3 f4 f5⟩
  self := fun A i s Q E st h => let ⟨⟨_, he⟩, _⟩ := st; wpAny_pyIter_enum he h
def iEnumT (K : PySem.W.Frag) (ta : TA) : TI := fun σ H R => ta σ H fun vs H1 => ∃ a xs, vs = [.ref a] ∧ SqT K H1 a xs ∧ R (IteT K a) H1
theorem pi_enumT {X : Cx} {e : Expr} {ta : TA} {p pos tpos : Pos} {elts : List Expr} {kk : Nat} (hg : Gl X "enumerate") (hm : X.mg "enumerate" = none) (ha : PA X [e] ta) (hs : starEach [e] X.env = [(false, eval e X.env)] := by rfl) :
    PI X (.Tuple elts kk tpos) (.Call (.Name "enumerate" p) [e] [] pos) (iEnumT X.K ta) := by
  refine ⟨fun pins s σ H R I h => ?_⟩
  refine Call_ (ld_blt I hg hm boot_enumerate (PyProof.Rows.callWith_type1 (thn (ha.run pos pins s σ H _ I h) fun us s1 ⟨vs, H1, I1, r1, q1⟩ => ?_) hs rfl))
  obtain ⟨a, xs, ex, hq, q⟩ := q1
  subst ex
  cases r1 with
  | cons r rr =>
    cases rr
    cases r
    obtain ⟨its, rv, p', hz⟩ := I1.tuple hq
    refine enum_begins1 (begins_tuple a its.toArray) p' fun h' he hit hsz hk => wpAny_pyIter_enum he ?_
    have I2 : Inv X pins σ H1 { s1 with heap := h' } := I1.kept (t' := s1.toks) hk
    refine ⟨s1.heap.objs.size + 1, [s1.heap.objs.size + 1, s1.heap.objs.size], _, _, H1, rfl, I2, turn_enumT a (s1.heap.objs.size + 1) s1.heap.objs.size, ⟨⟨.none, he⟩, ⟨_, hit, rfl, rfl⟩, Nat.succ_ne_self _⟩, fun b hb => ?_, q⟩
    have e' : b = s1.heap.objs.size + 1 ∨ b = s1.heap.objs.size := by simpa using hb
    have hle : s1.heap.objs.size ≤ b := by
      rcases e' with z | z
      · rw [z]; exact Nat.le_add_right _ _
      · rw [z]; exact Nat.le_refl _
    exact I1.fpOk hle (I1.hok.fresh hle)
theorem walk_enumT {K : PySem.W.Frag} {a : Addr} {xs : List V} : Walk (IteT K a) xs.length (fun H => SqT K H a xs) (YPair (fun i => some (.int (i : Nat))) (fun i => xs[i]?)) := by
  refine ⟨fun i _ hi q => ⟨xs, xs[i], q, by simp [hi]⟩, fun _ q => ⟨xs, q, Nat.le_refl _⟩, fun i H v H' _ q y => ?_⟩
  obtain ⟨T, x, h1, h2, h3, h4⟩ := y
  exact ⟨T, .int (i : Nat), x, h1, h2, h3, rfl, h4 xs q⟩
end LcE
set_option Elab.async false
set_option linter.all false
set_option maxRecDepth 100000
set_option maxHeartbeats 4000000
namespace Lc
open PySem PySem.Spec PyProof.Rows L2 LcR
section
variable {X : Cx}
/-- xs != [] of lists of any things -/
def rNeNil (K : PySem.W.Frag) : R2 := fun x y H Q => ∃ a b xs, x = .ref a ∧ y = .ref b ∧ SqL K H a xs ∧ SqL K H b [] ∧ Q (.bl (!xs.isEmpty)) H
theorem op_neNil (hu : X.A.units < cLine) : OpR X (compareOp .NotEq) (rNeNil X.K) := by
  intro pins s σ H x y v u Q I rx ry h
  obtain ⟨a, b, xs, rfl, rfl, h1, h2, q⟩ := h
  cases rx
  cases ry
  obtain ⟨its, rv, p, _⟩ := I.list h1
  obtain ⟨its2, rv2, p2, _⟩ := I.list h2
  cases rv2
  show wpAny (model X.prog X.w) X.A (richCompare .NotEq (.ref a) (.ref b)) (EP X pins σ Q) X.xe s
  cases xs with
  | nil =>
    cases rv
    exact SeqAt.RcNeAt.lists (e := fun _ => true) p.isList p2.isList rfl hu (fun j h1 _ => by simp at h1) X.prog X.w X.xe _ ⟨.bl _, H, I, rfl, by simpa using q⟩
  | cons z r =>
    have hl := rv.length
    exact SeqAt.RcNeAt.lists_lengths p.isList p2.isList (by simp; intro e; simp [e] at hl) hu X.prog X.w X.xe _ ⟨.bl _, H, I, rfl, by simpa using q⟩
/-- xs == [] of lists of any things -/
def rEqNil (K : PySem.W.Frag) : R2 := fun x y H Q => ∃ a b xs, x = .ref a ∧ y = .ref b ∧ SqL K H a xs ∧ SqL K H b [] ∧ Q (.bl xs.isEmpty) H
theorem op_eqNil (hu : X.A.units < cLine) : OpR X (compareOp .Eq) (rEqNil X.K) := by
  intro pins s σ H x y v u Q I rx ry h
  obtain ⟨a, b, xs, rfl, rfl, h1, h2, q⟩ := h
  cases rx
  cases ry
  obtain ⟨its, rv, p, _⟩ := I.list h1
  obtain ⟨its2, rv2, p2, _⟩ := I.list h2
  cases rv2
  show wpAny (model X.prog X.w) X.A (richCompare .Eq (.ref a) (.ref b)) (EP X pins σ Q) X.xe s
  cases xs with
  | nil =>
    cases rv
    exact SeqAt.RcAt.lists (e := fun _ => true) p.isList p2.isList rfl hu (fun j h1 _ => by simp at h1) X.prog X.w X.xe _ ⟨.bl _, H, I, rfl, by simpa using q⟩
  | cons z r =>
    have hl := rv.length
    exact SeqAt.RcAt.lists_lengths p.isList p2.isList (by simp; intro e; simp [e] at hl) hu X.prog X.w X.xe _ ⟨.bl _, H, I, rfl, by simpa using q⟩
/-- t == () -/
def rEqNilT (K : PySem.W.Frag) : R2 := fun x y H Q => ∃ a b xs, x = .ref a ∧ y = .ref b ∧ SqT K H a xs ∧ SqT K H b [] ∧ Q (.bl xs.isEmpty) H
theorem op_eqNilT (hu : X.A.units < cLine) : OpR X (compareOp .Eq) (rEqNilT X.K) := by
  intro pins s σ H x y v u Q I rx ry h
  obtain ⟨a, b, xs, rfl, rfl, h1, h2, q⟩ := h
  cases rx
  cases ry
  obtain ⟨its, rv, p, _⟩ := I.tuple h1
  obtain ⟨its2, rv2, p2, _⟩ := I.tuple h2
  cases rv2
  show wpAny (model X.prog X.w) X.A (richCompare .Eq (.ref a) (.ref b)) (EP X pins σ Q) X.xe s
  refine SeqAt.RcAt.tuples (e := fun _ => true) p p2 hu (fun j _ h2 => by simp at h2) X.prog X.w X.xe _ ?_
  have hl := rv.length
  have e : ((List.range (min its.toArray.size (#[] : Array Value).size)).all (fun _ => true) && its.toArray.size == (#[] : Array Value).size) = xs.isEmpty := by
    cases xs with
    | nil => cases rv; rfl
    | cons z r =>
      cases its with
      | nil => simp at hl
      | cons i j => rfl
  have q' : EP X pins σ Q (.bool xs.isEmpty) s := ⟨.bl _, H, I, rfl, q⟩
  rw [← e] at q'
  exact q'
end
end Lc
set_option Elab.async false
set_option linter.all false
set_option maxRecDepth 100000
set_option maxHeartbeats 4000000
namespace Lc
open PySem PySem.Spec PyProof.Rows L2 LcR
/-! ### what a house is made of -/
structure OutD where
  odds : Nat
  target : Nat
  time : Nat
  pays : List Int
abbrev ActD := Nat × List OutD
def OutV (H : Hp) (v : V) (o : OutD) : Prop := ∃ a pa, v = .ref a ∧ H a = some (.tup [.int (o.odds : Int), .int (o.target : Int), .int (o.time : Int), .ref pa]) ∧ H pa = some (.tup (o.pays.map V.int))
def ActV (H : Hp) (v : V) (d : ActD) : Prop := ∃ p q vs, v = .ref p ∧ H p = some (.tup [.int (d.1 : Int), .ref q]) ∧ H q = some (.tup vs) ∧ All2 (OutV H) vs d.2
def ActsV (H : Hp) (v : V) (l : List ActD) : Prop := ∃ p vs, v = .ref p ∧ H p = some (.tup vs) ∧ All2 (ActV H) vs l
theorem OutV.n {H H' : Hp} {v : V} {o : OutD} (h : OutV H v o) (s : SameN H H') : OutV H' v o := by
  obtain ⟨a, pa, rfl, e1, e2⟩ := h
  exact ⟨a, pa, rfl, s _ _ e1 trivial, s _ _ e2 trivial⟩
theorem ActV.n {H H' : Hp} {v : V} {d : ActD} (h : ActV H v d) (s : SameN H H') : ActV H' v d := by
  obtain ⟨p, q, vs, rfl, e1, e2, e3⟩ := h
  exact ⟨p, q, vs, rfl, s _ _ e1 trivial, s _ _ e2 trivial, e3.imp fun x y z => z.n s⟩
theorem ActsV.n {H H' : Hp} {v : V} {l : List ActD} (h : ActsV H v l) (s : SameN H H') : ActsV H' v l := by
  obtain ⟨p, vs, rfl, e1, e3⟩ := h
  exact ⟨p, vs, rfl, s _ _ e1 trivial, e3.imp fun x y z => z.n s⟩
structure OkOut (n : Nat) (o : OutD) : Prop where
  o1 : 1 ≤ o.odds
  o2 : o.odds ≤ 10
  t : o.target < n
  t1 : 1 ≤ o.time
  t2 : o.time ≤ 1000
  p : o.pays.length = 1
  p1 : ∀ i ∈ o.pays, -999 ≤ i ∧ i ≤ 999
structure OkAct (n : Nat) (d : ActD) : Prop where
  s : d.1 < n
  ne : d.2 ≠ []
  len : d.2.length ≤ 4
  outs : ∀ o ∈ d.2, OkOut n o
structure OkActs (n : Nat) (l : List ActD) : Prop where
  n1 : 1 ≤ n
  n2 : n ≤ 10
  len : l.length ≤ 30
  acts : ∀ d ∈ l, OkAct n d
  all : ∀ s, s < n → ∃ d ∈ l, d.1 = s
theorem map_bl_all {ys : List V} {H : Hp} {n : Nat} (h1 : ys.length = n) (h2 : ∀ (i : Nat) y, ys[i]? = some y → y = V.bl true) : ys = (List.replicate n true).map V.bl := by
  apply List.ext_getElem?
  intro i
  rw [List.map_replicate]
  by_cases hi : i < n
  · rw [List.getElem?_replicate, if_pos hi, List.getElem?_eq_getElem (by omega)]
    exact congrArg some (h2 i _ (List.getElem?_eq_getElem (by omega)))
  · rw [List.getElem?_eq_none (by omega), List.getElem?_eq_none (by simp; omega)]
theorem all_true (n : Nat) : (List.replicate n true).all id = true := by
  rw [List.all_eq_true]
  intro x hx
  exact (List.mem_replicate.mp hx).2
section
variable {P : Program} {w : World} {K : PySem.W.Frag} {mg : Str → Option Value} {base : Heap}
def sp_is_pay : Sp := fun vs H Q _ => ∃ i : Int, vs = [.int i] ∧ -999 ≤ i ∧ i ≤ 999 ∧ Q (.bl true) H
theorem c_is_pay (T : Tx K mg) : C8.Cal P w K mg base 3 "is_pay" sp_is_pay [] := by
  obtain ⟨fd, F⟩ := T.f_is_pay
  refine calD F T.g_is_pay sc_is_pay (fun _ _ _ _ _ _ us hl => match us, hl with | [_], _ => rfl) (fun vs H Q E h => ?_) (fun cdv A outer s H vs Q E hr h => ?_)
  · obtain ⟨_, rfl, _⟩ := h; rfl
  obtain ⟨i, rfl, h1, h2, k⟩ := h
  refine ⟨_, (pss_one (ps_ret (C8.pe_c (c_is_within T) hr (by decide) (by rfl) (pa_cons (pv 0) (pa_cons (pe_un un_neg (C8.pe_gc (by rfl) T.k_MOST_PAY)) (pa_cons (C8.pe_gc (by rfl) T.k_MOST_PAY) pa_nil)))))), ?_⟩
  exact ⟨_, rfl, _, rfl, i, _, _, rfl, by omega, by omega, k⟩
def sp_is_outcome : Sp := fun vs H Q _ => ∃ (n : Nat) (v : V) (o : OutD), vs = [.int (n : Int), .int 1, v] ∧ OutV H v o ∧ OkOut n o ∧ ∀ H', Same H H' → Q (.bl true) H'
theorem c_is_outcome (T : Tx K mg) : C8.Cal P w K mg base 4 "is_outcome" sp_is_outcome [] := by
  obtain ⟨fd, F⟩ := T.f_is_outcome
  refine calD F T.g_is_outcome sc_is_outcome (fun _ _ _ _ _ _ us hl => match us, hl with | [_, _, _], _ => rfl) (fun vs H Q E h => ?_) (fun cdv A outer s H vs Q E hr h => ?_)
  · obtain ⟨_, _, _, rfl, _⟩ := h; rfl
  obtain ⟨n, v, o, rfl, ⟨a, pa, rfl, e1, e2⟩, ok, k⟩ := h
  obtain ⟨o1, o2, t, t1, t2, p, p1⟩ := ok
  refine ⟨_, (pss_cons (ps_if (PW.pt (pw_or (pt_not (pt_val (pe_callB call_isi (by rfl) T.b_isinstance (by decide +kernel) (pa_cons (pv 2) (pa_cons (pe_bltn (v := .ty "tuple") (by rfl) T.b_tuple (by decide +kernel) rfl) pa_nil))))) (pw_or (pt_cmpR op_ne (pe_callB call_len (by rfl) T.b_len (by decide +kernel) (pa_cons (pv 2) pa_nil)) pe_int (nomark _)) (pw_or1 (pt_not (pt_val (C8.pe_c (c_is_within T) hr (by decide) (by rfl) (pa_cons (pe_ix ix_tup (pv 2) pe_int (fun _ _ => rfl)) (pa_cons pe_int (pa_cons (C8.pe_gc (by rfl) T.k_MOST_ODDS) pa_nil)))))))))) (pss_one (ps_ret pe_bl)) pss_nil)
      (pss_cons (ps_if (PW.pt (pw_or (pt_not (pt_val (C8.pe_c (c_is_within T) hr (by decide) (by rfl) (pa_cons (pe_ix ix_tup (pv 2) pe_int (fun _ _ => rfl)) (pa_cons pe_int (pa_cons (pe_op op_sub (pv 0) pe_int) pa_nil)))))) (pw_or1 (pt_not (pt_val (C8.pe_c (c_is_within T) hr (by decide) (by rfl) (pa_cons (pe_ix ix_tup (pv 2) pe_int (fun _ _ => rfl)) (pa_cons pe_int (pa_cons (C8.pe_gc (by rfl) T.k_MOST_TIME) pa_nil))))))))) (pss_one (ps_ret pe_bl)) pss_nil)
      (pss_one (ps_ret (pe_and (pe_callB call_isi (by rfl) T.b_isinstance (by decide +kernel) (pa_cons (pe_ix ix_tup (pv 2) pe_int (fun _ _ => rfl)) (pa_cons (pe_bltn (v := .ty "tuple") (by rfl) T.b_tuple (by decide +kernel) rfl) pa_nil))) (pe_and (pe_cmpR op_eq (pe_callB call_len (by rfl) T.b_len (by decide +kernel) (pa_cons (pe_ix ix_tup (pv 2) pe_int (fun _ _ => rfl)) pa_nil)) (pv 1) (nomark _)) (pe_one (pe_callB (cr_all rfl) (by rfl) T.b_all (by decide +kernel) (pa_cons (pe_lc (own := [("pay", 3)]) (g := gName 3) (by rfl) sc_is_outcome.nd (pi_tup (pe_ix ix_tup (pv 2) pe_int (fun _ _ => rfl))) (blkOk_by (own := [("pay", 3)]) (N := N_is_outcome) (sc := defScope s_is_outcome) (by decide +kernel)) (fun _ _ _ _ _ => (pg_name (i := 3) sc_is_outcome.nd rfl (Or.inl rfl))) (fun _ _ _ _ _ => pts_nil) (fun _ _ _ _ _ => (C8.pe_c (c_is_pay T) hr (by decide) (by rfl) (pa_cons (pv 3) pa_nil)))) pa_nil))))))))), ?_⟩
  have S1 : SqT K H a [.int (o.odds : Int), .int (o.target : Int), .int (o.time : Int), .ref pa] := .inl (.inl e1)
  have S2 : SqT K H pa (o.pays.map V.int) := .inl (.inl e2)
  refine ⟨_, rfl, _, _, _, _, true, rfl, .ty _, .base (.tup e1), kit_ty (by decide +kernel), true, rfl, iteF ?_⟩
  refine ⟨_, rfl, _, 4, rfl, .inr ⟨_, S1, rfl⟩, rfl, false, rfl, iteF ?_⟩
  refine ⟨_, rfl, a, _, 0, _, rfl, rfl, S1, rfl, (o.odds : Int), 1, 1000, rfl, by omega, by omega, true, rfl, iteF ?_⟩
  refine ⟨_, rfl, a, _, 1, _, rfl, rfl, S1, rfl, _, rfl, _, _, rfl, rfl, (o.target : Int), 0, (n : Int) - 1, rfl, by omega, by omega, true, rfl, iteF ?_⟩
  refine ⟨_, rfl, a, _, 2, _, rfl, rfl, S1, rfl, (o.time : Int), 1, 1000, rfl, by omega, by omega, true, rfl, iteF ?_⟩
  refine ⟨_, rfl, a, _, 3, _, rfl, rfl, S1, rfl, _, _, _, _, true, rfl, .ty _, .base (.tup e2), kit_ty (by decide +kernel), true, rfl, iteT ?_⟩
  refine ⟨_, rfl, a, _, 3, _, rfl, rfl, S1, rfl, _, (o.pays.map V.int).length, rfl, .inr ⟨_, S2, rfl⟩, _, rfl, rfl, true, ?_, iteT ?_⟩
  · rw [List.length_map, p]; rfl
  refine ⟨_, rfl, a, _, 3, _, rfl, rfl, S1, rfl, pa, rfl, ⟨_, S2⟩, fun D hD => ?_⟩
  refine lcm walk_tup hD (by rw [List.length_map, p]; decide) (fun _ => true) (fun _ y _ => y = .bl true) (fun _ _ _ _ _ h => h) (fun _ s => same_seqT s S2) (fun i x H1 H' kN kY hi s y kn ky => ?_) (fun H' ys s e kp => ?_)
  · obtain ⟨rfl, hx⟩ := y
    rw [List.getElem?_map] at hx
    cases hp : o.pays[i]? with
    | none => rw [hp] at hx; cases hx
    | some z =>
      rw [hp] at hx
      cases hx
      have := p1 z (List.mem_of_getElem? hp)
      exact ⟨rfl, iteT (B := kN H') ⟨_, rfl, z, rfl, this.1, this.2, ky _ _ (Same.refl _) rfl rfl⟩⟩
  · obtain ⟨l1, l2⟩ := kp.all
    have e3 := map_bl_all (H := H') l1 l2
    refine ⟨D, List.replicate (o.pays.map V.int).length true, rfl, .inl (.inl (by rw [← e3]; exact e)), ?_⟩
    rw [all_true]
    exact k _ s
end
end Lc
set_option Elab.async false
set_option linter.all false
set_option maxRecDepth 100000
set_option maxHeartbeats 4000000
namespace Lc
open PySem PySem.Spec PyProof.Rows L2 LcR
theorem walk_zipT {K : PySem.W.Frag} {a b : Addr} {xs ys : List V} {n : Nat} (hn : n = min xs.length ys.length) : Walk (RZ.ItzT K a b) n (fun H => SqT K H a xs ∧ SqT K H b ys) (YPair (fun i => xs[i]?) (fun i => ys[i]?)) := by
  subst hn
  refine ⟨fun i _ hi q => ?_, fun _ q => ⟨xs, ys, q.1, q.2, by omega⟩, fun i H v H' _ q y => ?_⟩
  · have h1 : i < xs.length := by omega
    have h2 : i < ys.length := by omega
    exact ⟨xs, ys, xs[i], ys[i], q.1, q.2, by simp [h1], by simp [h2]⟩
  · obtain ⟨T, x, z, h1, h2, h3, h4, h5⟩ := y
    exact ⟨T, x, z, h1, h2, h3, h4 xs q.1, h5 ys q.2⟩
theorem sIx_1 (n : Nat) : HT.sIx n 0 (some 1) = min 1 n := by
  unfold HT.sIx
  simp
  try omega
theorem sIx_n (n : Nat) : HT.sIx n n none = n := by
  unfold HT.sIx
  simp
/-- t[1:] -/
theorem cut1 (xs : List V) : cutV xs (some 1) none = xs.drop 1 := by
  unfold cutV
  rw [sIx_1, sIx_n]
  cases xs with
  | nil => rfl
  | cons x r =>
    have : min 1 (x :: r).length = 1 := by simp; try omega
    rw [this]
    simp
section
variable {P : Program} {w : World} {K : PySem.W.Frag} {mg : Str → Option Value} {base : Heap}
def sp_is_act : Sp := fun vs H Q _ => ∃ (n : Nat) (v : V) (d : ActD), vs = [.int (n : Int), .int 1, v] ∧ ActV H v d ∧ OkAct n d ∧ ∀ H', Same H H' → Q (.bl true) H'
theorem c_is_act (T : Tx K mg) : C8.Cal P w K mg base 5 "is_act" sp_is_act [] := by
  obtain ⟨fd, F⟩ := T.f_is_act
  refine calD F T.g_is_act sc_is_act (fun _ _ _ _ _ _ us hl => match us, hl with | [_, _, _], _ => rfl) (fun vs H Q E h => ?_) (fun cdv A outer s H vs Q E hr h => ?_)
  · obtain ⟨_, _, _, rfl, _⟩ := h; rfl
  obtain ⟨n, v, d, rfl, ⟨a, q, us, rfl, e1, e2, e3⟩, ok, k⟩ := h
  obtain ⟨src, outs⟩ := d
  obtain ⟨o1, o2, o3, o4⟩ := ok
  have o1 : src < n := o1
  refine ⟨_, (pss_cons (ps_if (PW.pt (pw_or (pt_not (pt_val (pe_callB call_isi (by rfl) T.b_isinstance (by decide +kernel) (pa_cons (pv 2) (pa_cons (pe_bltn (v := .ty "tuple") (by rfl) T.b_tuple (by decide +kernel) rfl) pa_nil))))) (pw_or (pt_cmpR op_ne (pe_callB call_len (by rfl) T.b_len (by decide +kernel) (pa_cons (pv 2) pa_nil)) pe_int (nomark _)) (pw_or1 (pt_not (pt_val (C8.pe_c (c_is_within T) hr (by decide) (by rfl) (pa_cons (pe_ix ix_tup (pv 2) pe_int (fun _ _ => rfl)) (pa_cons pe_int (pa_cons (pe_op op_sub (pv 0) pe_int) pa_nil)))))))))) (pss_one (ps_ret pe_bl)) pss_nil)
      (pss_cons (ps_if (PW.pt (pw_or (pt_not (pt_val (pe_callB call_isi (by rfl) T.b_isinstance (by decide +kernel) (pa_cons (pe_ix ix_tup (pv 2) pe_int (fun _ _ => rfl)) (pa_cons (pe_bltn (v := .ty "tuple") (by rfl) T.b_tuple (by decide +kernel) rfl) pa_nil))))) (pw_or1 (pt_cmpR (op_eqNilT hr.units0) (pe_ix ix_tup (pv 2) pe_int (fun _ _ => rfl)) (pe_tup pa_nil) (nomark _))))) (pss_one (ps_ret pe_bl)) pss_nil)
      (pss_one (ps_ret (pe_callB (cr_all rfl) (by rfl) T.b_all (by decide +kernel) (pa_cons (pe_lc (own := [("outcome", 3)]) (g := gName 3) (by rfl) sc_is_act.nd (pi_tup (pe_ix ix_tup (pv 2) pe_int (fun _ _ => rfl))) (blkOk_by (own := [("outcome", 3)]) (N := N_is_act) (sc := defScope s_is_act) (by decide +kernel)) (fun _ _ _ _ _ => (pg_name (i := 3) sc_is_act.nd rfl (Or.inl rfl))) (fun _ _ _ _ _ => pts_nil) (fun _ _ _ _ _ => (C8.pe_c (c_is_outcome T) hr (by decide) (by rfl) (pa_cons (pv 0) (pa_cons (pv 1) (pa_cons (pv 3) pa_nil)))))) pa_nil)))))), ?_⟩
  have S1 : SqT K H a [.int (src : Int), .ref q] := .inl (.inl e1)
  have S2 : SqT K H q us := .inl (.inl e2)
  refine ⟨_, rfl, _, _, _, _, true, rfl, .ty _, .base (.tup e1), kit_ty (by decide +kernel), true, rfl, iteF ?_⟩
  refine ⟨_, rfl, _, 2, rfl, .inr ⟨_, S1, rfl⟩, rfl, false, rfl, iteF ?_⟩
  refine ⟨_, rfl, a, _, 0, _, rfl, rfl, S1, rfl, _, rfl, _, _, rfl, rfl, (src : Int), 0, (n : Int) - 1, rfl, by omega, by omega, true, rfl, iteF ?_⟩
  refine ⟨_, rfl, a, _, 1, _, rfl, rfl, S1, rfl, _, _, _, _, true, rfl, .ty _, .base (.tup e2), kit_ty (by decide +kernel), true, rfl, iteF ?_⟩
  refine ⟨_, rfl, a, _, 1, _, rfl, rfl, S1, rfl, (by decide), fun p hp => ?_⟩
  have s0 : Same H (upd H p (.tup [])) := same_upd hp
  have une : us.isEmpty = false := by
    cases us with
    | nil => exact absurd (List.length_eq_zero_iff.mp e3.1.symm) o2
    | cons _ _ => rfl
  refine ⟨q, p, us, rfl, rfl, same_seqT s0 S2, .inl (.inl upd_same), us.isEmpty, rfl, ?_⟩
  rw [une]
  refine iteF ?_
  refine ⟨_, rfl, a, _, 1, _, rfl, rfl, same_seqT s0 S1, rfl, q, rfl, ⟨_, same_seqT s0 S2⟩, fun D hD => ?_⟩
  have s1 : Same H _ := s0
  refine lcm walk_tup hD (by have := e3.1; have : us.length ≤ 4 := by omega
                             exact Nat.le_trans this (by decide)) (fun _ => true) (fun _ y _ => y = .bl true) (fun _ _ _ _ _ h => h) (fun H' s => same_seqT (s0.trans s) S2) (fun i x H1 H' kN kY hi s y kn ky => ?_) (fun H' ys s e kp => ?_)
  · obtain ⟨rfl, hx⟩ := y
    obtain ⟨o, ho, hov⟩ := e3.get' hx
    refine ⟨rfl, iteT (B := kN H') ⟨_, rfl, _, rfl, _, rfl, n, x, o, rfl, hov.n (same_n (s0.trans s)), o4 o (List.mem_of_getElem? ho), fun H2 s2 => ky _ _ s2 rfl rfl⟩⟩
  · obtain ⟨l1, l2⟩ := kp.all
    have e3 := map_bl_all (H := H') l1 l2
    refine ⟨D, List.replicate us.length true, rfl, .inl (.inl (by rw [← e3]; exact e)), ?_⟩
    rw [all_true]
    exact k _ (s0.trans s)
def sp_is_name : Sp := fun vs H Q _ => vs = [.str "x"] ∧ ∀ H', Same H H' → Q (.bl true) H'
theorem c_is_name (T : Tx K mg) : C8.Cal P w K mg base 1 "is_name" sp_is_name [] := by
  obtain ⟨fd, F⟩ := T.f_is_name
  refine calD F T.g_is_name sc_is_name (fun _ _ _ _ _ _ us hl => match us, hl with | [_], _ => rfl) (fun vs H Q E h => ?_) (fun cdv A outer s H vs Q E hr h => ?_)
  · obtain ⟨rfl, _⟩ := h; rfl
  obtain ⟨rfl, k⟩ := h
  refine ⟨_, (pss_cons (ps_if (PW.pt (pw_or (pt_not (pt_val (pe_callB call_isi (by rfl) T.b_isinstance (by decide +kernel) (pa_cons (pv 0) (pa_cons (pe_bltn (v := .ty "str") (by rfl) T.b_str (by decide +kernel) rfl) pa_nil))))) (pw_or1 (pt_not (pt_chain op_le op_le pe_int (pe_callB call_len (by rfl) T.b_len (by decide +kernel) (pa_cons (pv 0) pa_nil)) (C8.pe_gc (by rfl) T.k_MOST_LETTERS)))))) (pss_one (ps_ret pe_bl)) pss_nil)
      (pss_one (ps_ret (pe_callB (cr_all rfl) (by rfl) T.b_all (by decide +kernel) (pa_cons (pe_lc (own := [("letter", 1)]) (g := gName 1) (by rfl) sc_is_name.nd (pi_str (pv 0)) (blkOk_by (own := [("letter", 1)]) (N := N_is_name) (sc := defScope s_is_name) (by decide +kernel)) (fun _ _ _ _ _ => (pg_name (i := 1) sc_is_name.nd rfl (Or.inl rfl))) (fun _ _ _ _ _ => pts_nil) (fun _ _ _ _ _ => (pe_cmpR op_in_sign (pv 1) (C8.pe_gc (by rfl) T.k_LETTERS) (by rfl)))) pa_nil))))), ?_⟩
  refine ⟨_, rfl, _, _, _, _, true, rfl, .ty _, .base (.str _), kit_ty (by decide +kernel), true, rfl, iteF ?_⟩
  refine ⟨_, rfl, _, 1, rfl, ⟨by decide +kernel, by decide +kernel⟩, _, _, rfl, rfl, true, rfl, iteT ⟨_, _, rfl, rfl, true, rfl, iteF ?_⟩⟩
  refine ⟨_, rfl, _, rfl, fun D hD => ?_⟩
  refine lcm walk_str hD (by decide +kernel) (fun _ => true) (fun _ y _ => y = .bl true) (fun _ _ _ _ _ h => h) (fun H' s => trivial) (fun i x H1 H' kN kY hi s y kn ky => ?_) (fun H' ys s e kp => ?_)
  · obtain ⟨rfl, c, hc, rfl⟩ := y
    have hc2 : c = 120 := by
      have z : (("x" : Str).cps : Array Nat) = #[120] := by decide +kernel
      rw [z] at hc
      cases i with
      | zero => simpa using hc.symm
      | succ j => simp at hc
    subst hc2
    refine ⟨rfl, iteT (B := kN H') ⟨_, rfl, 120, _, rfl, rfl, ?_⟩⟩
    rw [show decide (120 ∈ ("abcdefghijklmnopqrstuvwxyz" : Str).cps.toList) = true from by decide +kernel]
    exact ky _ _ (Same.refl _) rfl rfl
  · obtain ⟨l1, l2⟩ := kp.all
    have e3 := map_bl_all (H := H') l1 l2
    refine ⟨D, List.replicate _ true, rfl, .inl (.inl (by rw [← e3]; exact e)), ?_⟩
    rw [all_true]
    exact k _ s
def sp_is_measures (K : PySem.W.Frag) : Sp := fun vs H Q _ => ∃ a, vs = [.ref a] ∧ H a = some (.tup [.str "x"]) ∧ ∀ H', Same H H' → Q (.bl true) H'
theorem c_is_measures (T : Tx K mg) : C8.Cal P w K mg base 2 "is_measures" (sp_is_measures K) [] := by
  obtain ⟨fd, F⟩ := T.f_is_measures
  refine calD F T.g_is_measures sc_is_measures (fun _ _ _ _ _ _ us hl => match us, hl with | [_], _ => rfl) (fun vs H Q E h => ?_) (fun cdv A outer s H vs Q E hr h => ?_)
  · obtain ⟨_, rfl, _⟩ := h; rfl
  obtain ⟨a, rfl, e1, k⟩ := h
  refine ⟨_, (pss_cons (ps_if (PW.pt (pw_or (pt_not (pt_val (pe_callB call_isi (by rfl) T.b_isinstance (by decide +kernel) (pa_cons (pv 0) (pa_cons (pe_bltn (v := .ty "tuple") (by rfl) T.b_tuple (by decide +kernel) rfl) pa_nil))))) (pw_or (pt_cmpR op_gt (pe_callB call_len (by rfl) T.b_len (by decide +kernel) (pa_cons (pv 0) pa_nil)) (C8.pe_gc (by rfl) T.k_MOST_MEASURES) (nomark _)) (pw_or1 (pt_not (pt_val (pe_callB (cr_all rfl) (by rfl) T.b_all (by decide +kernel) (pa_cons (pe_lc (own := [("name", 1)]) (g := gName 1) (by rfl) sc_is_measures.nd (pi_tup (pv 0)) (blkOk_by (own := [("name", 1)]) (N := N_is_measures) (sc := defScope s_is_measures) (by decide +kernel)) (fun _ _ _ _ _ => (pg_name (i := 1) sc_is_measures.nd rfl (Or.inl rfl))) (fun _ _ _ _ _ => pts_nil) (fun _ _ _ _ _ => (C8.pe_c (c_is_name T) hr (by decide) (by rfl) (pa_cons (pv 1) pa_nil)))) pa_nil)))))))) (pss_one (ps_ret pe_bl)) pss_nil)
      (pss_one (ps_ret (pe_callB (cr_all rfl) (by rfl) T.b_all (by decide +kernel) (pa_cons (pe_lc (own := [("name", 1), ("later", 2)]) (g := gTup K 2 (gCons (gName 1) (gCons (gName 2) (gNil)))) (by rfl) sc_is_measures.nd (RZ.pi_zipA (by rfl) T.b_zip (pa_cons (pv 0) (pa_cons (pe_slice sl_tupA (pv 0) (po_some pe_int) po_none) pa_nil))) (blkOk_by (own := [("name", 1), ("later", 2)]) (N := N_is_measures) (sc := defScope s_is_measures) (by decide +kernel)) (fun _ _ _ _ _ => (pg_tup rfl (pgs_cons (pg_name (i := 1) sc_is_measures.nd rfl (Or.inl rfl)) (pgs_cons (pg_name (i := 2) sc_is_measures.nd rfl (Or.inl rfl)) pgs_nil)))) (fun _ _ _ _ _ => pts_nil) (fun _ _ _ _ _ => (pe_cmpR op_lt (pv 1) (pv 2) (nomark _)))) pa_nil))))), ?_⟩
  have S1 : SqT K H a [.str "x"] := .inl (.inl e1)
  refine ⟨_, rfl, _, _, _, _, true, rfl, .ty _, .base (.tup e1), kit_ty (by decide +kernel), true, rfl, iteF ?_⟩
  refine ⟨_, rfl, _, 1, rfl, .inr ⟨_, S1, rfl⟩, _, _, rfl, rfl, false, rfl, iteF ?_⟩
  refine ⟨_, rfl, a, rfl, ⟨_, S1⟩, fun D hD => ?_⟩
  refine lcm walk_tup hD (by decide) (fun _ => true) (fun _ y _ => y = .bl true) (fun _ _ _ _ _ h => h) (fun H' s => same_seqT s S1) (fun i x H1 H' kN kY hi s y kn ky => ?_) (fun H1 ys s e kp => ?_)
  · obtain ⟨rfl, hx⟩ := y
    have hx2 : x = .str "x" := by
      cases i with
      | zero => simpa using hx.symm
      | succ j => simp at hx
    subst hx2
    exact ⟨rfl, iteT (B := kN H') ⟨_, rfl, rfl, fun H2 s2 => ky _ _ s2 rfl rfl⟩⟩
  obtain ⟨l1, l2⟩ := kp.all
  have e3 := map_bl_all (H := H1) l1 l2
  refine ⟨D, List.replicate _ true, rfl, .inl (.inl (by rw [← e3]; exact e)), true, ?_, iteF ?_⟩
  · rw [all_true]
  refine ⟨_, rfl, _, rfl, 1, rfl, a, [.str "x"], rfl, same_seqT s S1, fun z => absurd z.1 (by rw [sIx_1]; decide), fun _ p hp => ?_⟩
  rw [cut1]
  have s2 : Same H (upd H1 p (.tup (([V.str "x"] : List V).drop 1))) := s.trans (same_upd hp)
  refine ⟨a, p, _, _, rfl, .inr ⟨same_seqT s2 S1, .inl (.inl upd_same), fun D2 hD2 => ?_⟩⟩
  refine lcm (walk_zipT (xs := [V.str "x"]) (ys := ([V.str "x"] : List V).drop 1) (n := 0) rfl) hD2 (by decide) (fun _ => true) (fun _ y _ => y = .bl true) (fun _ _ _ _ _ h => h) (fun H' s => ⟨same_seqT (s2.trans s) S1, same_seqT s (.inl (.inl upd_same))⟩) (fun i x H1 H' kN kY hi s y kn ky => absurd hi (Nat.not_lt_zero _)) (fun H2 ys s3 e kp => ?_)
  obtain ⟨l1, l2⟩ := kp.all
  have e3 := map_bl_all (H := H2) l1 l2
  refine ⟨D2, List.replicate 0 true, rfl, .inl (.inl (by rw [← e3]; exact e)), ?_⟩
  exact k _ (s2.trans s3)
/-- a goal: an ascending tuple of states -/
def GoalV (K : PySem.W.Frag) (H : Hp) (v : V) (g : List Nat) : Prop := ∃ a, v = .ref a ∧ H a = some (.tup (g.map fun n : Nat => V.int (n : Int)))
def Asc (g : List Nat) : Prop := ∀ (i : Nat) x y, g[i]? = some x → g[i + 1]? = some y → x < y
def sp_is_lot (K : PySem.W.Frag) : Sp := fun vs H Q _ => ∃ v g, vs = [v] ∧ GoalV K H v g ∧ Asc g ∧ g.length ≤ 200 ∧ ∀ H', Same H H' → Q (.bl true) H'
theorem c_is_lot (T : Tx K mg) : C8.Cal P w K mg base 2 "is_lot" (sp_is_lot K) [] := by
  obtain ⟨fd, F⟩ := T.f_is_lot
  refine calD F T.g_is_lot sc_is_lot (fun _ _ _ _ _ _ us hl => match us, hl with | [_], _ => rfl) (fun vs H Q E h => ?_) (fun cdv A outer s H vs Q E hr h => ?_)
  · obtain ⟨_, _, rfl, _⟩ := h; rfl
  obtain ⟨v, g, rfl, ⟨a, rfl, e1⟩, asc, hl, k⟩ := h
  refine ⟨_, (pss_cons (ps_if (PW.pt (pw_or (pt_not (pt_val (pe_callB call_isi (by rfl) T.b_isinstance (by decide +kernel) (pa_cons (pv 0) (pa_cons (pe_bltn (v := .ty "tuple") (by rfl) T.b_tuple (by decide +kernel) rfl) pa_nil))))) (pw_or1 (pt_not (pt_val (pe_callB (cr_all rfl) (by rfl) T.b_all (by decide +kernel) (pa_cons (pe_lc (own := [("step", 1)]) (g := gName 1) (by rfl) sc_is_lot.nd (pi_tup (pv 0)) (blkOk_by (own := [("step", 1)]) (N := N_is_lot) (sc := defScope s_is_lot) (by decide +kernel)) (fun _ _ _ _ _ => (pg_name (i := 1) sc_is_lot.nd rfl (Or.inl rfl))) (fun _ _ _ _ _ => pts_nil) (fun _ _ _ _ _ => (pe_and (C8.pe_c (c_is_integer T) hr (by decide) (by rfl) (pa_cons (pv 1) pa_nil)) (pe_one (pe_cmpR op_ge (pv 1) pe_int (nomark _)))))) pa_nil))))))) (pss_one (ps_ret pe_bl)) pss_nil)
      (pss_one (ps_ret (pe_callB (cr_all rfl) (by rfl) T.b_all (by decide +kernel) (pa_cons (pe_lc (own := [("step", 1), ("later", 2)]) (g := gTup K 2 (gCons (gName 1) (gCons (gName 2) (gNil)))) (by rfl) sc_is_lot.nd (RZ.pi_zipA (by rfl) T.b_zip (pa_cons (pv 0) (pa_cons (pe_slice sl_tupA (pv 0) (po_some pe_int) po_none) pa_nil))) (blkOk_by (own := [("step", 1), ("later", 2)]) (N := N_is_lot) (sc := defScope s_is_lot) (by decide +kernel)) (fun _ _ _ _ _ => (pg_tup rfl (pgs_cons (pg_name (i := 1) sc_is_lot.nd rfl (Or.inl rfl)) (pgs_cons (pg_name (i := 2) sc_is_lot.nd rfl (Or.inl rfl)) pgs_nil)))) (fun _ _ _ _ _ => pts_nil) (fun _ _ _ _ _ => (pe_cmpR op_lt (pv 1) (pv 2) (nomark _)))) pa_nil))))), ?_⟩
  generalize hxs : (g.map fun n : Nat => V.int (n : Int)) = xs at *
  have hxl : xs.length = g.length := by rw [← hxs]; simp
  have hget : ∀ (i : Nat) x, xs[i]? = some x → ∃ n : Nat, g[i]? = some n ∧ x = .int (n : Int) := by
    intro i x hx
    rw [← hxs, List.getElem?_map] at hx
    cases hg : g[i]? with
    | none => rw [hg] at hx; cases hx
    | some n => rw [hg] at hx; cases hx; exact ⟨n, rfl, rfl⟩
  have hsz : ∀ m, m ≤ 200 → m ≤ sizeLine := fun m hm => Nat.le_trans hm (by decide)
  have S1 : SqT K H a xs := .inl (.inl e1)
  refine ⟨_, rfl, _, _, _, _, true, rfl, .ty _, .base (.tup e1), kit_ty (by decide +kernel), true, rfl, iteF ?_⟩
  refine ⟨_, rfl, a, rfl, ⟨_, S1⟩, fun D hD => ?_⟩
  refine lcm walk_tup hD (hsz _ (by omega)) (fun _ => true) (fun _ y _ => y = .bl true) (fun _ _ _ _ _ h => h) (fun H' s => same_seqT s S1) (fun i x H1 H' kN kY hi s y kn ky => ?_) (fun H1 ys s e kp => ?_)
  · obtain ⟨rfl, hx⟩ := y
    obtain ⟨n, _, rfl⟩ := hget i x hx
    refine ⟨rfl, iteT (B := kN H') ⟨_, rfl, _, rfl, true, rfl, iteT ⟨_, rfl, _, _, rfl, rfl, ?_⟩⟩⟩
    have : decide ((0 : Int) ≤ (n : Int)) = true := decide_eq_true (by omega)
    show kY (V.bl (decide ((0 : Int) ≤ (n : Int)))) _
    rw [this]
    exact ky _ _ (Same.refl _) rfl rfl
  obtain ⟨l1, l2⟩ := kp.all
  have e3 := map_bl_all (H := H1) l1 l2
  refine ⟨D, List.replicate _ true, rfl, .inl (.inl (by rw [← e3]; exact e)), true, ?_, iteF ?_⟩
  · rw [all_true]
  have fin : ∀ H2 b, Same H H2 → SqT K H2 b (xs.drop 1) → ∀ D2, H2 D2 = none → ∃ W : Nat → Nat → Hp → Prop, (∃ m, W 0 m (upd H2 D2 (.lst []))) ∧ ∀ i m H, W i m H → _ := fun H2 b s2 S2 D2 hD2 =>
    lcm (g := gTup K 2 (gCons (gName 1) (gCons (gName 2) gNil))) (σ := [some (V.ref a), none, none]) (vs := [1, 2]) (tt := tYes) (te := tOp (rI0 fun i j => .bl (decide (i < j))) (tVar 1) (tVar 2)) (Qd := fun H' => rAll K [V.ref D2] H' Q) (walk_zipT (a := a) (b := b) (xs := xs) (ys := xs.drop 1) (n := min xs.length (xs.drop 1).length) rfl) hD2 (hsz _ (by omega)) (fun _ => true) (fun _ y _ => y = .bl true) (fun _ _ _ _ _ h => h) (fun H' s => ⟨same_seqT (s2.trans s) S1, same_seqT s S2⟩) (fun i x H1 H' kN kY hi s y kn ky => by
      obtain ⟨Tp, x1, y1, rfl, hT, rfl, hx, hy⟩ := y
      obtain ⟨n1, g1, rfl⟩ := hget i _ hx
      have hy : (xs.drop 1)[i]? = some y1 := hy
      rw [List.getElem?_drop] at hy
      obtain ⟨n2, g2, rfl⟩ := hget _ _ hy
      have lt := asc i n1 n2 g1 (by rw [Nat.add_comm] at g2; exact g2)
      refine ⟨_, _, rfl, .inl (.inl upd_same), rfl, _, _, rfl, _, _, rfl, rfl, rfl, iteT (B := kN (upd H1 Tp (.tup [.int (n1 : Int), .int (n2 : Int)]))) ⟨_, rfl, _, rfl, _, _, rfl, rfl, ?_⟩⟩
      have : decide ((n1 : Int) < (n2 : Int)) = true := decide_eq_true (by omega)
      show kY (V.bl (decide ((n1 : Int) < (n2 : Int)))) _
      rw [this]
      exact ky _ _ (same_upd hT) rfl rfl) (fun H3 ys s3 e kp => by
      obtain ⟨l1, l2⟩ := kp.all
      have e3 := map_bl_all (H := H3) l1 l2
      refine ⟨D2, List.replicate _ true, rfl, .inl (.inl (by rw [← e3]; exact e)), ?_⟩
      rw [all_true]
      exact k _ (s2.trans s3))
  refine ⟨_, rfl, _, rfl, 1, rfl, a, xs, rfl, same_seqT s S1, fun z => ?_, fun _ p hp => ?_⟩
  · have z1 := z.1
    rw [sIx_1] at z1
    have : xs = [] := by
      cases xs with
      | nil => rfl
      | cons u r => simp at z1; try omega
    refine ⟨a, a, xs, xs, rfl, .inr ⟨same_seqT s S1, same_seqT s S1, fun D2 hD2 => ?_⟩⟩
    exact fin _ a s (by rw [this] at S1 ⊢; exact same_seqT s S1) D2 hD2
  · rw [cut1]
    have s2 : Same H (upd H1 p (.tup (xs.drop 1))) := s.trans (same_upd hp)
    refine ⟨a, p, xs, xs.drop 1, rfl, .inr ⟨same_seqT s2 S1, .inl (.inl upd_same), fun D2 hD2 => ?_⟩⟩
    exact fin _ p s2 (.inl (.inl upd_same)) D2 hD2
end
end Lc
set_option Elab.async false
set_option linter.all false
set_option maxRecDepth 100000
set_option maxHeartbeats 4000000
namespace Lc
open PySem PySem.Spec PyProof.Rows L2 LcR
/-! ### dict comprehensions over any walk -/
theorem dc_it {J : It} {n : Nat} {G : Hp → Prop} {Y : Nat → Hp → V → Hp → Prop} (w : Walk J n G Y) {g : TG} {tt : TT} {tk tv : TE} {vs : List Nat} {σ : L2.St} {H1 : Hp} {D : Addr} {Qd : Hp → Prop} (Pv : Nat → Hp → Prop) (h0 : Pv 0 (upd H1 D (.dK []))) (hG : ∀ i H, i ≤ n → Pv i H → G H)
    (hs : ∀ i x H H', i < n → Pv i H → Y i H x H' → g x (wipe σ vs) H' fun σ2 H2 => wipe σ2 vs = wipe σ vs ∧ tt σ2 H2 fun b H3 =>
      if b = true then tk σ2 H3 fun y H4 => tv σ2 H4 fun z H5 => ∃ kvs k, y = kV k ∧ H5 D = some (.dK kvs) ∧ kvs.length < sizeLine ∧ Pv (i + 1) (upd H5 D (.dK (putK kvs k z))) else Pv (i + 1) H3) (hd : ∀ H, Pv n H → Qd H) :
    ∃ W : Nat → Nat → Hp → Prop, (∃ m, W 0 m (upd H1 D (.dK []))) ∧ ∀ i m H, W i m H →
      (J.stop i H ∧ Qd H) ∨ (J.go i H ∧ ∃ Nx : Hp → Prop, (∀ H', Nx H' → ∃ m', m' < m ∧ W (i + 1) m' H') ∧ ∀ x H', J.yld i H x H' → g x (wipe σ vs) H' fun σ2 H2 => wipe σ2 vs = wipe σ vs ∧ tt σ2 H2 fun b H3 =>
        if b = true then tk σ2 H3 fun y H4 => tv σ2 H4 fun z H5 => ∃ kvs k, y = kV k ∧ H5 D = some (.dK kvs) ∧ kvs.length < sizeLine ∧ Nx (upd H5 D (.dK (putK kvs k z))) else Nx H3) := by
  refine ⟨fun i m H => m = n - i ∧ i ≤ n ∧ Pv i H, ⟨n, by simp, Nat.zero_le _, h0⟩, ?_⟩
  rintro i m H ⟨rfl, hi, p⟩
  have q := hG i H hi p
  by_cases hlt : i < n
  · exact .inr ⟨w.goes i H hlt q, Pv (i + 1), fun H' p' => ⟨n - (i + 1), by omega, rfl, hlt, p'⟩, fun x H' y => hs i x H H' hlt p (w.yields i H x H' hlt q y)⟩
  · have e : i = n := by omega
    subst e
    exact .inl ⟨w.stops H q, hd H p⟩
theorem keys_put {kvs : List (Key × V)} {k : Key} {v : V} (h : (kvs.map (·.1)).Nodup) : ((putK kvs k v).map (·.1)).Nodup := by
  cases e : valV kvs k with
  | none => exact nd_putK v h e
  | some u =>
    have e1 : (putK kvs k v).map (·.1) = kvs.map (·.1) := by
      unfold putK
      have hany : (kvs.any fun kv => decide (kv.1 = k)) = true := by rw [valV_any, e]; rfl
      rw [if_pos hany, List.map_map]
      refine List.map_congr_left fun p _ => ?_
      show (if p.1 = k then (p.1, v) else p).1 = p.1
      split <;> rfl
    rw [e1]
    exact h
theorem nodup_len {α : Type} : ∀ {l m : List α}, l.Nodup → (∀ x ∈ l, x ∈ m) → l.length ≤ m.length
  | [], m, _, _ => Nat.zero_le _
  | x :: r, m, hn, hs => by
    obtain ⟨a, b, rfl⟩ := List.append_of_mem (hs x List.mem_cons_self)
    rw [List.nodup_cons] at hn
    have := nodup_len (l := r) (m := a ++ b) hn.2 fun y hy => by
      have := hs y (List.mem_cons_of_mem _ hy)
      rw [List.mem_append, List.mem_cons] at this
      rw [List.mem_append]
      rcases this with h | h | h
      · exact .inl h
      · subst h; exact absurd hy hn.1
      · exact .inr h
    simp at this ⊢
    omega
theorem mem_keys {kvs : List (Key × V)} {k : Key} (h : (valV kvs k).isSome = true) : k ∈ kvs.map (·.1) := by
  cases e : valV kvs k with
  | none => rw [e] at h; cases h
  | some v => exact valV_in e
theorem yes {σ : L2.St} {H : Hp} {f g : Hp → Prop} (h : f H) : tYes σ H fun b H3 => if b = true then f H3 else g H3 := by
  show if true = true then f H else g H
  rw [if_pos rfl]
  exact h
section
variable {P : Program} {w : World} {K : PySem.W.Frag} {mg : Str → Option Value} {base : Heap}
/-- how many outcomes -/
def lens (l : List ActD) : List Int := l.map fun d => (d.2.length : Int)
theorem lens_sum (n : Nat) : ∀ (l : List ActD), (∀ d ∈ l, OkAct n d) → 0 ≤ (lens l).sum ∧ (lens l).sum ≤ 4 * (l.length : Int)
  | [], _ => ⟨by simp [lens], by simp [lens]⟩
  | d :: r, h => by
    have h1 := (h d List.mem_cons_self).len
    have h2 := lens_sum n r fun e he => h e (List.mem_cons_of_mem _ he)
    simp only [lens, List.map_cons, List.sum_cons, List.length_cons] at h2 ⊢
    omega
theorem map_lens {ys : List V} {l : List ActD} (h1 : ys.length = l.length) (h2 : ∀ (i : Nat) y, ys[i]? = some y → ∃ d, l[i]? = some d ∧ y = V.int (d.2.length : Int)) : ys = (lens l).map V.int := by
  apply List.ext_getElem?
  intro i
  unfold lens
  rw [List.map_map, List.getElem?_map]
  by_cases hi : i < ys.length
  · obtain ⟨d, hd, e⟩ := h2 i _ (List.getElem?_eq_getElem hi)
    rw [List.getElem?_eq_getElem hi, e, hd]
    rfl
  · rw [List.getElem?_eq_none (by omega), List.getElem?_eq_none (by omega)]
    rfl
def sp_need_parts (K : PySem.W.Frag) : Sp := fun vs H Q _ => ∃ (n : Nat) (m : Addr) (v : V) (l : List ActD), vs = [.int (n : Int), .int 0, .ref m, v] ∧ H m = some (.tup [.str "x"]) ∧ ActsV H v l ∧ OkActs n l ∧ ∀ H', Same H H' → Q .non H'
theorem c_need_parts (T : Tx K mg) : C8.Cal P w K mg base 6 "need_parts" (sp_need_parts K) [] := by
  obtain ⟨fd, F⟩ := T.f_need_parts
  refine calD F T.g_need_parts sc_need_parts (fun _ _ _ _ _ _ us hl => match us, hl with | [_, _, _, _], _ => rfl) (fun vs H Q E h => ?_) (fun cdv A outer s H vs Q E hr h => ?_)
  · obtain ⟨_, _, _, _, rfl, _⟩ := h; rfl
  obtain ⟨n, m, v, l, rfl, em, ⟨a, us, rfl, ea, al⟩, ok, k⟩ := h
  obtain ⟨n1, n2, len, acts, all⟩ := ok
  refine ⟨_, (pss_cons (ps_if (pt_not (pt_val (C8.pe_c (c_is_within T) hr (by decide) (by rfl) (pa_cons (pv 0) (pa_cons pe_int (pa_cons (C8.pe_gc (by rfl) T.k_MOST_STATES) pa_nil)))))) (pss_one ps_never) pss_nil)
      (pss_cons (ps_if (pt_not (pt_val (C8.pe_c (c_is_within T) hr (by decide) (by rfl) (pa_cons (pv 1) (pa_cons pe_int (pa_cons (pe_op op_sub (pv 0) pe_int) pa_nil)))))) (pss_one ps_never) pss_nil)
      (pss_cons (ps_if (pt_not (pt_val (C8.pe_c (c_is_measures T) hr (by decide) (by rfl) (pa_cons (pv 2) pa_nil)))) (pss_one ps_never) pss_nil)
      (pss_cons (ps_if (pt_not (pt_val (pe_callB call_isi (by rfl) T.b_isinstance (by decide +kernel) (pa_cons (pv 3) (pa_cons (pe_bltn (v := .ty "tuple") (by rfl) T.b_tuple (by decide +kernel) rfl) pa_nil))))) (pss_one ps_never) pss_nil)
      (pss_cons (ps_if (pt_cmpR op_gt (pe_callB call_len (by rfl) T.b_len (by decide +kernel) (pa_cons (pv 3) pa_nil)) (C8.pe_gc (by rfl) T.k_MOST_ACTS) (nomark _)) (pss_one ps_never) pss_nil)
      (pss_cons (ps_for PassesOwn.never rfl (LcE.pi_enumT (by rfl) T.b_enumerate (pa_cons (pv 3) pa_nil)) (pg_tup rfl (pgs_cons (pg_name (i := 4) sc_need_parts.nd rfl (Or.inl rfl)) (pgs_cons (pg_name (i := 5) sc_need_parts.nd rfl (Or.inl rfl)) pgs_nil)))
      (pss_one (ps_if (pt_not (pt_val (C8.pe_c (c_is_act T) hr (by decide) (by rfl) (pa_cons (pv 0) (pa_cons (pe_callB call_len (by rfl) T.b_len (by decide +kernel) (pa_cons (pv 2) pa_nil)) (pa_cons (pv 5) pa_nil)))))) (pss_one ps_never) pss_nil)))
      (pss_cons (ps_if (pt_cmpR op_lt (pe_callB call_lenD (by rfl) T.b_len (by decide +kernel) (pa_cons (pe_dc (own := [("source", 6), ("outcomes", 7)]) (g := gTup K 2 (gCons (gName 6) (gCons (gName 7) (gNil)))) (by rfl) sc_need_parts.nd (pi_tup (pv 3)) (blkOk_by (own := [("source", 6), ("outcomes", 7)]) (N := N_need_parts) (sc := defScope s_need_parts) (by decide +kernel)) (fun _ _ _ _ _ => (pg_tup rfl (pgs_cons (pg_name (i := 6) sc_need_parts.nd rfl (Or.inl rfl)) (pgs_cons (pg_name (i := 7) sc_need_parts.nd rfl (Or.inl rfl)) pgs_nil)))) (fun _ _ _ _ _ => pts_nil) (fun _ _ _ _ _ => (pv 6)) (fun _ _ _ _ _ => pe_bl)) pa_nil)) (pv 0) (nomark _)) (pss_one ps_never) pss_nil)
      (pss_one (ps_if (pt_cmpR op_gt (pe_callB (cr_sum rfl) (by rfl) T.b_sum (by decide +kernel) (pa_cons (pe_lc (own := [("source", 6), ("outcomes", 7)]) (g := gTup K 2 (gCons (gName 6) (gCons (gName 7) (gNil)))) (te := (tCB (rLen K) (tCons (tVar 7) tNil))) (by rfl) sc_need_parts.nd (pi_tup (pv 3)) (blkOk_by (own := [("source", 6), ("outcomes", 7)]) (N := N_need_parts) (sc := defScope s_need_parts) (by decide +kernel)) (fun _ _ _ _ _ => (pg_tup rfl (pgs_cons (pg_name (i := 6) sc_need_parts.nd rfl (Or.inl rfl)) (pgs_cons (pg_name (i := 7) sc_need_parts.nd rfl (Or.inl rfl)) pgs_nil)))) (fun _ _ _ _ _ => pts_nil) (fun _ _ _ _ _ => (pe_callB call_len (by rfl) T.b_len (by decide +kernel) (pa_cons (pv 7) pa_nil)))) pa_nil)) (C8.pe_gc (by rfl) T.k_MOST_STEPS) (nomark _)) (pss_one ps_never) pss_nil))))))))), ?_⟩
  have S1 : SqT K H a us := .inl (.inl ea)
  have S2 : SqT K H m [.str "x"] := .inl (.inl em)
  have ul : us.length = l.length := al.1
  have hsz : us.length ≤ sizeLine := Nat.le_trans (by omega : us.length ≤ 30) (by decide)
  refine ⟨_, rfl, (n : Int), 1, 200, rfl, by omega, by omega, true, rfl, iteF ?_⟩
  refine ⟨_, rfl, _, rfl, _, _, rfl, rfl, 0, 0, (n : Int) - 1, rfl, by omega, by omega, true, rfl, iteF ?_⟩
  refine ⟨_, rfl, m, rfl, em, fun H1 s1 => ⟨true, rfl, iteF ?_⟩⟩
  refine ⟨_, rfl, _, _, _, _, true, rfl, .ty _, .base (.tup (s1 _ _ ea)), kit_ty (by decide +kernel), true, rfl, iteF ?_⟩
  refine ⟨_, rfl, _, us.length, rfl, .inr ⟨_, same_seqT s1 S1, rfl⟩, _, _, rfl, rfl, decide ((600 : Int) < (us.length : Int)), rfl, ?_⟩
  rw [show decide ((600 : Int) < (us.length : Int)) = false from decide_eq_false (by omega)]
  refine iteF ?_
  refine ⟨_, rfl, a, us, rfl, same_seqT s1 S1, ?_⟩
  refine for_it LcE.walk_enumT (fun i σ H2 => (∃ x y, σ = [some (.int (n : Int)), some (.int 0), some (.ref m), some (.ref a), x, y, none, none]) ∧ Same H H2) ⟨⟨none, none, rfl⟩, s1⟩ (fun i σ H2 _ p => same_seqT p.2 S1) ?_ ?_
  · rintro i x σ H2 H3 hi ⟨⟨z1, z2, rfl⟩, s2⟩ ⟨Tp, x1, y1, rfl, hT, rfl, hx, hy⟩
    cases hx
    have s3 : Same H (upd H2 Tp (.tup [.int (i : Nat), y1])) := s2.trans (same_upd hT)
    obtain ⟨d, hd, hv⟩ := al.get' hy
    refine ⟨_, _, rfl, .inl (.inl upd_same), rfl, _, _, rfl, _, _, rfl, rfl, ?_⟩
    refine ⟨_, rfl, _, rfl, _, 1, rfl, .inr ⟨_, same_seqT s3 S2, rfl⟩, _, rfl, n, y1, d, rfl, hv.n (same_n s3), acts d (List.mem_of_getElem? hd), fun H4 s4 => ⟨true, rfl, iteF ?_⟩⟩
    exact ⟨⟨_, _, rfl⟩, s3.trans s4⟩
  rintro σ H2 ⟨⟨z1, z2, rfl⟩, s2⟩
  refine ⟨_, rfl, a, rfl, ⟨us, same_seqT s2 S1⟩, fun D hD => ?_⟩
  refine dc_it walk_tup (fun i H' => Same H2 H' ∧ ∃ kvs, H' D = some (.dK kvs) ∧ (kvs.map (·.1)).Nodup ∧ kvs.length ≤ i ∧ ∀ (j : Nat) d, j < i → l[j]? = some d → (valV kvs (.inl (d.1 : Int))).isSome = true)
    ⟨same_upd hD, [], upd_same, List.nodup_nil, Nat.zero_le _, fun j d hj => absurd hj (Nat.not_lt_zero _)⟩ (fun i H' _ p => same_seqT (s2.trans p.1) S1) ?_ ?_
  · rintro i x H3 H4 hi ⟨s3, kvs, ek, nd, kl, hk⟩ ⟨rfl, hx⟩
    obtain ⟨d, hd, p, q, ws, rfl, e1, e2, e3⟩ := al.get' hx
    refine ⟨p, _, rfl, .inl (.inl (same_n (s2.trans s3) _ _ e1 trivial)), rfl, _, _, rfl, _, _, rfl, rfl, rfl, yes ⟨_, rfl, kvs, .inl (d.1 : Int), rfl, ek, by show kvs.length < 16777216; omega, ?_⟩⟩
    refine ⟨fun b o hb => ?_, _, upd_same, keys_put nd, Nat.le_trans (length_putK _ _ _) (by omega), fun j d' hj hd' => ?_⟩
    · rw [upd_ne (ne_of_none hb hD)]
      exact s3 _ _ hb
    · rw [valV_put]
      by_cases hji : j = i
      · subst hji
        rw [hd] at hd'
        cases hd'
        rw [if_pos rfl]
        rfl
      · split
        · rfl
        · exact hk j d' (by omega) hd'
  rintro H3 ⟨s3, kvs, ek, nd, kl, hk⟩
  have hn : n ≤ kvs.length := by
    have h1 := nodup_len (l := (List.range n).map fun i : Nat => (Sum.inl (i : Int) : Key)) (m := kvs.map (·.1)) (by
      exact List.Pairwise.map _ (fun a b (h : a ≠ b) e => h (by have := Sum.inl.inj e; omega)) List.nodup_range) fun x hx => by
      obtain ⟨i, hi, rfl⟩ := List.mem_map.mp hx
      obtain ⟨d, hd, e⟩ := all i (List.mem_range.mp hi)
      obtain ⟨j, hj, e2⟩ := List.getElem_of_mem hd
      rw [← e]
      exact mem_keys (hk j d (by omega) (by rw [← e2]; exact List.getElem?_eq_getElem hj))
    simpa using h1
  have s4 := s2.trans s3
  refine ⟨D, kvs, rfl, ek, _, rfl, _, _, rfl, rfl, decide ((kvs.length : Int) < (n : Int)), rfl, ?_⟩
  rw [show decide ((kvs.length : Int) < (n : Int)) = false from decide_eq_false (by omega)]
  refine iteF ?_
  refine ⟨_, rfl, a, rfl, ⟨us, same_seqT s4 S1⟩, fun D2 hD2 => ?_⟩
  refine lcm walk_tup hD2 hsz (fun _ => true) (fun i y _ => ∃ d, l[i]? = some d ∧ y = V.int (d.2.length : Int)) (fun _ _ _ _ _ h => h) (fun H' s => same_seqT (s4.trans s) S1) (fun i x H5 H' kN kY hi s y kn ky => ?_) (fun H' ys s e kp => ?_)
  · obtain ⟨rfl, hx⟩ := y
    obtain ⟨d, hd, p, q, ws, rfl, e1, e2, e3⟩ := al.get' hx
    have s5 := same_n (s4.trans s)
    refine ⟨p, _, rfl, .inl (.inl (s5 _ _ e1 trivial)), rfl, _, _, rfl, _, _, rfl, rfl, rfl, yes ⟨_, rfl, _, ws.length, rfl, .inr ⟨ws, .inl (.inl (s5 _ _ e2 trivial)), rfl⟩, ?_⟩⟩
    exact ky _ _ (Same.refl _) rfl ⟨d, hd, by rw [e3.1]⟩
  · obtain ⟨l1, l2⟩ := kp.all
    have e3 := map_lens (l1.trans ul) l2
    have hs := lens_sum n l acts
    refine ⟨D2, lens l, rfl, .inl (.inl (by rw [← e3]; exact e)), _, _, rfl, rfl, decide ((1200 : Int) < (lens l).sum), rfl, ?_⟩
    rw [show decide ((1200 : Int) < (lens l).sum) = false from decide_eq_false (by omega)]
    refine iteF ?_
    exact k _ (s4.trans s)
end
end Lc
set_option Elab.async false
set_option linter.all false
set_option maxRecDepth 100000
set_option maxHeartbeats 4000000
namespace Lc
open PySem PySem.Spec PyProof.Rows L2 LcR
/-! ### steps -/
def flS (a s t o u : Nat) (pv : V) : List (Str × V) := [("act", .int (a : Int)), ("source", .int (s : Int)), ("target", .int (t : Int)), ("odds", .int (o : Int)), ("time", .int (u : Int)), ("pays", pv)]
def StepV (K : PySem.W.Frag) (H : Hp) (v : V) (z : Nat × Nat × OutD) : Prop := ∃ x dx pv, v = .ref x ∧ H x = some (.ins (CStep K) dx (flS z.1 z.2.1 z.2.2.target z.2.2.odds z.2.2.time pv))
theorem StepV.n {K : PySem.W.Frag} {H H' : Hp} {v : V} {z : Nat × Nat × OutD} (h : StepV K H v z) (s : SameN H H') : StepV K H' v z := by
  obtain ⟨x, dx, pv, rfl, e⟩ := h
  exact ⟨x, dx, pv, rfl, s _ _ e trivial⟩
/-- the steps of acts, numbered from k -/
def flat : Nat → List ActD → List (Nat × Nat × OutD)
  | _, [] => []
  | k, d :: r => d.2.map (fun o => (k, d.1, o)) ++ flat (k + 1) r
theorem flat_snoc (d : ActD) : ∀ (k : Nat) (l : List ActD), flat k (l ++ [d]) = flat k l ++ d.2.map (fun o => (k + l.length, d.1, o))
  | k, [] => by simp [flat]
  | k, e :: r => by
    simp only [List.cons_append, flat, flat_snoc d (k + 1) r, List.append_assoc, List.length_cons]
    congr 2
    refine congrArg (fun j => d.2.map (fun o => (j, d.1, o))) ?_
    omega
/-- how many steps stand ahead of the i-th act -/
def off (l : List ActD) (i : Nat) : Nat := ((l.take i).map fun d => d.2.length).sum
theorem flat_len : ∀ (k : Nat) (l : List ActD), (flat k l).length = (l.map fun d => d.2.length).sum
  | _, [] => rfl
  | k, d :: r => by simp [flat, flat_len (k + 1) r]
theorem flat_app (l m : List ActD) : ∀ k, flat k (l ++ m) = flat k l ++ flat (k + l.length) m := by
  induction l with
  | nil => intro k; rfl
  | cons d r ih => intro k; simp only [List.cons_append, flat, ih, List.append_assoc, List.length_cons]; rw [show k + 1 + r.length = k + (r.length + 1) by omega]
theorem flat_get {l : List ActD} {i j : Nat} {d : ActD} {o : OutD} (hd : l[i]? = some d) (ho : d.2[j]? = some o) : (flat 0 l)[off l i + j]? = some (i, d.1, o) := by
  have hi : i < l.length := (List.getElem?_eq_some_iff.mp hd).1
  have e1 : l = l.take i ++ (d :: l.drop (i + 1)) := by
    conv => lhs; rw [← List.take_append_drop i l]
    rw [List.drop_eq_getElem_cons hi]
    congr 2
    exact (List.getElem?_eq_some_iff.mp hd).2
  have hl : (flat 0 (l.take i)).length = off l i := flat_len 0 _
  conv => lhs; arg 1; rw [e1, flat_app]
  rw [List.getElem?_append_right (by omega), hl, Nat.add_sub_cancel_left]
  have ti : (l.take i).length = i := by rw [List.length_take]; omega
  show (d.2.map (fun o => (0 + (l.take i).length, d.1, o)) ++ _)[j]? = _
  have hj : j < d.2.length := (List.getElem?_eq_some_iff.mp ho).1
  rw [List.getElem?_append_left (by simpa using hj), List.getElem?_map, ho, ti, Nat.zero_add]
  rfl
theorem off_succ {l : List ActD} {i : Nat} {d : ActD} (h : l[i]? = some d) : off l (i + 1) = off l i + d.2.length := by
  unfold off
  rw [List.take_add_one, h]
  simp
theorem off_le (n : Nat) : ∀ (l : List ActD), (∀ d ∈ l, OkAct n d) → ∀ i, off l i ≤ 4 * l.length
  | [], _, i => by simp [off]
  | d :: r, h, 0 => by simp [off]
  | d :: r, h, i + 1 => by
    have h1 := (h d List.mem_cons_self).len
    have h2 := off_le n r (fun e he => h e (List.mem_cons_of_mem _ he)) i
    simp only [off, List.take_succ_cons, List.map_cons, List.sum_cons, List.length_cons] at h2 ⊢
    omega
theorem k_ne : (("act" : Str) ≠ "source") ∧ (("act" : Str) ≠ "target") ∧ (("act" : Str) ≠ "odds") ∧ (("act" : Str) ≠ "time") ∧ (("act" : Str) ≠ "pays") := by decide +kernel
section
variable {P : Program} {w : World} {K : PySem.W.Frag} {mg : Str → Option Value} {base : Heap}
def sp_Step_init (K : PySem.W.Frag) : Sp := fun vs H Q _ => ∃ x dx a s t o u pv, vs = [.ref x, a, s, t, o, u, pv] ∧ H x = some (.ins (CStep K) dx []) ∧
  Q .non (upd H x (.ins (CStep K) dx [("act", a), ("source", s), ("target", t), ("odds", o), ("time", u), ("pays", pv)]))
theorem ok_Step_init (T : Tx K mg) {f : Addr} {fd : FuncData} (F : FunD K "__init__" "Step.__init__" (defArgs s_Step_init) (defBody s_Step_init) (defScope s_Step_init) [] [] f fd) : FnOk P w K mg base CX0 1 f fd P_Step_init (sp_Step_init K) := by
  refine fnD F sc_Step_init (fun vs H Q E h => ?_) (fun cdv A outer s H vs Q E hr h => ?_)
  · obtain ⟨_, _, _, _, _, _, _, _, rfl, _⟩ := h; rfl
  obtain ⟨x, dx, a, sv, t, o, u, pw, rfl, hx, k⟩ := h
  refine ⟨_, (pss_cons (ps_fld (pv 0) (pv 1) rfl)
      (pss_cons (ps_fld (pv 0) (pv 2) rfl)
      (pss_cons (ps_fld (pv 0) (pv 3) rfl)
      (pss_cons (ps_fld (pv 0) (pv 4) rfl)
      (pss_cons (ps_fld (pv 0) (pv 5) rfl)
      (pss_one (ps_fld (pv 0) (pv 6) rfl))))))), ?_⟩
  refine ⟨_, rfl, _, rfl, x, _, dx, _, rfl, hx, T.cl_Step, T.na_Step_act, by decide, ?_⟩
  refine ⟨_, rfl, _, rfl, x, _, dx, _, rfl, upd_same, T.cl_Step, T.na_Step_source, by show 1 < 1000; decide, ?_⟩
  refine ⟨_, rfl, _, rfl, x, _, dx, _, rfl, upd_same, T.cl_Step, T.na_Step_target, by show 2 < 1000; decide, ?_⟩
  refine ⟨_, rfl, _, rfl, x, _, dx, _, rfl, upd_same, T.cl_Step, T.na_Step_odds, by show 3 < 1000; decide, ?_⟩
  refine ⟨_, rfl, _, rfl, x, _, dx, _, rfl, upd_same, T.cl_Step, T.na_Step_time, by show 4 < 1000; decide, ?_⟩
  refine ⟨_, rfl, _, rfl, x, _, dx, _, rfl, upd_same, T.cl_Step, T.na_Step_pays, by show 5 < 1000; decide, ?_⟩
  simp only [upd_upd]
  exact k
theorem c_Step (T : Tx K mg) : C8.Mak P w K mg base 1 "Step" (CStep K) (sp_Step_init K) [] := by
  obtain ⟨fd, F⟩ := T.f_Step_init
  exact ⟨_, fd, P_Step_init, [], T.mk_Step, ok_Step_init T F, T.g_Step, F.bindsN (fun _ _ _ _ _ _ us hl => match us, hl with | [_, _, _, _, _, _, _], _ => rfl), .nil⟩
def StepsV (K : PySem.W.Frag) (H : Hp) (v : V) (l : List ActD) : Prop := ∃ p vs, v = .ref p ∧ H p = some (.tup vs) ∧ All2 (StepV K H) vs (flat 0 l)
theorem StepsV.n {H H' : Hp} {v : V} {l : List ActD} (h : StepsV K H v l) (s : SameN H H') : StepsV K H' v l := by
  obtain ⟨p, vs, rfl, e1, e3⟩ := h
  exact ⟨p, vs, rfl, s _ _ e1 trivial, e3.imp fun x y z => z.n s⟩
def sp_steps_from (K : PySem.W.Frag) : Sp := fun vs H Q _ => ∃ (n : Nat) (v : V) (l : List ActD), vs = [v] ∧ ActsV H v l ∧ OkActs n l ∧ ∀ H' v', Same H H' → StepsV K H' v' l → Q v' H'
theorem all2_append {α β : Type} {R : α → β → Prop} {xs ys : List α} {us ws : List β} (h : All2 R xs us) (k : All2 R ys ws) : All2 R (xs ++ ys) (us ++ ws) := by
  refine ⟨by simp [h.1, k.1], fun i a b ha hb => ?_⟩
  by_cases hi : i < xs.length
  · rw [List.getElem?_append_left hi] at ha
    rw [List.getElem?_append_left (by rw [← h.1]; exact hi)] at hb
    exact h.2 i a b ha hb
  · rw [List.getElem?_append_right (by omega)] at ha
    rw [List.getElem?_append_right (by rw [← h.1]; omega), ← h.1] at hb
    exact k.2 _ a b ha hb
theorem c_steps_from (T : Tx K mg) : C8.Cal P w K mg base 3 "steps_from" (sp_steps_from K) [] := by
  obtain ⟨fd, F⟩ := T.f_steps_from
  refine calD F T.g_steps_from sc_steps_from (fun _ _ _ _ _ _ us hl => match us, hl with | [_], _ => rfl) (fun vs H Q E h => ?_) (fun cdv A outer s H vs Q E hr h => ?_)
  · obtain ⟨_, _, _, rfl, _⟩ := h; rfl
  obtain ⟨n, v, l, rfl, ⟨a, us, rfl, ea, al⟩, ok, k⟩ := h
  obtain ⟨n1, n2, len, acts, all⟩ := ok
  refine ⟨_, (pss_cons (ps_set (i := 1) sc_steps_from.nd rfl (Or.inl rfl) (pe_lst pa_nil))
      (pss_cons (ps_for PassesOwn.never rfl (LcE.pi_enumT (by rfl) T.b_enumerate (pa_cons (pv 0) pa_nil)) (pg_tup rfl (pgs_cons (pg_name (i := 2) sc_steps_from.nd rfl (Or.inr rfl)) (pgs_cons (pg_tup rfl (pgs_cons (pg_name (i := 3) sc_steps_from.nd rfl (Or.inr rfl)) (pgs_cons (pg_name (i := 4) sc_steps_from.nd rfl (Or.inl rfl)) pgs_nil))) pgs_nil)))
      (pss_one (ps_expr (pe_bm PySem.F.plainAttrs_list PySem.F.slot_list_extend PySem.F.type_list_extend mt_extend (pv 1) (pa_cons (pe_lc (own := [("odds", 5), ("target", 6), ("time", 7), ("pays", 8)]) (g := gTup K 4 (gCons (gName 5) (gCons (gName 6) (gCons (gName 7) (gCons (gName 8) (gNil)))))) (te := (tMake (CStep K) (sp_Step_init K) [] C8.E0 (tCons (tVar 2) (tCons (tVar 3) (tCons (tVar 6) (tCons (tVar 5) (tCons (tVar 7) (tCons (tVar 8) tNil)))))))) (by rfl) sc_steps_from.nd (pi_tup (pv 4)) (blkOk_by (own := [("odds", 5), ("target", 6), ("time", 7), ("pays", 8)]) (N := N_steps_from) (sc := defScope s_steps_from) (by decide +kernel)) (fun _ _ _ _ _ => (pg_tup rfl (pgs_cons (pg_name (i := 5) sc_steps_from.nd rfl (Or.inl rfl)) (pgs_cons (pg_name (i := 6) sc_steps_from.nd rfl (Or.inl rfl)) (pgs_cons (pg_name (i := 7) sc_steps_from.nd rfl (Or.inl rfl)) (pgs_cons (pg_name (i := 8) sc_steps_from.nd rfl (Or.inl rfl)) pgs_nil)))))) (fun _ _ _ _ _ => pts_nil) (fun _ _ _ _ _ => (C8.pe_mk (c_Step T) hr (by decide) (by rfl) (pa_cons (pv 2) (pa_cons (pv 3) (pa_cons (pv 6) (pa_cons (pv 5) (pa_cons (pv 7) (pa_cons (pv 8) pa_nil))))))))) pa_nil)))))
      (pss_one (ps_ret (pe_callTy call_tuple_of (by rfl) T.b_tuple (by decide +kernel) (pa_cons (pv 1) pa_nil)))))), ?_⟩
  have S1 : SqT K H a us := .inl (.inl ea)
  have ul : us.length = l.length := al.1
  refine ⟨Nat.zero_le _, fun L hL => ?_⟩
  have s0 : Same H (upd H L (.lst [])) := same_upd hL
  refine ⟨_, rfl, a, us, rfl, same_seqT s0 S1, ?_⟩
  refine for_it LcE.walk_enumT (fun i σ H2 => (∃ x y z, σ = [some (.ref a), some (.ref L), x, y, z, none, none, none, none]) ∧ Same H H2 ∧ ∃ ss, H2 L = some (.lst ss) ∧ All2 (StepV K H2) ss (flat 0 (l.take i)))
    ⟨⟨none, none, none, rfl⟩, s0, [], upd_same, All2.nil⟩ (fun i σ H2 _ p => same_seqT p.2.1 S1) ?_ ?_
  · rintro i x σ H2 H3 hi ⟨⟨z1, z2, z3, rfl⟩, s2, ss, eL, aS⟩ ⟨Tp, x1, y1, rfl, hT, rfl, hx, hy⟩
    cases hx
    obtain ⟨d, hd, p, q, ws, rfl, e1, e2, e3⟩ := al.get' hy
    have t2 := same_upd (o := .tup [V.int (i : Nat), V.ref p]) hT
    have s3 := s2.trans t2
    refine ⟨_, _, rfl, .inl (.inl upd_same), rfl, _, _, rfl, _, _, rfl, ⟨p, _, rfl, .inl (.inl (s3 _ _ e1)), rfl, _, _, rfl, _, _, rfl, rfl, rfl, ?_⟩⟩
    have S3 : ∀ H', Same H H' → SqT K H' q ws := fun H' s => .inl (.inl (s _ _ e2))
    have okd := acts d (List.mem_of_getElem? hd)
    refine ⟨_, rfl, .inl ⟨rfl, ss, .inl (.inl (t2 _ _ eL))⟩, _, rfl, q, rfl, ⟨ws, S3 _ s3⟩, fun D hD => ?_⟩
    refine lcm walk_tup hD (Nat.le_trans (by rw [e3.1]; exact okd.len) (by decide)) (fun _ => true) (fun j y H' => ∃ o, d.2[j]? = some o ∧ StepV K H' y (i, d.1, o)) (fun j y H5 H6 s h => ?_) (fun H' s => S3 _ (s3.trans s)) (fun j x H5 H' kN kY hj s y kn ky => ?_) (fun H' ys s e kp => ?_)
    · obtain ⟨o, ho, hv⟩ := h
      exact ⟨o, ho, hv.n s⟩
    · obtain ⟨rfl, hx⟩ := y
      obtain ⟨o, ho, ov⟩ := e3.get' hx
      obtain ⟨ao, pa, rfl, f1, f2⟩ := ov
      have s5 := s3.trans s
      refine ⟨ao, _, rfl, .inl (.inl (s5 _ _ f1)), rfl, _, _, rfl, _, _, rfl, _, _, rfl, _, _, rfl, rfl, rfl, yes ⟨_, rfl, _, rfl, _, rfl, _, rfl, _, rfl, _, rfl, fun x dx hx2 hdx ne => ?_⟩⟩
      refine ⟨x, dx, _, _, _, _, _, _, rfl, upd_same, rfl, ?_⟩
      rw [upd_upd]
      exact ky _ _ (same_made hx2 hdx) rfl ⟨o, ho, x, dx, _, rfl, upd_same⟩
    · obtain ⟨l1, l2⟩ := kp.all
      have hl : (flat 0 (l.take i)).length ≤ 120 := by
        have := off_le n l acts i
        rw [flat_len]
        show off l i ≤ 120
        omega
      have hls : ss.length ≤ 120 := by rw [aS.1]; exact hl
      have h4 := okd.len
      have h5 := e3.1
      refine ⟨L, D, ss, ys, rfl, rfl, s _ _ (t2 _ _ eL), e, by show ss.length + ys.length ≤ 16777216; omega, ⟨_, _, _, rfl⟩, fun b o hb => ?_, ss ++ ys, upd_same, ?_⟩
      · rw [upd_ne (ne_of_none hb hL)]
        exact s _ _ (s3 _ _ hb)
      · have sN : SameN H' (upd H' L (.lst (ss ++ ys))) := sameN_upd (s _ _ (t2 _ _ eL)) (fun z => z)
        rw [List.take_add_one, hd]
        show All2 _ _ (flat 0 (l.take i ++ [d]))
        rw [flat_snoc]
        refine all2_append (aS.imp fun x y z => (z.n (same_n (t2.trans s))).n sN) ⟨by rw [List.length_map, l1, h5], fun j x y hx hy => ?_⟩
        obtain ⟨o, ho, sv⟩ := l2 j x hx
        rw [List.getElem?_map, ho] at hy
        cases hy
        have ti : (l.take i).length = i := by rw [List.length_take]; omega
        rw [ti, Nat.zero_add]
        exact sv.n sN
  · rintro σ H2 ⟨⟨z1, z2, z3, rfl⟩, s2, ss, eL, aS⟩
    refine ⟨_, rfl, L, ss, rfl, .inl ⟨.inl (.inl eL), fun p hp => ?_⟩⟩
    refine k _ _ (s2.trans (same_upd hp)) ⟨p, ss, rfl, upd_same, ?_⟩
    rw [ul, List.take_length] at aS
    exact aS.imp fun x y z => z.n (sameN_new hp)
end
end Lc
set_option Elab.async false
set_option linter.all false
set_option maxRecDepth 100000
set_option maxHeartbeats 4000000
namespace Lc
open PySem PySem.Spec PyProof.Rows L2 LcR
theorem hu1 {A : Around} {k : Nat} (hr : Room k A) : A.units + 1 < cLine := by have := hr.units; omega
theorem pt_nope {X : Cx} {e : Expr} : PT X e (fun _ _ _ => False) := ⟨fun _ _ _ _ _ _ h => h.elim⟩
theorem pe_nope {X : Cx} {e : Expr} : PE X e (fun _ _ _ => False) := ⟨fun _ _ _ _ _ _ h => h.elim⟩
def LotsV (H : Hp) (v : V) (l : List ActD) : Prop := ∃ p us, v = .ref p ∧ H p = some (.tup us) ∧ us.length = l.length ∧ ∀ (i : Nat) u d, us[i]? = some u → l[i]? = some d → ∃ q, u = .ref q ∧ H q = some (.tup (rgV (off l i : Int) ((off l i : Int) + (d.2.length : Int))))
theorem LotsV.n {H H' : Hp} {v : V} {l : List ActD} (h : LotsV H v l) (s : SameN H H') : LotsV H' v l := by
  obtain ⟨p, us, rfl, e1, e2, e3⟩ := h
  refine ⟨p, us, rfl, s _ _ e1 trivial, e2, fun i u d hu hd => ?_⟩
  obtain ⟨q, rfl, eq⟩ := e3 i u d hu hd
  exact ⟨q, rfl, s _ _ eq trivial⟩
section
variable {P : Program} {w : World} {K : PySem.W.Frag} {mg : Str → Option Value} {base : Heap}
def sp_lots_of_acts : Sp := fun vs H Q _ => ∃ (n : Nat) (v : V) (l : List ActD), vs = [v] ∧ ActsV H v l ∧ OkActs n l ∧ ∀ H' v', Same H H' → LotsV H' v' l → Q v' H'
theorem c_lots_of_acts (T : Tx K mg) : C8.Cal P w K mg base 3 "lots_of_acts" sp_lots_of_acts [] := by
  obtain ⟨fd, F⟩ := T.f_lots_of_acts
  refine calD F T.g_lots_of_acts sc_lots_of_acts (fun _ _ _ _ _ _ us hl => match us, hl with | [_], _ => rfl) (fun vs H Q E h => ?_) (fun cdv A outer s H vs Q E hr h => ?_)
  · obtain ⟨_, _, _, rfl, _⟩ := h; rfl
  obtain ⟨n, v, l, rfl, ⟨a, us, rfl, ea, al⟩, ok, k⟩ := h
  obtain ⟨n1, n2, len, acts, all⟩ := ok
  refine ⟨_, (pss_cons (ps_par (i := 1) (j := 2) (by rfl) sc_lots_of_acts.nd rfl rfl (by decide) rfl rfl (pa_cons (pe_lst pa_nil) (pa_cons pe_int pa_nil)) (by rfl))
      (pss_cons (ps_for PassesOwn.never rfl (pi_tup (pv 0)) (pg_tup rfl (pgs_cons (pg_name (i := 3) sc_lots_of_acts.nd rfl (Or.inl rfl)) (pgs_cons (pg_name (i := 4) sc_lots_of_acts.nd rfl (Or.inl rfl)) pgs_nil)))
      (pss_cons (ps_expr (pe_bm PySem.F.plainAttrs_list PySem.F.slot_list_append PySem.F.type_list_append mt_append (pv 1) (pa_cons (pe_tupRg rfl (by rfl) T.b_tuple (prg_2 (by rfl) T.b_range (pv 2) (pe_op op_add (pv 2) (pe_callB call_len (by rfl) T.b_len (by decide +kernel) (pa_cons (pv 4) pa_nil))))) pa_nil)))
      (pss_one (ps_set (i := 2) sc_lots_of_acts.nd rfl (Or.inl rfl) (pe_op op_add (pv 2) (pe_callB call_len (by rfl) T.b_len (by decide +kernel) (pa_cons (pv 4) pa_nil)))))))
      (pss_one (ps_ret (pe_callTy call_tuple_of (by rfl) T.b_tuple (by decide +kernel) (pa_cons (pv 1) pa_nil)))))), ?_⟩
  have S1 : SqT K H a us := .inl (.inl ea)
  have ul : us.length = l.length := al.1
  refine ⟨Nat.zero_le _, fun L hL => ?_⟩
  have s0 : Same H (upd H L (.lst [])) := same_upd hL
  refine ⟨_, _, rfl, ?_⟩
  refine ⟨_, rfl, a, rfl, ⟨us, same_seqT s0 S1⟩, ?_⟩
  refine for_it walk_tup (fun i σ H2 => (∃ x y, σ = [some (.ref a), some (.ref L), some (.int (off l i : Nat)), x, y]) ∧ Same H H2 ∧ ∃ ss, H2 L = some (.lst ss) ∧ ss.length = i ∧ ∀ (j : Nat) u d, ss[j]? = some u → l[j]? = some d → ∃ q, u = .ref q ∧ H2 q = some (.tup (rgV (off l j : Int) ((off l j : Int) + (d.2.length : Int)))))
    ⟨⟨none, none, rfl⟩, s0, [], upd_same, rfl, fun j u d h _ => by simp at h⟩ (fun i σ H2 _ p => same_seqT p.2.1 S1) ?_ ?_
  · rintro i x σ H2 H3 hi ⟨⟨z1, z2, rfl⟩, s2, ss, eL, el, aS⟩ ⟨rfl, hx⟩
    obtain ⟨d, hd, p, q, ws, rfl, e1, e2, e3⟩ := al.get' hx
    have okd := (acts d (List.mem_of_getElem? hd)).len
    have ho := off_le n l acts i
    have wl := e3.1
    have S3 : SqT K H3 q ws := .inl (.inl (s2 _ _ e2))
    refine ⟨p, _, rfl, .inl (.inl (s2 _ _ e1)), rfl, _, _, rfl, _, _, rfl, rfl, ?_⟩
    refine ⟨_, rfl, .inl ⟨rfl, ss, .inl (.inl eL)⟩, _, rfl, _, rfl, _, rfl, _, ws.length, rfl, .inr ⟨ws, S3, rfl⟩, _, _, rfl, rfl, ?_⟩
    refine ⟨_, _, rfl, rfl, RgOk.of_le (by omega) (by omega) (by omega) (by omega), fun q2 hq2 => ?_⟩
    refine ⟨L, ss, _, rfl, rfl, same_upd hq2 _ _ eL, Nat.lt_of_le_of_lt (by omega : ss.length ≤ 30) (by decide), ?_⟩
    have s4 := s2.trans (same_upd (o := .tup (rgV (off l i : Nat) ((off l i : Nat) + (ws.length : Int)))) hq2)
    have s5 : Same H (upd (upd H3 q2 (.tup (rgV (off l i : Nat) ((off l i : Nat) + (ws.length : Int))))) L (.lst (ss ++ [.ref q2]))) := fun b o hb => by rw [upd_ne (ne_of_none hb hL)]; exact s4 _ _ hb
    have sN : SameN (upd H3 q2 (.tup (rgV (off l i : Nat) ((off l i : Nat) + (ws.length : Int))))) (upd (upd H3 q2 (.tup (rgV (off l i : Nat) ((off l i : Nat) + (ws.length : Int))))) L (.lst (ss ++ [.ref q2]))) := sameN_upd (same_upd hq2 _ _ eL) (fun z => z)
    refine ⟨_, rfl, _, rfl, _, ws.length, rfl, .inr ⟨ws, .inl (.inl (s5 _ _ e2)), rfl⟩, _, _, rfl, rfl, ?_⟩
    refine ⟨⟨_, _, by rw [off_succ hd, ← wl]; rfl⟩, s5, _, upd_same, by rw [List.length_append, el]; rfl, fun j u d' hu hd' => ?_⟩
    by_cases hj : j < ss.length
    · rw [List.getElem?_append_left hj] at hu
      obtain ⟨p2, rfl, ep⟩ := aS j u d' hu hd'
      exact ⟨p2, rfl, sN _ _ (same_upd hq2 _ _ ep) trivial⟩
    · have hj2 : j = ss.length := by
        have := (List.getElem?_eq_some_iff.mp hu).1
        simp at this
        omega
      subst hj2
      rw [List.getElem?_append_right (Nat.le_refl _), Nat.sub_self] at hu
      cases hu
      rw [el, hd] at hd'
      cases hd'
      refine ⟨q2, rfl, sN _ _ ?_ trivial⟩
      rw [upd_same, el, wl]
  · rintro σ H2 ⟨⟨z1, z2, rfl⟩, s2, ss, eL, el, aS⟩
    refine ⟨_, rfl, L, ss, rfl, .inl ⟨.inl (.inl eL), fun p hp => ?_⟩⟩
    refine k _ _ (s2.trans (same_upd hp)) ⟨p, ss, rfl, upd_same, by rw [el, ul], fun j u d hu hd => ?_⟩
    obtain ⟨q, rfl, eq⟩ := aS j u d hu hd
    exact ⟨q, rfl, same_upd hp _ _ eq⟩
end
end Lc
set_option Elab.async false
set_option linter.all false
set_option maxRecDepth 100000
set_option maxHeartbeats 4000000
namespace Lc
open PySem PySem.Spec PyProof.Rows L2 LcR
def flH (n : Nat) (m va vs lk vo : V) : List (Str × V) := [("states", .int (n : Int)), ("start", .int 0), ("measures", m), ("acts", va), ("steps", vs), ("lots", lk), ("lots_of", vo)]
def HouseV (K : PySem.W.Frag) (H : Hp) (v : V) (n : Nat) (l : List ActD) : Prop := ∃ x dx m va vs lk vo, v = .ref x ∧ H x = some (.ins (CHouse K) dx (flH n m va vs lk vo)) ∧ ActsV H va l ∧ StepsV K H vs l ∧ LotsV H vo l
/-- .. with what == asks -/
def HouseE (K : PySem.W.Frag) (H : Hp) (v : V) (n : Nat) (l : List ActD) : Prop := ∃ x dx ma va vs la vo, v = .ref x ∧ H x = some (.ins (CHouse K) dx (flH n (.ref ma) va vs (.ref la) vo)) ∧ H ma = some (.tup [.str "x"]) ∧ ActsV H va l ∧ H la = some (.dK [])
theorem HouseV.n {K : PySem.W.Frag} {H H' : Hp} {v : V} {n : Nat} {l : List ActD} (h : HouseV K H v n l) (s : SameN H H') : HouseV K H' v n l := by
  obtain ⟨x, dx, m, va, vs, lk, vo, rfl, e, h1, h2, h3⟩ := h
  exact ⟨x, dx, m, va, vs, lk, vo, rfl, s _ _ e trivial, h1.n s, h2.n s, h3.n s⟩
section
variable {P : Program} {w : World} {K : PySem.W.Frag} {mg : Str → Option Value} {base : Heap}
def sp_House_init (K : PySem.W.Frag) : Sp := fun vs H Q _ => ∃ (n : Nat) (x : Addr) (dx : Addr) (m : Addr) (v : V) (l : List ActD), vs = [.ref x, .int (n : Int), .int 0, .ref m, v, .non] ∧ H x = some (.ins (CHouse K) dx []) ∧ H m = some (.tup [.str "x"]) ∧ ActsV H v l ∧ OkActs n l ∧
  ∀ H', (∀ b o, b ≠ x → H b = some o → H' b = some o) → HouseV K H' (.ref x) n l → HouseE K H' (.ref x) n l → Q .non H'
/-- what stands but at one place -/
def SameX (x : Addr) (H H' : Hp) : Prop := ∀ b o, b ≠ x → H b = some o → H' b = some o
theorem SameX.refl {x : Addr} {H : Hp} : SameX x H H := fun _ _ _ h => h
theorem SameX.trans {x : Addr} {H H1 H2 : Hp} (a : SameX x H H1) (b : SameX x H1 H2) : SameX x H H2 := fun c o n h => b c o n (a c o n h)
theorem SameX.of {x : Addr} {H H' : Hp} (s : Same H H') : SameX x H H' := fun b o _ h => s b o h
theorem SameX.at_ {x : Addr} {H : Hp} {o : HO} : SameX x H (upd H x o) := fun b o n h => by rw [upd_ne n]; exact h
theorem ActsV.x {x : Addr} {H H' : Hp} {v : V} {l : List ActD} {C dx : Addr} {fs : List (Str × V)} (h : ActsV H v l) (s : SameX x H H') (e : H x = some (.ins C dx fs)) : ActsV H' v l := by
  have key : ∀ b ys, H b = some (.tup ys) → H' b = some (.tup ys) := fun b ys hb => s _ _ (fun z => by subst z; rw [hb] at e; cases e) hb
  obtain ⟨a, us, rfl, ea, al⟩ := h
  refine ⟨a, us, rfl, key _ _ ea, al.imp fun u d hv => ?_⟩
  obtain ⟨p, q, ws, rfl, e1, e2, e3⟩ := hv
  refine ⟨p, q, ws, rfl, key _ _ e1, key _ _ e2, e3.imp fun y o ov => ?_⟩
  obtain ⟨ao, pa, rfl, f1, f2⟩ := ov
  exact ⟨ao, pa, rfl, key _ _ f1, key _ _ f2⟩
theorem StepsV.x {x : Addr} {H H' : Hp} {v : V} {l : List ActD} {C dx : Addr} {fs : List (Str × V)} (h : StepsV K H v l) (s : SameX x H H') (e : H x = some (.ins C dx fs)) (hf : fs.length ≠ 6) : StepsV K H' v l := by
  obtain ⟨p, us, rfl, e1, e3⟩ := h
  refine ⟨p, us, rfl, s _ _ (fun z => by subst z; rw [e1] at e; cases e) e1, e3.imp fun u z hz => ?_⟩
  obtain ⟨y, dy, pw, rfl, ey⟩ := hz
  exact ⟨y, dy, pw, rfl, s _ _ (fun z => by subst z; rw [ey] at e; cases e; exact hf rfl) ey⟩
theorem LotsV.x {x : Addr} {H H' : Hp} {v : V} {l : List ActD} {C dx : Addr} {fs : List (Str × V)} (h : LotsV H v l) (s : SameX x H H') (e : H x = some (.ins C dx fs)) : LotsV H' v l := by
  have key : ∀ b ys, H b = some (.tup ys) → H' b = some (.tup ys) := fun b ys hb => s _ _ (fun z => by subst z; rw [hb] at e; cases e) hb
  obtain ⟨p, us, rfl, e1, e2, e3⟩ := h
  refine ⟨p, us, rfl, key _ _ e1, e2, fun i u d hu hd => ?_⟩
  obtain ⟨q, rfl, eq⟩ := e3 i u d hu hd
  exact ⟨q, rfl, key _ _ eq⟩
theorem ok_House_init (T : Tx K mg) {f : Addr} {fd : FuncData} (F : FunD K "__init__" "House.__init__" (defArgs s_House_init) (defBody s_House_init) (defScope s_House_init) [.non] [] f fd) : FnOk P w K mg base CX0 7 f fd P_House_init (sp_House_init K) := by
  refine fnD F sc_House_init (fun vs H Q E h => ?_) (fun cdv A outer s H vs Q E hr h => ?_)
  · obtain ⟨_, _, _, _, _, _, rfl, _⟩ := h; rfl
  obtain ⟨n, x, dx, m, v, l, rfl, hx, em, hv, ok, k⟩ := h
  refine ⟨_, (pss_cons (ps_expr (C8.pe_c (c_need_parts T) hr (by decide) (by rfl) (pa_cons (pv 1) (pa_cons (pv 2) (pa_cons (pv 3) (pa_cons (pv 4) pa_nil))))))
      (pss_cons (ps_set (i := 6) sc_House_init.nd rfl (Or.inl rfl) (pe_callB (cr_sum rfl) (by rfl) T.b_sum (by decide +kernel) (pa_cons (pe_lc (own := [("source", 8), ("outcomes", 9)]) (g := gTup K 2 (gCons (gName 8) (gCons (gName 9) (gNil)))) (te := (tCB (rLen K) (tCons (tVar 9) tNil))) (by rfl) sc_House_init.nd (pi_tup (pv 4)) (blkOk_by (own := [("source", 8), ("outcomes", 9)]) (N := N_House_init) (sc := defScope s_House_init) (by decide +kernel)) (fun _ _ _ _ _ => (pg_tup rfl (pgs_cons (pg_name (i := 8) sc_House_init.nd rfl (Or.inl rfl)) (pgs_cons (pg_name (i := 9) sc_House_init.nd rfl (Or.inl rfl)) pgs_nil)))) (fun _ _ _ _ _ => pts_nil) (fun _ _ _ _ _ => (pe_callB call_len (by rfl) T.b_len (by decide +kernel) (pa_cons (pv 9) pa_nil)))) pa_nil)))
      (pss_cons (ps_if (PW.pt (pw_and (pt_cmp (pc_notN (pv 5))) (pw_and1 (pt_not pt_nope)))) (pss_one ps_never) pss_nil)
      (pss_cons (ps_set (i := 7) sc_House_init.nd rfl (Or.inr rfl) (pe_ifExp (pt_cmp (pc_isN (pv 5))) pe_dnewK (pv 5)))
      (pss_cons (ps_if (pt_cmpR op_gt (pe_callB call_lenD (by rfl) T.b_len (by decide +kernel) (pa_cons (pv 7) pa_nil)) (C8.pe_gc (by rfl) T.k_MOST_EVENTS) (nomark _)) (pss_one ps_never) pss_nil)
      (pss_cons (ps_fld (pv 0) (pv 1) rfl)
      (pss_cons (ps_fld (pv 0) (pv 2) rfl)
      (pss_cons (ps_fld (pv 0) (pv 3) rfl)
      (pss_cons (ps_fld (pv 0) (pv 4) rfl)
      (pss_cons (ps_fld (pv 0) (C8.pe_c (c_steps_from T) hr (by decide) (by rfl) (pa_cons (pv 4) pa_nil)) rfl)
      (pss_cons (ps_fld (pv 0) (pe_dc (own := [("word", 10)]) (g := gName 10) (by rfl) sc_House_init.nd (pi_list (pe_callB cr_sortedI (by rfl) T.b_sorted (by decide +kernel) (pa_cons (pe_callTy (call_list_dK rfl) (by rfl) T.b_list (by decide +kernel) (pa_cons (pv 7) pa_nil)) pa_nil))) (blkOk_by (own := [("word", 10)]) (N := N_House_init) (sc := defScope s_House_init) (by decide +kernel)) (fun _ _ _ _ _ => (pg_name (i := 10) sc_House_init.nd rfl (Or.inl rfl))) (fun _ _ _ _ _ => pts_nil) (fun _ _ _ _ _ => (pv 10)) (fun _ _ _ _ _ => (pe_dget (hu1 hr) (pv 7) (pv 10) (fun _ _ => rfl)))) rfl)
      (pss_one (ps_fld (pv 0) (C8.pe_c (c_lots_of_acts T) hr (by decide) (by rfl) (pa_cons (pv 4) pa_nil)) rfl))))))))))))), ?_⟩
  refine ⟨_, rfl, _, rfl, _, rfl, _, rfl, n, m, v, l, rfl, em, hv, ok, fun H1 s1 => ?_⟩
  obtain ⟨a, us, rfl, ea, al⟩ := id hv
  obtain ⟨n1, n2, len, acts, all⟩ := ok
  have ul : us.length = l.length := al.1
  have S1 : SqT K H a us := .inl (.inl ea)
  refine ⟨_, rfl, a, rfl, ⟨us, same_seqT s1 S1⟩, fun D2 hD2 => ?_⟩
  refine lcm walk_tup hD2 (Nat.le_trans (by omega : us.length ≤ 30) (by decide)) (fun _ => true) (fun i y _ => ∃ d, l[i]? = some d ∧ y = V.int (d.2.length : Int)) (fun _ _ _ _ _ h => h) (fun H' s => same_seqT (s1.trans s) S1) (fun i x H5 H' kN kY hi s y kn ky => ?_) (fun H' ys s e kp => ?_)
  · obtain ⟨rfl, hx⟩ := y
    obtain ⟨d, hd, p, q, ws, rfl, e1, e2, e3⟩ := al.get' hx
    have s5 := same_n (s1.trans s)
    refine ⟨p, _, rfl, .inl (.inl (s5 _ _ e1 trivial)), rfl, _, _, rfl, _, _, rfl, rfl, rfl, yes ⟨_, rfl, _, ws.length, rfl, .inr ⟨ws, .inl (.inl (s5 _ _ e2 trivial)), rfl⟩, ?_⟩⟩
    exact ky _ _ (Same.refl _) rfl ⟨d, hd, by rw [e3.1]⟩
  obtain ⟨l1, l2⟩ := kp.all
  have e3 := map_lens (l1.trans ul) l2
  refine ⟨D2, lens l, rfl, .inl (.inl (by rw [← e3]; exact e)), ?_⟩
  have s2 := s1.trans s
  refine ⟨_, rfl, false, rfl, iteF (iteF ?_)⟩
  refine ⟨_, rfl, true, rfl, iteT fun L hL => ?_⟩
  have s3 := s2.trans (same_upd (o := .dK []) hL)
  refine ⟨_, rfl, L, [], rfl, upd_same, _, _, rfl, rfl, false, by rfl, iteF ?_⟩
  refine ⟨_, rfl, _, rfl, x, _, dx, _, rfl, s3 _ _ hx, T.cl_House, T.na_House_states, by decide, ?_⟩
  refine ⟨_, rfl, _, rfl, x, _, dx, _, rfl, upd_same, T.cl_House, T.na_House_start, by show 1 < 1000; decide, ?_⟩
  refine ⟨_, rfl, _, rfl, x, _, dx, _, rfl, upd_same, T.cl_House, T.na_House_measures, by show 2 < 1000; decide, ?_⟩
  refine ⟨_, rfl, _, rfl, x, _, dx, _, rfl, upd_same, T.cl_House, T.na_House_acts, by show 3 < 1000; decide, ?_⟩
  simp only [upd_upd]
  have hxL : L ≠ x := fun z => by subst z; rw [s2 _ _ hx] at hL; cases hL
  generalize hG : upd (upd H' L (.dK [])) x _ = H4
  have s4 : SameX x H H4 := hG ▸ (SameX.of s3).trans SameX.at_
  have e4 : H4 x = some (.ins (CHouse K) dx [("states", .int (n : Int)), ("start", .int 0), ("measures", .ref m), ("acts", .ref a)]) := hG ▸ upd_same
  have v4 : ActsV H4 (.ref a) l := hv.x s4 hx
  have d4 : H4 L = some (.dK []) := by rw [← hG, upd_ne hxL, upd_same]
  refine ⟨_, rfl, n, .ref a, l, rfl, v4, ⟨n1, n2, len, acts, all⟩, fun H5 sv s5 hsv => ?_⟩
  refine ⟨_, rfl, x, _, dx, _, rfl, s5 _ _ e4, T.cl_House, T.na_House_steps, by show 4 < 1000; decide, ?_⟩
  generalize hG6 : upd H5 x _ = H6
  have s6 : SameX x H4 H6 := hG6 ▸ (SameX.of s5).trans SameX.at_
  have d6 : H6 L = some (.dK []) := s6 _ _ hxL d4
  refine ⟨_, rfl, L, [], rfl, d6, fun p hp => ?_⟩
  refine ⟨p, [], rfl, .inl (.inl upd_same), fun ns q perm pw hq => ?_⟩
  obtain rfl : ns = [] := perm.eq_nil
  generalize hG7 : upd (upd H6 p _) q _ = H7
  have s7 : Same H6 H7 := hG7 ▸ (same_upd hp).trans (same_upd hq)
  have e7 : H7 q = some (.lst []) := hG7 ▸ upd_same
  refine ⟨q, rfl, ⟨[], .inl (.inl e7)⟩, fun D hD => ?_⟩
  refine dc_it walk_list (fun i H' => Same H7 H' ∧ H' D = some (.dK [])) ⟨same_upd hD, upd_same⟩ (fun i H' _ p => .inl (.inl (p.1 _ _ e7))) (fun i x H3 H4 hi => absurd hi (Nat.not_lt_zero _)) (fun H8 s8 => ?_)
  obtain ⟨s8, e8⟩ := s8
  have s8' := s7.trans s8
  have e6 : H6 x = some (.ins (CHouse K) dx [("states", .int (n : Int)), ("start", .int 0), ("measures", .ref m), ("acts", .ref a), ("steps", sv)]) := hG6 ▸ upd_same
  refine ⟨_, rfl, x, _, dx, _, rfl, s8' _ _ e6, T.cl_House, T.na_House_lots, by show 5 < 1000; decide, ?_⟩
  generalize hG9 : upd H8 x _ = H9
  have s9 : SameX x H6 H9 := hG9 ▸ (SameX.of s8').trans SameX.at_
  have e9 : H9 x = some (.ins (CHouse K) dx [("states", .int (n : Int)), ("start", .int 0), ("measures", .ref m), ("acts", .ref a), ("steps", sv), ("lots", .ref D)]) := hG9 ▸ upd_same
  have t9 := s4.trans (s6.trans s9)
  refine ⟨_, rfl, n, .ref a, l, rfl, hv.x t9 hx, ⟨n1, n2, len, acts, all⟩, fun H10 so s10 hso => ?_⟩
  refine ⟨_, rfl, x, _, dx, _, rfl, s10 _ _ e9, T.cl_House, T.na_House_lots_of, by show 6 < 1000; decide, ?_⟩
  have z1 : SameX x H9 (upd H10 x (.ins (CHouse K) dx (putF "lots_of" so [("states", .int (n : Int)), ("start", .int 0), ("measures", .ref m), ("acts", .ref a), ("steps", sv), ("lots", .ref D)]))) := (SameX.of s10).trans SameX.at_
  have z4 := t9.trans z1
  have z5 : SameX x H5 H6 := hG6 ▸ SameX.at_
  have mx : m ≠ x := fun z => by subst z; rw [em] at hx; cases hx
  have Dx : D ≠ x := fun z => by subst z; rw [s7 _ _ e6] at hD; cases hD
  refine k _ ((SameX.of s3).trans ?_) ⟨x, dx, .ref m, .ref a, sv, .ref D, so, rfl, upd_same, hv.x z4 hx, ?_, ?_⟩ ⟨x, dx, m, .ref a, sv, D, so, rfl, upd_same, z4 _ _ mx em, hv.x z4 hx, ?_⟩
  · exact SameX.trans (H1 := H4) (hG ▸ SameX.at_) (s6.trans (s9.trans z1))
  · exact hsv.x (z5.trans (s9.trans z1)) (s5 _ _ e4) (by show 4 ≠ 6; decide)
  · exact hso.x SameX.at_ (s10 _ _ e9)
  · refine z1 _ _ Dx ?_
    rw [← hG9, upd_ne Dx]
    exact e8
theorem c_House_4 (T : Tx K mg) : C8.Mak P w K mg base 7 "House" (CHouse K) (sp_House_init K) [.non] := by
  obtain ⟨fd, F⟩ := T.f_House_init
  obtain ⟨ds, v, b⟩ := F.binds1 (ps := P_House_init) 5 0 (by simp) rfl (fun _ _ _ _ _ _ _ us its h1 h2 => match us, h1, its, h2 with | [_, _, _, _, _], _, [_], _ => ⟨_, rfl, rfl⟩)
  exact ⟨_, fd, P_House_init, ds, T.mk_House, ok_House_init T F, T.g_House, b, v⟩
/-! ### asking a house -/
theorem ty_H {H : Hp} {v : V} {n : Nat} {l : List ActD} (T : Tx K mg) (h : HouseV K H v n l) : True := trivial
def sp_need_house (K : PySem.W.Frag) : Sp := fun vs H Q _ => ∃ v n l, vs = [v] ∧ HouseV K H v n l ∧ Q .non H
theorem c_need_house (T : Tx K mg) : C8.Cal P w K mg base 1 "need_house" (sp_need_house K) [] := by
  obtain ⟨fd, F⟩ := T.f_need_house
  refine calD F T.g_need_house sc_need_house (fun _ _ _ _ _ _ us hl => match us, hl with | [_], _ => rfl) (fun vs H Q E h => ?_) (fun cdv A outer s H vs Q E hr h => ?_)
  · obtain ⟨_, _, _, rfl, _⟩ := h; rfl
  obtain ⟨v, n, l, rfl, ⟨x, dx, m, va, vs, lk, vo, rfl, e, h1, h2, h3⟩, k⟩ := h
  refine ⟨_, (pss_one (ps_if (pt_not (pt_val (pe_callB call_isi (by rfl) T.b_isinstance (by decide +kernel) (pa_cons (pv 0) (pa_cons (pe_glob (v := .ref (CHouse K)) (by rfl) T.g_House rfl) pa_nil))))) (pss_one ps_never) pss_nil)), ?_⟩
  exact ⟨_, rfl, _, _, _, _, true, rfl, .own _, .base (.ins e T.cl_House T.ha_House T.hn T.htk T.hm_House), T.ki_House, true, rfl, iteF k⟩
def sp_need_state (K : PySem.W.Frag) : Sp := fun vs H Q _ => ∃ v n l s, vs = [v, .int s] ∧ HouseV K H v n l ∧ 0 ≤ s ∧ s < (n : Int) ∧ Q .non H
theorem c_need_state (T : Tx K mg) : C8.Cal P w K mg base 3 "need_state" (sp_need_state K) [] := by
  obtain ⟨fd, F⟩ := T.f_need_state
  refine calD F T.g_need_state sc_need_state (fun _ _ _ _ _ _ us hl => match us, hl with | [_, _], _ => rfl) (fun vs H Q E h => ?_) (fun cdv A outer s H vs Q E hr h => ?_)
  · obtain ⟨_, _, _, _, rfl, _⟩ := h; rfl
  obtain ⟨v, n, l, st, rfl, ⟨x, dx, m, va, vs, lk, vo, rfl, e, h1, h2, h3⟩, l1, l2, k⟩ := h
  refine ⟨_, (pss_one (ps_if (pt_not (pt_val (C8.pe_c (c_is_within T) hr (by decide) (by rfl) (pa_cons (pv 1) (pa_cons pe_int (pa_cons (pe_op op_sub (pe_fld (pv 0) rfl) pe_int) pa_nil)))))) (pss_one ps_never) pss_nil)), ?_⟩
  refine ⟨_, rfl, _, rfl, x, _, dx, _, _, rfl, e, T.cl_House, T.na_House_states, rfl, _, _, rfl, rfl, st, 0, (n : Int) - 1, rfl, l1, by omega, true, rfl, iteF k⟩
def actsAt (l : List ActD) (s : Nat) : List Nat := (List.range l.length).filter fun i => decide ((l[i]?.map (·.1)) = some s)
theorem kept_ints {keep : Nat → Bool} {n : Nat} {ys : List V} {H : Hp} (h : Kept keep (fun j y _ => y = .int (j : Nat)) n ys H) : ys = ((List.range n).filter keep).map fun j : Nat => V.int (j : Int) := by
  obtain ⟨h1, h2⟩ := h
  apply List.ext_getElem?
  intro i
  rw [List.getElem?_map]
  by_cases hi : i < ys.length
  · rw [List.getElem?_eq_getElem hi, List.getElem?_eq_getElem (by omega : i < ((List.range n).filter keep).length)]
    exact congrArg some (h2 i _ _ (List.getElem?_eq_getElem (by omega)) (List.getElem?_eq_getElem hi))
  · rw [List.getElem?_eq_none (by omega), List.getElem?_eq_none (by omega)]
    rfl
def sp_acts_at (K : PySem.W.Frag) : Sp := fun vs H Q _ => ∃ (v : V) (n : Nat) (l : List ActD) (s : Nat), vs = [v, .int (s : Int)] ∧ HouseV K H v n l ∧ OkActs n l ∧ s < n ∧ ∀ H' p, Same H H' → H' p = some (.tup ((actsAt l s).map fun j : Nat => V.int (j : Int))) → Q (.ref p) H'
theorem ok_acts_at (T : Tx K mg) {f : Addr} {fd : FuncData} (F : FunD K "acts_at" "House.acts_at" (defArgs s_House_acts_at) (defBody s_House_acts_at) (defScope s_House_acts_at) [] [] f fd) : FnOk P w K mg base CX0 4 f fd P_House_acts_at (sp_acts_at K) := by
  refine fnD F sc_House_acts_at (fun vs H Q E h => ?_) (fun cdv A outer s H vs Q E hr h => ?_)
  · obtain ⟨_, _, _, _, rfl, _⟩ := h; rfl
  obtain ⟨v, n, l, st, rfl, hv, ok, hs, k⟩ := h
  refine ⟨_, (pss_cons (ps_expr (C8.pe_c (c_need_state T) hr (by decide) (by rfl) (pa_cons (pv 0) (pa_cons (pv 1) pa_nil))))
      (pss_one (ps_ret (pe_callTy call_tuple_of (by rfl) T.b_tuple (by decide +kernel) (pa_cons (pe_lc (own := [("at", 2), ("act", 3)]) (g := gTup K 2 (gCons (gName 2) (gCons (gName 3) (gNil)))) (tt := (tB (tOp rEq (tOp (rIxT K) (tVar 3) (tC (.int 0))) (tVar 1)))) (by rfl) sc_House_acts_at.nd (LcE.pi_enumT (by rfl) T.b_enumerate (pa_cons (pe_fld (pv 0) rfl) pa_nil)) (blkOk_by (own := [("at", 2), ("act", 3)]) (N := N_House_acts_at) (sc := defScope s_House_acts_at) (by decide +kernel)) (fun _ _ _ _ _ => (pg_tup rfl (pgs_cons (pg_name (i := 2) sc_House_acts_at.nd rfl (Or.inl rfl)) (pgs_cons (pg_name (i := 3) sc_House_acts_at.nd rfl (Or.inl rfl)) pgs_nil)))) (fun _ _ _ _ _ => (pts_one (pt_cmpR op_eq (pe_ix ix_tup (pv 3) pe_int (fun _ _ => rfl)) (pv 1) (nomark _)))) (fun _ _ _ _ _ => (pv 2))) pa_nil))))), ?_⟩
  refine ⟨_, rfl, _, rfl, v, n, l, st, rfl, hv, by omega, by omega, ?_⟩
  obtain ⟨x, dx, m, va, vs, lk, vo, rfl, e, ⟨a, us, rfl, ea, al⟩, h2, h3⟩ := hv
  have S1 : SqT K H a us := .inl (.inl ea)
  have ul : us.length = l.length := al.1
  have len := ok.len
  refine ⟨_, rfl, x, _, dx, _, _, rfl, e, T.cl_House, T.na_House_acts, rfl, a, us, rfl, S1, fun D hD => ?_⟩
  refine lcm LcE.walk_enumT hD (Nat.le_trans (by omega : us.length ≤ 30) (by decide)) (fun i => decide ((l[i]?.map (·.1)) = some st)) (fun j y _ => y = .int (j : Nat)) (fun _ _ _ _ _ h => h) (fun H' s => same_seqT s S1) (fun i z H5 H' kN kY hi s y kn ky => ?_) (fun H' ys s e kp => ?_)
  · obtain ⟨Tp, x1, y1, rfl, hT, rfl, hx, hy⟩ := y
    cases hx
    obtain ⟨d, hd, p, q, ws, rfl, e1, e2, e3⟩ := al.get' hy
    have s6 := s.trans (same_upd (o := .tup [V.int (i : Nat), V.ref p]) hT)
    refine ⟨_, _, rfl, .inl (.inl upd_same), rfl, _, _, rfl, _, _, rfl, rfl, rfl, ?_⟩
    refine ⟨_, rfl, p, _, 0, _, rfl, rfl, .inl (.inl (s6 _ _ e1)), rfl, _, rfl, rfl, decide (d.1 = st), ?_, ite2 (fun h0 => ?_) (fun h0 => ?_)⟩
    · rw [dec_int]
      exact congrArg V.bl (by rw [Bool.eq_iff_iff]; simp; omega)
    · exact ⟨_, rfl, ky _ _ (same_upd hT) (by simp [hd, of_decide_eq_true h0]) rfl⟩
    · exact kn _ (same_upd hT) (by simp [hd]; exact fun z => h0 (decide_eq_true z))
  · have e9 := kept_ints kp
    refine ⟨D, _, rfl, .inl ⟨.inl (.inl e), fun p hp => ?_⟩⟩
    refine k _ p (s.trans (same_upd hp)) ?_
    rw [upd_same, e9, ul]
    rfl
theorem m_acts_at (T : Tx K mg) : C8.Met P w K mg base 4 (CHouse K) "acts_at" (sp_acts_at K) [] := by
  obtain ⟨fd, F⟩ := T.f_House_acts_at
  exact ⟨_, fd, P_House_acts_at, [], T.cl_House, T.me_House_acts_at, ok_acts_at T F, F.bindsN (fun _ _ _ _ _ _ us hl => match us, hl with | [_, _], _ => rfl), .nil⟩
def sp_steps_of (K : PySem.W.Frag) : Sp := fun vs H Q _ => ∃ (v : V) (n : Nat) (l : List ActD) (i : Nat) (d : ActD), vs = [v, .int (i : Int)] ∧ HouseV K H v n l ∧ l[i]? = some d ∧ ∀ p, H p = some (.tup (rgV (off l i : Int) ((off l i : Int) + (d.2.length : Int)))) → Q (.ref p) H
theorem ok_steps_of (T : Tx K mg) {f : Addr} {fd : FuncData} (F : FunD K "steps_of" "House.steps_of" (defArgs s_House_steps_of) (defBody s_House_steps_of) (defScope s_House_steps_of) [] [] f fd) : FnOk P w K mg base CX0 4 f fd P_House_steps_of (sp_steps_of K) := by
  refine fnD F sc_House_steps_of (fun vs H Q E h => ?_) (fun cdv A outer s H vs Q E hr h => ?_)
  · obtain ⟨_, _, _, _, _, rfl, _⟩ := h; rfl
  obtain ⟨v, n, l, i, d, rfl, hv, hd, k⟩ := h
  refine ⟨_, (pss_cons (ps_if (pt_not (pt_val (C8.pe_c (c_is_within T) hr (by decide) (by rfl) (pa_cons (pv 1) (pa_cons pe_int (pa_cons (pe_op op_sub (pe_callB call_len (by rfl) T.b_len (by decide +kernel) (pa_cons (pe_fld (pv 0) rfl) pa_nil)) pe_int) pa_nil)))))) (pss_one ps_never) pss_nil)
      (pss_one (ps_ret (pe_ix ix_tup (pe_fld (pv 0) rfl) (pv 1) (fun _ _ => rfl))))), ?_⟩
  obtain ⟨x, dx, m, va, vs, lk, vo, rfl, e, ⟨a, us, rfl, ea, al⟩, h2, ⟨p, us2, rfl, e1, e2, e3⟩⟩ := hv
  have S1 : SqT K H a us := .inl (.inl ea)
  have ul : us.length = l.length := al.1
  have hi : i < l.length := (List.getElem?_eq_some_iff.mp hd).1
  refine ⟨_, rfl, _, rfl, x, _, dx, _, _, rfl, e, T.cl_House, T.na_House_acts, rfl, _, us.length, rfl, .inr ⟨us, S1, rfl⟩, _, _, rfl, rfl, (i : Int), 0, (us.length : Int) - 1, rfl, by omega, by omega, true, rfl, iteF ?_⟩
  obtain ⟨q, hq, eq⟩ := e3 i us2[i] d (List.getElem?_eq_getElem (by omega)) hd
  refine ⟨_, rfl, x, _, dx, _, _, rfl, e, T.cl_House, T.na_House_lots_of, rfl, _, rfl, p, us2, (i : Int), .ref q, rfl, rfl, .inl (.inl e1), ?_, k q eq⟩
  exact atI_nat (by rw [List.getElem?_eq_getElem (by omega), hq])
theorem m_steps_of (T : Tx K mg) : C8.Met P w K mg base 4 (CHouse K) "steps_of" (sp_steps_of K) [] := by
  obtain ⟨fd, F⟩ := T.f_House_steps_of
  exact ⟨_, fd, P_House_steps_of, [], T.cl_House, T.me_House_steps_of, ok_steps_of T F, F.bindsN (fun _ _ _ _ _ _ us hl => match us, hl with | [_, _], _ => rfl), .nil⟩
end
end Lc
set_option linter.all false
namespace LC
/-! ### outcomes: pairs (target, odds) -/
abbrev Outs := List (Nat × Nat)
def wsum : Outs → Nat
  | [] => 0
  | p :: r => p.2 + wsum r
def psum (v : Nat → Rat) : Outs → Rat
  | [] => 0
  | p :: r => v p.1 * (p.2 : Rat) + psum v r
def mean (v : Nat → Rat) (o : Outs) : Rat := psum v o / (wsum o : Rat)
/-- an act's outcomes as a house has them -/
def OutsOk (n : Nat) (o : Outs) : Prop := o ≠ [] ∧ ∀ p ∈ o, p.1 < n ∧ 1 ≤ p.2
theorem wsum_append (a b : Outs) : wsum (a ++ b) = wsum a + wsum b := by
  induction a with
  | nil => simp [wsum]
  | cons p r ih => simp [wsum, ih, Nat.add_assoc]
theorem psum_append (v : Nat → Rat) (a b : Outs) : psum v (a ++ b) = psum v a + psum v b := by
  induction a with
  | nil => simp [psum, Rat.zero_add]
  | cons p r ih => simp only [List.cons_append, psum, ih]; grind
theorem wsum_pos {n : Nat} {o : Outs} (h : OutsOk n o) : 0 < wsum o := by
  obtain ⟨h1, h2⟩ := h
  cases o with
  | nil => exact absurd rfl h1
  | cons p r => have := (h2 p (List.mem_cons_self)).2; simp only [wsum]; omega
theorem natCast_nn (n : Nat) : (0 : Rat) ≤ (n : Rat) := by
  have : ((0 : Nat) : Rat) ≤ (n : Rat) := Rat.natCast_le_natCast.mpr (Nat.zero_le n)
  simpa using this
theorem natCast_pos {n : Nat} (h : 0 < n) : (0 : Rat) < (n : Rat) := by
  have : ((0 : Nat) : Rat) < (n : Rat) := Rat.natCast_lt_natCast.mpr h
  simpa using this
theorem wsumQ_pos {n : Nat} {o : Outs} (h : OutsOk n o) : (0 : Rat) < (wsum o : Rat) := natCast_pos (wsum_pos h)
theorem psum_congr {u v : Nat → Rat} {o : Outs} (h : ∀ p ∈ o, u p.1 = v p.1) : psum u o = psum v o := by
  induction o with
  | nil => rfl
  | cons p r ih => simp only [psum]; rw [h p List.mem_cons_self, ih fun q hq => h q (List.mem_cons_of_mem _ hq)]
theorem mean_congr {u v : Nat → Rat} {o : Outs} (h : ∀ p ∈ o, u p.1 = v p.1) : mean u o = mean v o := by unfold mean; rw [psum_congr h]
theorem psum_mono {u v : Nat → Rat} {o : Outs} (h : ∀ p ∈ o, u p.1 ≤ v p.1) : psum u o ≤ psum v o := by
  induction o with
  | nil => exact Rat.le_refl
  | cons p r ih =>
    simp only [psum]
    have h1 := Rat.mul_le_mul_of_nonneg_right (h p List.mem_cons_self) (natCast_nn p.2)
    have h2 := ih fun q hq => h q (List.mem_cons_of_mem _ hq)
    grind
theorem psum_const (c : Rat) (o : Outs) : psum (fun _ => c) o = c * (wsum o : Rat) := by
  induction o with
  | nil => simp [psum, wsum, Rat.mul_zero]
  | cons p r ih => simp only [psum, wsum, ih, Rat.natCast_add]; grind
theorem psum_sub (u v : Nat → Rat) (o : Outs) : psum (fun s => u s - v s) o = psum u o - psum v o := by
  induction o with
  | nil => simp only [psum]; grind
  | cons p r ih => simp only [psum, ih]; grind
theorem psum_add (u v : Nat → Rat) (o : Outs) : psum (fun s => u s + v s) o = psum u o + psum v o := by
  induction o with
  | nil => simp only [psum]; grind
  | cons p r ih => simp only [psum, ih]; grind
theorem mean_mul {n : Nat} {v : Nat → Rat} {o : Outs} (h : OutsOk n o) : mean v o * (wsum o : Rat) = psum v o := by
  have := wsumQ_pos h
  unfold mean
  exact Rat.div_mul_cancel (by grind)
theorem mean_le_iff {n : Nat} {v : Nat → Rat} {o : Outs} (h : OutsOk n o) (c : Rat) : mean v o ≤ c ↔ psum v o ≤ c * (wsum o : Rat) := by
  have hw := wsumQ_pos h
  rw [← mean_mul h]
  constructor
  · intro z; exact Rat.mul_le_mul_of_nonneg_right z (by grind)
  · intro z; exact Rat.le_of_mul_le_mul_right z hw
theorem mean_mono {n : Nat} {u v : Nat → Rat} {o : Outs} (ok : OutsOk n o) (h : ∀ p ∈ o, u p.1 ≤ v p.1) : mean u o ≤ mean v o := by
  rw [mean_le_iff ok, mean_mul ok]; exact psum_mono h
theorem mean_const {n : Nat} (c : Rat) {o : Outs} (ok : OutsOk n o) : mean (fun _ => c) o = c := by
  unfold mean
  rw [psum_const]
  have := wsumQ_pos ok
  exact Rat.mul_div_cancel (by grind)
theorem mean_sub (u v : Nat → Rat) (o : Outs) : mean (fun s => u s - v s) o = mean u o - mean v o := by
  unfold mean; rw [psum_sub]; rw [Rat.div_def, Rat.div_def, Rat.div_def]; grind
theorem psum_lt {u v : Nat → Rat} {o : Outs} (ok : ∀ p ∈ o, 1 ≤ p.2) (h : ∀ p ∈ o, u p.1 ≤ v p.1) (hx : ∃ p ∈ o, u p.1 < v p.1) : psum u o < psum v o := by
  induction o with
  | nil => obtain ⟨p, hp, _⟩ := hx; cases hp
  | cons p r ih =>
    simp only [psum]
    have ho : (0 : Rat) < (p.2 : Rat) := natCast_pos (ok p List.mem_cons_self)
    by_cases hp : u p.1 < v p.1
    · have h1 := Rat.mul_lt_mul_of_pos_right hp ho
      have h2 := psum_mono (u := u) (v := v) fun q hq => h q (List.mem_cons_of_mem p hq)
      grind
    · have h1 := Rat.mul_le_mul_of_nonneg_right (h p List.mem_cons_self) (natCast_nn p.2)
      have h2 := ih (fun q hq => ok q (List.mem_cons_of_mem _ hq)) (fun q hq => h q (List.mem_cons_of_mem _ hq)) (by
        obtain ⟨q, hq, e⟩ := hx
        rcases List.mem_cons.mp hq with rfl | hq
        · exact absurd e hp
        · exact ⟨q, hq, e⟩)
      grind
/-- the mean of numbers of at most m is m only if each is -/
theorem mean_max {n : Nat} {u : Nat → Rat} {m : Rat} {o : Outs} (ok : OutsOk n o) (h : ∀ p ∈ o, u p.1 ≤ m) (hm : m ≤ mean u o) : ∀ p ∈ o, u p.1 = m := by
  intro p hp
  apply Classical.byContradiction
  intro hne
  have h1 : psum u o < psum (fun _ => m) o := psum_lt (fun q hq => (ok.2 q hq).2) h ⟨p, hp, by have := h p hp; grind⟩
  rw [psum_const] at h1
  have h2 : m * (wsum o : Rat) ≤ mean u o * (wsum o : Rat) := Rat.mul_le_mul_of_nonneg_right hm (natCast_nn _)
  rw [mean_mul ok] at h2
  grind

/-! ### houses and what picks have -/
structure Hs where
  n : Nat
  acts : List (Nat × Outs)
structure Hs.Ok (h : Hs) : Prop where
  outs : ∀ (a s : Nat) (o : Outs), h.acts[a]? = some (s, o) → OutsOk h.n o ∧ s < h.n
  has : ∀ s, s < h.n → ∃ (a : Nat) (o : Outs), h.acts[a]? = some (s, o)
/-- a is an act of the state s -/
def Hs.At (h : Hs) (s a : Nat) : Prop := ∃ o, h.acts[a]? = some (s, o)
def Hs.out (h : Hs) (a : Nat) : Outs := ((h.acts[a]?).getD (0, [])).2
theorem Hs.At.ok {h : Hs} (k : h.Ok) {s a : Nat} (x : h.At s a) : OutsOk h.n (h.out a) ∧ s < h.n := by
  obtain ⟨o, e⟩ := x
  have := k.outs a s o e
  unfold Hs.out
  rw [e]
  exact this
abbrev Pk := Nat → Option Nat
structure Pk.Ok (h : Hs) (g : List Nat) (p : Pk) : Prop where
  at_ : ∀ s a, p s = some a → h.At s a
  gn : ∀ s ∈ g, p s = none
/-- what had_by tells of picks -/
structure Had (h : Hs) (g : List Nat) (p : Pk) (v : Nat → Rat) (far : Nat → Option Nat) : Prop where
  far0 : ∀ s, far s = some 0 ↔ s ∈ g
  farS : ∀ s k, far s = some (k + 1) → ∃ a, p s = some a ∧ ∃ t ∈ h.out a, far t.1 = some k
  farC : ∀ s a, p s = some a → (∃ t ∈ h.out a, far t.1 ≠ none) → far s ≠ none
  v0 : ∀ s, far s = some 0 → v s = 1
  vS : ∀ s k a, far s = some (k + 1) → p s = some a → v s = mean v (h.out a)
  vN : ∀ s, far s = none → v s = 0
section
variable {h : Hs} {g : List Nat} {p p' : Pk} {v v' : Nat → Rat} {far far' : Nat → Option Nat}
theorem Had.pick (H : Had h g p v far) (hp : p.Ok h g) {s a : Nat} (e : p s = some a) : v s = mean v (h.out a) := by
  cases q : far s with
  | none =>
    rw [H.vN s q]
    have : ∀ t ∈ h.out a, v t.1 = (fun _ => (0 : Rat)) t.1 := fun t ht => by
      apply H.vN
      cases q' : far t.1 with
      | none => rfl
      | some k => exact absurd q (H.farC s a e ⟨t, ht, by rw [q']; simp⟩)
    rw [mean_congr (u := v) (v := fun _ => (0 : Rat)) this]
    unfold mean
    rw [psum_const, Rat.zero_mul, Rat.div_def, Rat.zero_mul]
  | some k =>
    cases k with
    | zero => rw [hp.gn s ((H.far0 s).mp q)] at e; cases e
    | succ k => exact H.vS s k a q e
theorem Had.goal (H : Had h g p v far) {s : Nat} (e : s ∈ g) : v s = 1 := H.v0 s ((H.far0 s).mpr e)
theorem Had.none_ (H : Had h g p v far) {s : Nat} (e : p s = none) (hs : s ∉ g) : v s = 0 := by
  apply H.vN
  cases q : far s with
  | none => rfl
  | some k =>
    cases k with
    | zero => exact absurd ((H.far0 s).mp q) hs
    | succ k => obtain ⟨a, ea, _⟩ := H.farS s k q; rw [e] at ea; cases ea
/-- a lot of states that is not left by the picks and has no goal is not far -/
theorem Had.closed (H : Had h g p v far) {D : Nat → Prop} (hg : ∀ s, D s → s ∉ g) (hc : ∀ s a, D s → p s = some a → ∀ t ∈ h.out a, D t.1) : ∀ s, D s → far s = none := by
  have key : ∀ k s, D s → far s ≠ some k := by
    intro k
    induction k with
    | zero => intro s hs e; exact hg s hs ((H.far0 s).mp e)
    | succ k ih =>
      intro s hs e
      obtain ⟨a, ea, t, ht, et⟩ := H.farS s k e
      exact ih t.1 (hc s a hs ea t ht) et
  intro s hs
  cases q : far s with
  | none => rfl
  | some k => exact absurd q (key k s hs)
/-- the greatest of finitely many numbers -/
theorem max_of (f : Nat → Rat) : ∀ n : Nat, 0 < n → ∃ s, s < n ∧ ∀ t, t < n → f t ≤ f s
  | 0, h => absurd h (Nat.lt_irrefl 0)
  | 1, _ => ⟨0, Nat.one_pos, fun t ht => by have : t = 0 := by omega
                                            subst this; exact Rat.le_refl⟩
  | n + 2, _ => by
    obtain ⟨s, hs, hm⟩ := max_of f (n + 1) (Nat.succ_pos n)
    by_cases c : f s ≤ f (n + 1)
    · refine ⟨n + 1, by omega, fun t ht => ?_⟩
      by_cases e : t = n + 1
      · subst e; exact Rat.le_refl
      · exact Rat.le_trans (hm t (by omega)) c
    · refine ⟨s, by omega, fun t ht => ?_⟩
      by_cases e : t = n + 1
      · subst e; grind
      · exact hm t (by omega)
/-- u is no more than v where u is had by picks, v falls in the mean there -/
theorem had_le (ok : h.Ok) (hp : p.Ok h g) (H : Had h g p v far) {u : Nat → Rat} (u0 : ∀ s, s < h.n → 0 ≤ u s) (ug : ∀ s ∈ g, 1 ≤ u s)
    (um : ∀ s a, p s = some a → mean u (h.out a) ≤ u s) : ∀ s, s < h.n → v s ≤ u s := by
  intro s0 hs0
  apply Classical.byContradiction
  intro hc
  obtain ⟨m, hm, hmax⟩ := max_of (fun s => v s - u s) h.n (by omega)
  have hpos : 0 < v m - u m := by have := hmax s0 hs0; grind
  have cl : ∀ s, (s < h.n ∧ v s - u s = v m - u m) → far s = none := by
    refine H.closed (D := fun s => s < h.n ∧ v s - u s = v m - u m) (fun s hs hg => ?_) fun s a hs ea t ht => ?_
    · have := H.goal hg; have := ug s hg; grind
    · have at_ := hp.at_ s a ea
      obtain ⟨oko, _⟩ := at_.ok ok
      have e1 := H.pick hp ea
      have e2 := um s a ea
      have := mean_max (u := fun s => v s - u s) (m := v m - u m) oko (fun q hq => hmax q.1 (oko.2 q hq).1) (by rw [mean_sub]; grind) t ht
      exact ⟨(oko.2 t ht).1, this⟩
  have := H.vN m (cl m ⟨hm, rfl⟩)
  have := u0 m hm
  grind
theorem Had.nonneg (ok : h.Ok) (hp : p.Ok h g) (H : Had h g p v far) : ∀ s, s < h.n → 0 ≤ v s := by
  intro s0 hs0
  apply Classical.byContradiction
  intro hc
  obtain ⟨m, hm, hmax⟩ := max_of (fun s => - v s) h.n (by omega)
  have hpos : 0 < - v m := by have := hmax s0 hs0; grind
  have cl : ∀ s, (s < h.n ∧ v s = v m) → far s = none := by
    refine H.closed (D := fun s => s < h.n ∧ v s = v m) (fun s hs hg => ?_) fun s a hs ea t ht => ?_
    · have := H.goal hg; grind
    · have at_ := hp.at_ s a ea
      obtain ⟨oko, _⟩ := at_.ok ok
      have e1 := H.pick hp ea
      have e3 : mean (fun s => - v s) (h.out a) = - mean v (h.out a) := by
        have : ∀ q ∈ h.out a, (fun s => - v s) q.1 = (fun s => (fun _ => (0 : Rat)) s - v s) q.1 := fun q _ => by grind
        rw [mean_congr (u := fun s => - v s) (v := fun s => (fun _ => (0 : Rat)) s - v s) this, mean_sub, mean_const 0 oko]; grind
      have := mean_max (u := fun s => - v s) (m := - v m) oko (fun q hq => hmax q.1 (oko.2 q hq).1) (by rw [e3]; grind) t ht
      exact ⟨(oko.2 t ht).1, by grind⟩
  have := H.vN m (cl m ⟨hm, rfl⟩)
  grind
theorem Had.le_one (ok : h.Ok) (hp : p.Ok h g) (H : Had h g p v far) : ∀ s, s < h.n → v s ≤ 1 := by
  refine had_le ok hp H (u := fun _ => 1) (fun _ _ => by grind) (fun _ _ => Rat.le_refl) fun s a e => ?_
  obtain ⟨oko, _⟩ := (hp.at_ s a e).ok ok
  rw [mean_const 1 oko]
  exact Rat.le_refl
/-- picks that are no worse in the mean -/
theorem improve (ok : h.Ok) (hp : p.Ok h g) (hp' : p'.Ok h g) (H : Had h g p v far) (H' : Had h g p' v' far')
    (st : ∀ s, s < h.n → p' s = p s ∨ ∃ a, p' s = some a ∧ v s < mean v (h.out a)) : ∀ s, s < h.n → v s ≤ v' s := by
  intro s0 hs0
  apply Classical.byContradiction
  intro hc
  obtain ⟨m, hm, hmax⟩ := max_of (fun s => v s - v' s) h.n (by omega)
  have hpos : 0 < v m - v' m := by have := hmax s0 hs0; grind
  have n' := H'.nonneg ok hp'
  have D : ∀ s, s < h.n → v s - v' s = v m - v' m → (s ∉ g ∧ ∃ a, p' s = some a ∧ p s = some a ∧ ∀ t ∈ h.out a, t.1 < h.n ∧ v t.1 - v' t.1 = v m - v' m) := by
    intro s hs e
    have hg : s ∉ g := fun hg => by have := H.goal hg; have := H'.goal hg; grind
    refine ⟨hg, ?_⟩
    cases q : p' s with
    | none =>
      have e1 := H'.none_ q hg
      rcases st s hs with z | ⟨a, z, _⟩
      · have e2 := H.none_ (z.symm.trans q) hg; grind
      · rw [q] at z; cases z
    | some a =>
      obtain ⟨oko, _⟩ := (hp'.at_ s a q).ok ok
      have e1 := H'.pick hp' q
      have le : v s ≤ mean v (h.out a) := by
        rcases st s hs with z | ⟨b, z, l⟩
        · have := H.pick hp (z.symm.trans q); grind
        · rw [q] at z; cases z; grind
      have all := mean_max (u := fun s => v s - v' s) (m := v m - v' m) oko (fun q hq => hmax q.1 (oko.2 q hq).1) (by rw [mean_sub]; grind)
      have eq : mean (fun s => v s - v' s) (h.out a) = v m - v' m := by
        have : ∀ q ∈ h.out a, (fun s => v s - v' s) q.1 = (fun _ => v m - v' m) q.1 := fun q hq => all q hq
        rw [mean_congr (u := fun s => v s - v' s) (v := fun _ => v m - v' m) this, mean_const _ oko]
      rw [mean_sub] at eq
      have ps : p s = some a := by
        rcases st s hs with z | ⟨b, z, l⟩
        · exact z.symm.trans q
        · rw [q] at z; cases z; grind
      exact ⟨a, rfl, ps, fun t ht => ⟨(oko.2 t ht).1, all t ht⟩⟩
  have cl := H.closed (D := fun s => s < h.n ∧ v s - v' s = v m - v' m) (fun s hs => (D s hs.1 hs.2).1) (fun s a hs ea t ht => by
    obtain ⟨_, b, _, eb, all⟩ := D s hs.1 hs.2
    rw [ea] at eb; cases eb
    exact all t ht) m ⟨hm, rfl⟩
  have := H.vN m cl
  have := n' m hm
  grind
/-- .. and better somewhere if another act is picked -/
theorem improve_lt (ok : h.Ok) (hp : p.Ok h g) (hp' : p'.Ok h g) (H : Had h g p v far) (H' : Had h g p' v' far')
    (st : ∀ s, s < h.n → p' s = p s ∨ ∃ a, p' s = some a ∧ v s < mean v (h.out a)) {s : Nat} (hs : s < h.n) (ne : p' s ≠ p s) : v s < v' s := by
  have le := improve ok hp hp' H H' st
  rcases st s hs with z | ⟨a, z, l⟩
  · exact absurd z ne
  · obtain ⟨oko, _⟩ := (hp'.at_ s a z).ok ok
    have e1 := H'.pick hp' z
    have e2 := mean_mono (u := v) (v := v') oko fun q hq => le q.1 (oko.2 q hq).1
    grind
theorem had_unique (ok : h.Ok) (hp : p.Ok h g) (H : Had h g p v far) (H' : Had h g p v' far') : ∀ s, s < h.n → v s = v' s := by
  intro s hs
  have a := improve ok hp hp H H' (fun _ _ => .inl rfl) s hs
  have b := improve ok hp hp H' H (fun _ _ => .inl rfl) s hs
  grind
end
end LC
set_option Elab.async false
set_option linter.all false
set_option maxRecDepth 100000
set_option maxHeartbeats 4000000
namespace Lc
open PySem PySem.Spec PyProof.Rows L2 LcR
open LC (Sz psum wsum mean)
/-! ### targets and means -/
def prs (d : ActD) : LC.Outs := d.2.map fun o => (o.target, o.odds)
def PairV (H : Hp) (u : V) (z : Nat × Nat) : Prop := ∃ a, u = .ref a ∧ H a = some (.tup [.int (z.1 : Int), .int (z.2 : Int)])
theorem PairV.n {H H' : Hp} {u : V} {z : Nat × Nat} (h : PairV H u z) (s : SameN H H') : PairV H' u z := by
  obtain ⟨a, rfl, e⟩ := h
  exact ⟨a, rfl, s _ _ e trivial⟩
def NumsL (K : PySem.W.Frag) (H : Hp) (v : V) (q : List Rat) : Prop := ∃ a us, v = .ref a ∧ H a = some (.lst us) ∧ All2 (IsR K H) us q
theorem NumsL.s {K : PySem.W.Frag} {H H' : Hp} {v : V} {q : List Rat} (h : NumsL K H v q) (s : Same H H') : NumsL K H' v q := by
  obtain ⟨a, us, rfl, e, al⟩ := h
  exact ⟨a, us, rfl, s _ _ e, al.imp fun x y z => z.n (same_n s)⟩
/-- numbers in a list or a tuple -/
def NumsS (K : PySem.W.Frag) (H : Hp) (v : V) (q : List Rat) : Prop := ∃ a us, v = .ref a ∧ (H a = some (.lst us) ∨ H a = some (.tup us)) ∧ All2 (IsR K H) us q
theorem NumsS.s {K : PySem.W.Frag} {H H' : Hp} {v : V} {q : List Rat} (h : NumsS K H v q) (s : Same H H') : NumsS K H' v q := by
  obtain ⟨a, us, rfl, e, al⟩ := h
  exact ⟨a, us, rfl, e.imp (s _ _) (s _ _), al.imp fun x y z => z.n (same_n s)⟩
theorem NumsL.toS {K : PySem.W.Frag} {H : Hp} {v : V} {q : List Rat} (h : NumsL K H v q) : NumsS K H v q := by
  obtain ⟨a, us, rfl, e, al⟩ := h
  exact ⟨a, us, rfl, .inl e, al⟩
theorem mR1 {K : PySem.W.Frag} {H : Hp} {R : V → Hp → Prop} {E : XK} {i : Int} {x dx : Addr} (hx : H x = none) (hdx : H dx = none) (ne : dx ≠ x) (k : ∀ H', Same H H' → IsR K H' (.ref x) (i : Rat) → R .non H') :
    sp_Ratio_init K (.ref x :: ([.int i] ++ [.int 1])) (upd (upd H dx (.own x)) x (.ins (CRatio K) dx [])) R E := by
  refine ⟨x, dx, i, 1, 0, rfl, by decide, by decide, by decide, upd_same, fun q hq => ?_⟩
  rw [upd_upd]
  refine k _ (same_made hx hdx) ⟨x, dx, rfl, ?_⟩
  rw [upd_same, hq]
  have e : Rat.divInt i 1 = (i : Rat) := by
    rw [Rat.divInt_eq_div, show ((1 : Int) : Rat) = 1 from rfl]; grind
  rw [e]
section
variable {P : Program} {w : World} {K : PySem.W.Frag} {mg : Str → Option Value} {base : Heap}
def sp_need_goal (K : PySem.W.Frag) : Sp := fun vs H Q _ => ∃ v n l u g, vs = [v, u] ∧ HouseV K H v n l ∧ GoalV K H u g ∧ Asc g ∧ g.length ≤ 200 ∧ (∀ s ∈ g, s < n) ∧ ∀ H', Same H H' → Q .non H'
theorem c_need_goal (T : Tx K mg) : C8.Cal P w K mg base 3 "need_goal" (sp_need_goal K) [] := by
  obtain ⟨fd, F⟩ := T.f_need_goal
  refine calD F T.g_need_goal sc_need_goal (fun _ _ _ _ _ _ us hl => match us, hl with | [_, _], _ => rfl) (fun vs H Q E h => ?_) (fun cdv A outer s H vs Q E hr h => ?_)
  · obtain ⟨_, _, _, _, _, rfl, _⟩ := h; rfl
  obtain ⟨v, n, l, u, g, rfl, hv, hg, asc, gl, gn, k⟩ := h
  refine ⟨_, (pss_cons (ps_expr (C8.pe_c (c_need_house T) hr (by decide) (by rfl) (pa_cons (pv 0) pa_nil)))
      (pss_one (ps_if (PW.pt (pw_or (pt_not (pt_val (C8.pe_c (c_is_lot T) hr (by decide) (by rfl) (pa_cons (pv 1) pa_nil)))) (pw_or1 (pt_not (pt_val (pe_callB (cr_all rfl) (by rfl) T.b_all (by decide +kernel) (pa_cons (pe_lc (own := [("state", 2)]) (g := gName 2) (te := (tOp (rI0 fun i j => .bl (decide (i < j))) (tVar 2) (tFld K (tVar 0) "states"))) (by rfl) sc_need_goal.nd (pi_tup (pv 1)) (blkOk_by (own := [("state", 2)]) (N := N_need_goal) (sc := defScope s_need_goal) (by decide +kernel)) (fun _ _ _ _ _ => (pg_name (i := 2) sc_need_goal.nd rfl (Or.inl rfl))) (fun _ _ _ _ _ => pts_nil) (fun _ _ _ _ _ => (pe_cmpR op_lt (pv 2) (pe_fld (pv 0) rfl) (nomark _)))) pa_nil))))))) (pss_one ps_never) pss_nil))), ?_⟩
  refine ⟨_, rfl, v, n, l, rfl, hv, ?_⟩
  refine ⟨_, rfl, u, g, rfl, hg, asc, gl, fun H1 s1 => ⟨true, rfl, iteF ?_⟩⟩
  obtain ⟨x, dx, m, va, vs, lk, vo, rfl, e, h1, h2, h3⟩ := hv
  obtain ⟨a, rfl, eg⟩ := hg
  have S1 : SqT K H a (g.map fun n : Nat => V.int (n : Int)) := .inl (.inl eg)
  have gl2 : (g.map fun n : Nat => V.int (n : Int)).length = g.length := List.length_map _
  refine ⟨_, rfl, a, rfl, ⟨_, same_seqT s1 S1⟩, fun D hD => ?_⟩
  refine lcm walk_tup hD (Nat.le_trans (by omega : (g.map fun n : Nat => V.int (n : Int)).length ≤ 200) (by decide)) (fun _ => true) (fun _ y _ => y = V.bl true) (fun _ _ _ _ _ h => h) (fun H' s => same_seqT (s1.trans s) S1) (fun i z H5 H' kN kY hi s y kn ky => ?_) (fun H' ys s e kp => ?_)
  · obtain ⟨rfl, hx⟩ := y
    rw [List.getElem?_map] at hx
    obtain ⟨t, ht, rfl⟩ := Option.map_eq_some_iff.mp hx
    refine ⟨rfl, yes ⟨_, rfl, _, rfl, x, _, dx, _, _, rfl, (s1.trans s) _ _ e, T.cl_House, T.na_House_states, rfl, _, _, rfl, rfl, ?_⟩⟩
    show kY (.bl (decide ((t : Int) < (n : Int)))) _
    have := gn t (List.mem_of_getElem? ht)
    rw [decide_eq_true (by omega : (t : Int) < (n : Int))]
    exact ky _ _ (Same.refl _) rfl rfl
  · obtain ⟨l1, l2⟩ := kp.all
    have e3 := map_bl_all (H := H') l1 l2
    refine ⟨D, List.replicate _ true, rfl, .inl (.inl (by rw [← e3]; exact e)), ?_⟩
    rw [all_true]
    exact ⟨true, rfl, iteF (k _ (s1.trans s))⟩
def sp_targets_of (K : PySem.W.Frag) : Sp := fun vs H Q _ => ∃ (v : V) (n : Nat) (l : List ActD) (i : Nat) (d : ActD), vs = [v, .int (i : Int)] ∧ HouseV K H v n l ∧ OkActs n l ∧ l[i]? = some d ∧
  ∀ H' p us, Same H H' → H' p = some (.lst us) → All2 (PairV H') us (prs d) → Q (.ref p) H'
theorem c_targets_of (T : Tx K mg) : C8.Cal P w K mg base 5 "targets_of" (sp_targets_of K) [] := by
  obtain ⟨fd, F⟩ := T.f_targets_of
  refine calD F T.g_targets_of sc_targets_of (fun _ _ _ _ _ _ us hl => match us, hl with | [_, _], _ => rfl) (fun vs H Q E h => ?_) (fun cdv A outer s H vs Q E hr h => ?_)
  · obtain ⟨_, _, _, _, _, rfl, _⟩ := h; rfl
  obtain ⟨v, n, l, i, d, rfl, hv, ok, hd, k⟩ := h
  refine ⟨_, (pss_one (ps_ret (pe_lc (own := [("at", 2)]) (g := gName 2) (te := (tTup (tCons (tFld K (tOp (rIxT K) (tFld K (tVar 0) "steps") (tVar 2)) "target") (tCons (tFld K (tOp (rIxT K) (tFld K (tVar 0) "steps") (tVar 2)) "odds") tNil)))) (by rfl) sc_targets_of.nd (pi_tup (C8.pe_mt (m_steps_of T) hr (by decide) (pv 0) (pa_cons (pv 1) pa_nil))) (blkOk_by (own := [("at", 2)]) (N := N_targets_of) (sc := defScope s_targets_of) (by decide +kernel)) (fun _ _ _ _ _ => (pg_name (i := 2) sc_targets_of.nd rfl (Or.inl rfl))) (fun _ _ _ _ _ => pts_nil) (fun _ _ _ _ _ => (pe_tup (pa_cons (pe_fld (pe_ix ix_tup (pe_fld (pv 0) rfl) (pv 2) (fun _ _ => rfl)) rfl) (pa_cons (pe_fld (pe_ix ix_tup (pe_fld (pv 0) rfl) (pv 2) (fun _ _ => rfl)) rfl) pa_nil))))))), ?_⟩
  obtain ⟨x, dx, m, va, vs, lk, vo, rfl, e, h1, ⟨a, us, rfl, ea, al⟩, h3⟩ := id hv
  have okd := ok.acts d (List.mem_of_getElem? hd)
  refine ⟨_, rfl, x, dx, _, rfl, e, rfl, _, rfl, _, n, l, i, d, rfl, hv, hd, fun p hp => ?_⟩
  have S1 : SqT K H p (rgV (off l i) (off l i + d.2.length)) := .inl (.inl hp)
  have hl : (rgV (off l i : Int) ((off l i : Int) + (d.2.length : Int))).length = d.2.length := by rw [rgV_length]; omega
  have dl := okd.len
  refine ⟨p, rfl, ⟨_, S1⟩, fun D hD => ?_⟩
  refine lcm walk_tup hD (Nat.le_trans (by omega : (rgV (off l i : Int) ((off l i : Int) + (d.2.length : Int))).length ≤ 4) (by decide)) (fun _ => true) (fun j y H' => ∃ o, d.2[j]? = some o ∧ PairV H' y (o.target, o.odds)) (fun j y H5 H6 s h => ?_) (fun H' s => same_seqT s S1) (fun j z H5 H' kN kY hj s y kn ky => ?_) (fun H' ys s e kp => ?_)
  · obtain ⟨o, ho, hp⟩ := h
    exact ⟨o, ho, hp.n s⟩
  · obtain ⟨rfl, hx⟩ := y
    have hj2 : j < d.2.length := by omega
    have ez : z = V.int ((off l i + j : Nat) : Int) := by
      unfold rgV at hx
      rw [List.getElem?_map, List.getElem?_range (by omega)] at hx
      cases hx
      simp
    subst ez
    have ho := List.getElem?_eq_getElem hj2
    obtain ⟨u, hu, y, dy, pw, rfl, ey⟩ := al.get (flat_get hd ho)
    have ix : atI us ((off l i + j : Nat) : Int) = some (V.ref y) := atI_nat hu
    refine ⟨rfl, yes ?_⟩
    refine ⟨_, rfl, x, _, dx, _, _, rfl, s _ _ e, T.cl_House, T.na_House_steps, rfl, _, rfl, a, us, _, _, rfl, rfl, .inl (.inl (s _ _ ea)), ix, ?_⟩
    refine ⟨y, _, dy, _, _, rfl, s _ _ ey, T.cl_Step, T.na_Step_target, rfl, ?_⟩
    refine ⟨_, rfl, x, _, dx, _, _, rfl, s _ _ e, T.cl_House, T.na_House_steps, rfl, _, rfl, a, us, _, _, rfl, rfl, .inl (.inl (s _ _ ea)), ix, ?_⟩
    refine ⟨y, _, dy, _, _, rfl, s _ _ ey, T.cl_Step, T.na_Step_odds, rfl, by show 2 ≤ sizeLine; decide, fun q hq => ?_⟩
    exact ky _ _ (same_upd hq) rfl ⟨_, ho, q, rfl, upd_same⟩
  · obtain ⟨l1, l2⟩ := kp.all
    refine k H' D ys s e ⟨by rw [l1, hl]; simp [prs], fun j y z hy hz => ?_⟩
    obtain ⟨o, ho, hp⟩ := l2 j y hy
    unfold prs at hz
    rw [List.getElem?_map, ho] at hz
    cases hz
    exact hp
/-- what the sums of a mean ask -/
structure MeanOk (v : Nat → Rat) (o : LC.Outs) : Prop where
  st : ∀ (i : Nat) p, o[i]? = some p → ∃ t b t' b', Sz t b (psum v (o.take i)) ∧ Sz t' b' (v p.1) ∧ t + b + t' + b' ≤ 30000 ∧ b + b' < 8990
  fin : ∃ t b, Sz t b (psum v o) ∧ t + b ≤ 30000 ∧ b < 8990
def numN (q : List Rat) (i : Nat) : Rat := (q[i]?).getD 0
theorem psum_snoc (v : Nat → Rat) (o : LC.Outs) (p : Nat × Nat) : psum v (o ++ [p]) = psum v o + v p.1 * (p.2 : Rat) := by
  rw [LC.psum_append]
  simp only [psum, Rat.add_zero]
theorem wsum_snoc (o : LC.Outs) (p : Nat × Nat) : wsum (o ++ [p]) = wsum o + p.2 := by
  rw [LC.wsum_append]
  simp only [wsum, Nat.add_zero]
def sp_mean_at (K : PySem.W.Frag) : Sp := fun vs H Q _ => ∃ (v : V) (n : Nat) (l : List ActD) (i : Nat) (d : ActD) (u : V) (q : List Rat), vs = [v, .int (i : Int), u] ∧ HouseV K H v n l ∧ OkActs n l ∧ l[i]? = some d ∧ NumsS K H u q ∧ q.length = n ∧ MeanOk (numN q) (prs d) ∧
  ∀ H' y, Same H H' → IsR K H' y (mean (numN q) (prs d)) → Q y H'
theorem wsum_le {n : Nat} {d : ActD} (h : OkAct n d) : ∀ i, wsum ((prs d).take i) ≤ 10 * i := by
  intro i
  induction i with
  | zero => simp [wsum]
  | succ i ih =>
    by_cases hi : i < (prs d).length
    · rw [List.take_add_one, List.getElem?_eq_getElem hi]
      show wsum (List.take i (prs d) ++ [(prs d)[i]]) ≤ _
      rw [wsum_snoc]
      have hm : (prs d)[i] ∈ prs d := List.getElem_mem hi
      obtain ⟨o, ho, e⟩ := List.mem_map.mp hm
      have := (h.outs o ho).o2
      have e2 : (prs d)[i].2 = o.odds := by rw [← e]
      omega
    · rw [List.take_of_length_le (by omega)] at ih ⊢
      omega
theorem c_mean_at (T : Tx K mg) : C8.Cal P w K mg base 6 "mean_at" (sp_mean_at K) [] := by
  obtain ⟨fd, F⟩ := T.f_mean_at
  refine calD F T.g_mean_at sc_mean_at (fun _ _ _ _ _ _ us hl => match us, hl with | [_, _, _], _ => rfl) (fun vs H Q E h => ?_) (fun cdv A outer s H vs Q E hr h => ?_)
  · obtain ⟨_, _, _, _, _, _, _, rfl, _⟩ := h; rfl
  obtain ⟨v, n, l, i, d, u, q, rfl, hv, ok, hd, hu, ql, mo, k⟩ := h
  have okd := ok.acts d (List.mem_of_getElem? hd)
  refine ⟨_, (pss_cons (ps_par (i := 3) (j := 4) (by rfl) sc_mean_at.nd rfl rfl (by decide) rfl rfl (pa_cons (C8.pe_mk (c_Ratio_1 T) hr (by decide) (by rfl) (pa_cons pe_int pa_nil)) (pa_cons pe_int pa_nil)) (by rfl))
      (pss_cons (ps_for PassesOwn.never rfl (pi_list (C8.pe_c (c_targets_of T) hr (by decide) (by rfl) (pa_cons (pv 0) (pa_cons (pv 1) pa_nil)))) (pg_tup rfl (pgs_cons (pg_name (i := 5) sc_mean_at.nd rfl (Or.inl rfl)) (pgs_cons (pg_name (i := 6) sc_mean_at.nd rfl (Or.inl rfl)) pgs_nil)))
      (pss_cons (ps_set (i := 3) sc_mean_at.nd rfl (Or.inl rfl) (pe_op (op_Radd T hr (by decide)) (pv 3) (pe_op (op_Rmul T hr (by decide)) (pe_ix ix_seq (pv 2) (pv 5) (fun _ _ => rfl)) (pv 6))))
      (pss_one (ps_set (i := 4) sc_mean_at.nd rfl (Or.inl rfl) (pe_op op_add (pv 4) (pv 6))))))
      (pss_one (ps_ret (C8.pe_mt (m_over T) hr (by decide) (pv 3) (pa_cons (pv 4) pa_nil)))))), ?_⟩
  refine fun x dx hx hdx ne => mR1 hx hdx ne fun H1 s1 hz => ⟨rfl, ?_⟩
  have hz0 : IsR K H1 (.ref x) 0 := hz
  refine ⟨_, _, rfl, ?_⟩
  refine ⟨_, rfl, _, rfl, _, n, l, i, d, rfl, hv.n (same_n s1), ok, hd, fun H2 p us s2 ep ap => ?_⟩
  have pl : (prs d).length = d.2.length := List.length_map _
  have S2 : SqL K H2 p us := .inl (.inl ep)
  refine ⟨p, rfl, ⟨us, S2⟩, ?_⟩
  have s12 := s1.trans s2
  refine for_it walk_list (fun j σ H3 => (∃ f x y, σ = [some v, some (.int (i : Nat)), some u, some f, some (.int (wsum ((prs d).take j) : Nat)), x, y] ∧ IsR K H3 f (psum (numN q) ((prs d).take j))) ∧ Same H2 H3)
    ⟨⟨.ref x, none, none, rfl, hz0.n (same_n s2)⟩, Same.refl _⟩ (fun j σ H3 _ p => .inl (.inl (p.2 _ _ ep))) ?_ ?_
  · rintro j x σ H3 H4 hj ⟨⟨f, z1, z2, rfl, hf⟩, s3⟩ ⟨rfl, hx⟩
    obtain ⟨⟨t, od⟩, hp, a, rfl, ea⟩ := ap.get' hx
    have s4 := s12.trans s3
    obtain ⟨b, vs, rfl, eb, ab⟩ := hu.s s4
    have okt : t < n ∧ od ≤ 10 := by
      obtain ⟨o, ho, e⟩ := List.mem_map.mp (List.mem_of_getElem? hp)
      have := okd.outs o ho
      cases e
      exact ⟨this.t, this.o2⟩
    obtain ⟨q1, hq1⟩ : ∃ q1, q[t]? = some q1 := ⟨_, List.getElem?_eq_getElem (by omega)⟩
    obtain ⟨y, hy, ry⟩ := ab.get hq1
    have eq1 : numN q t = q1 := by unfold numN; rw [hq1]; rfl
    obtain ⟨T1, B1, T2, B2, h1, h2, h3, h4⟩ := mo.st j _ hp
    rw [show (t, od).fst = t from rfl, eq1] at h2
    refine ⟨a, _, rfl, .inl (.inl (s3 _ _ ea)), rfl, _, _, rfl, _, _, rfl, rfl, ?_⟩
    have tail : ∀ (Q' : VK), Q' y H4 → rIx K (.ref b) (.int ((t : Nat) : Int)) H4 Q' := fun Q' hQ => by
      rcases eb with eb | eb
      · exact .inl ⟨b, vs, _, y, rfl, rfl, .inl (.inl eb), atI_nat hy, hQ⟩
      · exact .inr (.inl ⟨b, vs, _, y, rfl, rfl, .inl (.inl eb), atI_nat hy, hQ⟩)
    refine ⟨_, rfl, _, rfl, _, rfl, tail _ ⟨_, rfl, ?_⟩⟩
    have od4 : Sz 4 0 ((od : Int) : Rat) := LC.sz_int (by show od ≤ 2 ^ 4; omega)
    refine ⟨q1, (od : Int), T2, B2, 4, 0, ry, .inr ⟨_, rfl, rfl⟩, h2, od4, by omega, by omega, fun H5 m s5 hm => ?_⟩
    refine ⟨_, _, T1, B1, T2 + 4, B2 + 0, hf.n (same_n s5), .inl hm, h1, h2.mul od4, by omega, by omega, fun H6 f' s6 hf' => ?_⟩
    refine ⟨_, rfl, _, rfl, _, _, rfl, rfl, ?_⟩
    have tk : (prs d).take (j + 1) = (prs d).take j ++ [(t, od)] := by rw [List.take_add_one, hp]; rfl
    refine ⟨⟨f', some (.int (t : Int)), some (.int (od : Int)), ?_, ?_⟩, s3.trans (s5.trans s6)⟩
    · rw [tk, wsum_snoc, Int.natCast_add]
      rfl
    · rw [tk, psum_snoc, show (t, od).fst = t from rfl, eq1]
      exact hf'
  · rintro σ H3 ⟨⟨f, z1, z2, rfl, hf⟩, s3⟩
    rw [ap.1, List.take_length] at *
    obtain ⟨T1, B1, h1, h2, h3⟩ := mo.fin
    have wl := wsum_le okd (prs d).length
    rw [List.take_length] at wl
    have dl := okd.len
    have wp : 0 < wsum (prs d) := by
      refine LC.wsum_pos (n := n) ⟨fun e => okd.ne (List.map_eq_nil_iff.mp e), fun p hp => ?_⟩
      obtain ⟨o, ho, e⟩ := List.mem_map.mp hp
      have := okd.outs o ho
      cases e
      exact ⟨this.t, this.o1⟩
    obtain ⟨x1, dx1, rfl, ex1⟩ := id hf
    refine ⟨_, rfl, x1, dx1, _, rfl, ex1, rfl, _, rfl, _, _, _, ((wsum (prs d) : Nat) : Int), T1, B1, 6, 0, rfl, hf, .inr ⟨_, rfl, rfl⟩, h1, LC.sz_int (by show wsum (prs d) ≤ 2 ^ 6; omega), by omega, by omega, ?_, fun H4 y s4 hy => ?_⟩
    · intro e
      have e2 : ((wsum (prs d) : Nat) : Int) = 0 := by exact_mod_cast e
      omega
    · exact k H4 y (s12.trans (s3.trans s4)) hy
end
end Lc
set_option Elab.async false
set_option linter.all false
set_option maxRecDepth 100000
set_option maxHeartbeats 4000000
namespace LcD
open PySem PySem.Spec PyProof.Rows L2 LcR
section
variable {X : Cx}
/-- sorted(d), a dict whose keys are ints -/
def rSortedDK : List V → Hp → VK → Prop := fun vs H Q => ∃ (a : Addr) (kvs : List (L2.Key × V)) (ns : List Int), vs = [V.ref a] ∧ Rd H a (.dK kvs) ∧ (kvs.map fun kv => kV kv.1) = ns.map V.int ∧
  ∀ (ns' : List Int) (p : Addr), ns'.Perm ns → ns'.Pairwise (· ≤ ·) → H p = none → Q (.ref p) (upd H p (.lst (ns'.map V.int)))
/-- collect, told with where the items were gathered -/
theorem collect_new {prog : Program} {w : World} {A : Around} {E : Value → Shared → Prop} {s : Shared} {T : String} {r d : Addr} {n : Nat} {P : Nat → Value → Prop} {OK : Heap → Prop} {R : List Value → Shared → Prop} (Ks : PySem.W.KdlSrc prog w T r d n P OK) (hh : A.handled = none) (hok : OK s.heap) (hn : n ≤ sizeLine)
    (h : ∀ (h' : Heap) (tk : Nat) (acc : Array Value), s.heap.objs.size < h'.objs.size → (∀ b o, s.heap.get? b = some o → h'.get? b = some o) → ItemsOf P acc n → R acc.toList { s with heap := h', toks := tk }) :
    wpAny (model prog w) A (collect (.ref r)) R E s := by
  have big := Ks.there _ hok
  have fresh : (s.heap.push { cls := .type "list", data := .seq ([] : List Value).toArray }).get? s.heap.objs.size = some { cls := .type "list", data := .seq #[] } := Heap.get?_push_size _ rfl
  let G : Result → Shared → Prop := fun q s' => ∃ (h' : Heap) (tk : Nat) (acc : Array Value) (c : Nat), q = .ok (.ret (.ref s.heap.objs.size)) ∧ s' = { s with heap := h', toks := tk } ∧
    (∀ b o, s.heap.get? b = some o → h'.get? b = some o) ∧ h'.get? s.heap.objs.size = some { cls := .type "list", dict := none, data := .seq acc c, slots := #[] } ∧ ItemsOf P acc n
  have grow := PySem.W.kdl_extend (A := A) (s := { s with heap := s.heap.push { cls := .type "list", data := .seq ([] : List Value).toArray } }) (R := G)
    Ks hh (Ks.keep _ _ hok fun b _ o e => Heap.get?_push_of_some _ e) s.heap.objs.size (Nat.ne_of_gt big.1) (Nat.ne_of_gt big.2) (.ref s.heap.objs.size) 0 fresh
    (fun h' tk acc c hk hS hI => ⟨h', tk, acc, c, rfl, rfl, fun b o e => hk b o (Nat.ne_of_lt (Heap.lt_size e)) (Heap.get?_push_of_some _ e), hS, hI⟩) hn
  unfold collect
  refine wpAny_bind (wpAny_runValue (codeAny_builtin entry_proto_collect' ?_))
  rw [Around.under_plainId PySem.F.plain_proto_collect _]
  show wpAny _ A.in1 (newList [] >>= fun l => again (.builtin "list.__iadd__" ⟨[l, .ref r], []⟩)) _ _ s
  refine wpAny_bind (wpAny_newObj_type (wpAny_pure ⟨plainId_quiet PySem.F.plain_list_iadd _, codeAny_builtin entry_list_iadd' ?_⟩))
  rw [Around.under_plainId PySem.F.plain_list_iadd _]
  refine wpAny_mono grow (fun fin s' x => ?_) fun e s' ⟨_, _, _, _, z, _⟩ => nomatch z
  cases fin with
  | done f =>
    obtain ⟨h', tk, acc, c, z, rfl, hk, hS, hI⟩ := x
    cases z
    show wpAny _ A (load s.heap.objs.size >>= _) _ _ _
    exact wpAny_bind (wpAny_load hS (wpAny_pure (h h' tk acc (Heap.lt_size hS) hk hI)))
  | again c₁ =>
    refine ⟨x.1, codeAny_mono x.2 fun q s₂ y => ?_⟩
    obtain ⟨h', tk, acc, c, rfl, rfl, hk, hS, hI⟩ := y
    show wpAny _ A (load s.heap.objs.size >>= _) _ _ _
    exact wpAny_bind (wpAny_load hS (wpAny_pure (h h' tk acc (Heap.lt_size hS) hk hI)))
theorem cr_sortedDK (hc : X.calm = true) : CallR X (.builtin "sorted") rSortedDK := by
  intro pins s σ H vs us Q I r h
  obtain ⟨a, kvs, ns, rfl, hrd, hns, q⟩ := h
  rw [Vals.ref1 r]
  obtain ⟨z, lo, ps, rk, hd⟩ := (show ObjOk X.prog X.w H s.heap a (.dK kvs) from hrd.ok I.hok)
  obtain ⟨ep, hat⟩ := hd.dictAt
  have hl : kvs.length = ps.length := Paired.length rk
  refine Calls.call_function_entry kind_sorted plain_sorted entry_sorted (args_sorted1 _) ?_
  unfold Builtin.«sorted»
  refine wpAny_bind (m := checkCount "sorted" 1 1 _) (wpAny_pure ?_)
  refine wpAny_bind (collect_new (A := X.A.in1) (PySem.W.kdl_dict (knd := mixKind X.prog X.w) (kvs := ps) (ep := ep) lo) (I.ok.hd hc) hat (by rw [← hl]; exact z) fun h' tk acc hgt hk hacc => ?_)
  have hal : acc.toList.length = ps.length := by rw [Array.length_toList]; exact hacc.1
  have hvals : Vals (ns.map V.int) acc.toList := by
    rw [← hns]
    refine vals_of_at (by rw [List.length_map, hal, hl]) fun j x w h1 h2 => ?_
    obtain ⟨k, y, hky, hi⟩ := hacc.2 j w (by rw [← Array.getElem?_toList]; exact h2)
    have e1 : (kvs.map (·.1))[j]? = some k := by
      rw [KV.keys rk, List.getElem?_map, hky] <;> rfl
    have e2 : (kvs.map fun kv => kV kv.1)[j]? = some (kV k) := by
      have e3 : (kvs.map fun kv => kV kv.1) = (kvs.map (·.1)).map kV := by rw [List.map_map] <;> rfl
      rw [e3, List.getElem?_map, e1] <;> rfl
    rw [e2] at h1
    cases h1
    exact keyIs_rel hi
  have hz : acc.toList.length ≤ sizeLine := by rw [hal, ← hl]; exact z
  refine wpAny_bind (wpAny_newList ?_ hz)
  have hoL : (h'.push (seqObj "list" acc.toList.toArray 0)).get? h'.objs.size = some (seqObj "list" acc.toList.toArray 0) := Heap.get?_push_size _ rfl
  have hi := hvals.ints
  refine wpAny_bind (wpAny_holding (wpAny_call_entry slot_list_sort ⟨_, hoL, rfl⟩ entry_list_sort (SrtO.list_sort_ord SrtO.swo_int hoL hz (fun h2 => SrtO.ints_sortable hi h2) fun out h1 h2 => ⟨_, rfl, ?_⟩) (args_list_sort _)))
  obtain ⟨k1, k2, k3⟩ := SrtO.ints_out hi h1 h2
  obtain ⟨c, hc2⟩ := sortedHeap_at (vs := acc.toList) (out := out.toArray) hoL
  have hle : s.heap.objs.size ≤ h'.objs.size := Nat.le_of_lt hgt
  refine wpAny_pure ⟨_, rfl, .ref h'.objs.size, upd H h'.objs.size (.lst ((out.map SrtO.iv).map V.int)), I.laid (t' := tk) (fun b u e => ?_) hle ⟨?_, out, c, vals_of_ints k1, hc2⟩, rfl, q _ _ k2 k3 (I.hok.fresh hle)⟩
  · have q := hk b u e
    have hlt := Heap.lt_size q
    show (sortedHeap (h'.push (seqObj "list" acc.toList.toArray 0)) h'.objs.size acc.toList out.toArray).get? b = some u
    rw [sortedHeap_old (Nat.ne_of_lt hlt) (by rw [size_push']; exact Nat.lt_succ_of_lt hlt)]
    exact Heap.get?_push_of_some _ q
  · rw [List.length_map, k2.length_eq]
    rw [hvals.length.symm.trans (by rw [List.length_map])] at hz
    exact hz
/-- dict(zip(xs, ys)) of two lists, the keys ints or texts -/
def tDictZip (K : PySem.W.Frag) (ta : TA) : TE := fun σ H Q => ta σ H fun vs H1 => ∃ (a b : Addr) (kvs : List (L2.Key × V)), vs = [.ref a, .ref b] ∧ SqL K H1 a (kvs.map fun kv => kV kv.1) ∧ SqL K H1 b (kvs.map (·.2)) ∧ ∀ p, H1 p = none → Q (.ref p) (upd H1 p (.dK (mergeK [] kvs)))
theorem zipKV {X : Cx} : ∀ {kvs : List (L2.Key × V)} {us ws : List Value}, Vals (kvs.map fun kv => kV kv.1) us → Vals (kvs.map (·.2)) ws → ∃ prs : List (L2.Key × Value), KV kvs prs ∧ prs.length = us.length ∧ us.length = ws.length ∧ ∀ (i : Nat) k v, us[i]? = some k → ws[i]? = some v → ∃ key, prs[i]? = some (key, v) ∧ (mixKind X.prog X.w).is key k = true
  | [], [], [], _, _ => ⟨[], .nil, rfl, rfl, fun i k v h _ => by simp at h⟩
  | kv :: kvs, _ :: _, _ :: _, .cons r1 t1, .cons r2 t2 => by
    obtain ⟨prs, h1, h2, h3, h4⟩ := zipKV (X := X) t1 t2
    refine ⟨(kv.1, _) :: prs, .cons ⟨rfl, r2⟩ h1, by rw [List.length_cons, List.length_cons, h2], by rw [List.length_cons, List.length_cons, h3], fun i k v hk hv => ?_⟩
    cases i with
    | zero =>
      cases hk
      cases hv
      exact ⟨kv.1, rfl, kV_is r1⟩
    | succ j => exact h4 j k v (by simpa using hk) (by simpa using hv)
variable {e e2 : Expr} {ta : TA} {p p2 pos pos2 : Pos}
theorem pe_dictZip (hc : X.calm = true) (hgd : Gl X "dict") (hmd : X.mg "dict" = none) (hgz : Gl X "zip") (hmz : X.mg "zip" = none) (ha : PA X [e, e2] ta)
    (hs : starEach [e, e2] X.env = (false, eval e X.env) :: starEach [e2] X.env := by rfl) (hpl : (backTo pos2 (starEach [e2] X.env)).any (·.1) = false := by rfl)
    (na : starEach [Expr.Call (.Name "zip" p2) [e, e2] [] pos2] X.env = (false, eval (.Call (.Name "zip" p2) [e, e2] [] pos2) X.env) :: starEach [] X.env := by rfl) :
    PE X (.Call (.Name "dict" p) [.Call (.Name "zip" p2) [e, e2] [] pos2] [] pos) (tDictZip X.K ta) := by
  refine ⟨fun pins s σ H Q I h => ?_⟩
  refine Call_ (ld_blt I hgd hmd PyProof.Rows.boot_dict (PyProof.Rows.callWith_type1 (args_cons ?_ na) na))
  refine Call_ (ld_blt I hgz hmz PyProof.Rows.boot_zip (PyProof.Rows.callWith_type1 (thn (ha.run pos2 pins s σ H _ I h) fun us s1 ⟨vs, H1, I1, r1, q1⟩ => ?_) hs hpl))
  obtain ⟨a, b, kvs, ex, hqx, hqy, q⟩ := q1
  subst ex
  cases r1 with
  | cons r rr =>
    cases rr with
    | cons r' rr =>
      cases rr
      cases r
      cases r'
      obtain ⟨its, rv, p1, hz1⟩ := I1.list hqx
      obtain ⟨its2, rv2, p2, hz2⟩ := I1.list hqy
      obtain ⟨prs, k1, k2, k3, k4⟩ := zipKV (X := X) rv rv2
      have hsz : min its.toArray.size its2.toArray.size = prs.length := by rw [List.size_toArray, List.size_toArray, k2, k3, Nat.min_self]
      have hz : prs.length ≤ sizeLine := by rw [k2, ← rv.length]; exact hz1
      refine call_zip_2 p1.isList p2.isList fun h' hz' hTI hTO h1 h2 hs5 hk => args_nil ?_
      have la : a < s1.heap.objs.size := p1.lt
      have lb : b < s1.heap.objs.size := p2.lt
      refine PySem.call_dict_pairs (knd := mixKind X.prog X.w) (kvs := prs) (PairArg.zip _ _ _ _ _ a b (PySem.W.ktu_apart s1.heap.objs.size a b la lb) its.toArray its2.toArray) (I1.ok.hd hc)
        ⟨hz', hTI, ⟨_, _, hTO⟩, h1, h2, p1.isList.at fun o e => hk _ _ e, p2.isList.at fun o e => hk _ _ e⟩ ⟨hsz.symm, fun i k v hi => k4 i k v (by simpa using hi.1) (by simpa using hi.2)⟩ (by rw [hsz]; exact hz) fun h'' tk hd hk2 => ?_
      have hlen : (mergeK [] kvs).length ≤ sizeLine := by
        refine Nat.le_trans (length_mergeK kvs []) ?_
        rw [List.length_nil, Nat.zero_add, k1.length]
        exact hz
      have hle : s1.heap.objs.size ≤ h'.objs.size := by omega
      have hm : (h'.objs.size == sysModules) = false := beq_eq_false_iff_ne.mpr (Nat.ne_of_gt (Nat.lt_of_lt_of_le I1.big hle))
      refine ⟨.ref h'.objs.size, upd H1 h'.objs.size (.dK (mergeK [] kvs)), I1.laid (t' := tk) (fun c o e => ?_) hle (show ObjOk X.prog X.w _ _ _ (.dK (mergeK [] kvs)) from ⟨hlen, hm, merged [] prs, KV.merge k1 .nil, hd⟩), rfl, q _ (I1.hok.fresh hle)⟩
      have hlt := Heap.lt_size e
      refine hk2 c o (fun hc => ?_) (hk _ _ e)
      simp only [List.mem_cons, List.not_mem_nil, or_false] at hc
      rcases hc with z | z | z | z <;> (rw [z] at hlt; exact absurd hlt (Nat.not_lt_of_le (by first | exact Nat.le_add_right _ _ | exact Nat.le_refl _)))
/-- x = {k: v for ..}: the name is stored while the block's frame stands -/
theorem sw_trueD {kx vx : Expr} {gs : List Comprehension} {scope : Scope} {pos py : Pos} {y : Str} {l : Nat} {env : Env} (hk : env.scope.kind = .function) (hy : env.scope.names.lookup y = some .local) (hl : (py.line == pos.line) = true)
    (ha : (scope.names.any fun (n, k) => n == y && (k == .local || k == .cell)) = false) : swapsWith (.DictComp kx vx gs scope pos) (some (.Name y py)) l env = pure true := by
  have ky : env.kindOf y = some .local := hy
  have hb : env.blockKind = .function := by unfold Env.blockKind; rw [hk]; rfl
  unfold swapsWith
  simp only [hb, ky, ha, Expr.pos, hl]
  rfl
theorem ps_setDc {i : Nat} {y : Str} {py : Pos} {kx vx tg iter : Expr} {ifs : List Expr} {scope : Scope} {own : List (Str × Nat)} {pos spos : Pos} {wi : TI} {g : TG} {tt : TT} {tk tv : TE} (hc : X.calm = true) (hN : X.N.Nodup) (hy : X.N[i]? = some y) (hyl : X.env.scope.names.lookup y = some .local)
    (hsw : swapsWith (.DictComp kx vx [⟨tg, iter, ifs, 0⟩] scope pos) (some (.Name y py)) spos.line X.env = pure true) (hi : PI X tg iter wi) (ok : BlkOk X.N X.env.scope scope own)
    (hg : ∀ (s : Shared) (H : Hp) (C : Addr) (cl : List (Str × Addr)) (fp : List Addr), PG (X.blk s H scope (compEnvC scope cl C X.env) fp) tg g) (ht : ∀ (s : Shared) (H : Hp) (C : Addr) (cl : List (Str × Addr)) (fp : List Addr), PTs (X.blk s H scope (compEnvC scope cl C X.env) fp) ifs tt)
    (hk : ∀ (s : Shared) (H : Hp) (C : Addr) (cl : List (Str × Addr)) (fp : List Addr), PE (X.blk s H scope (compEnvC scope cl C X.env) fp) kx tk)
    (he : ∀ (s : Shared) (H : Hp) (C : Addr) (cl : List (Str × Addr)) (fp : List Addr), PE (X.blk s H scope (compEnvC scope cl C X.env) fp) vx tv) (hs : ∀ x, foldedSetIterable iter X.env x = pure x := by intro _; rfl) :
    PS X (.Assign [.Name y py] (.DictComp kx vx [⟨tg, iter, ifs, 0⟩] scope pos) spos) (tAsg (tDc wi g tt tk tv (own.map (·.2))) (gName i)) := by
  refine ⟨fun pins s σ H D I h => ?_⟩
  rw [exec_Assign_Name_used _ _ _ _ hsw]
  refine wpAny_bind (wpAny_standAt (wpAny_bind ?_))
  show wpAny _ X.A (do let _ ← comprehension (.DictComp kx vx [⟨tg, iter, ifs, 0⟩] scope pos) scope X.env (firstIterPos [⟨tg, iter, ifs, 0⟩] pos) newDict false (eval iter X.env) (some (assign (.Name y py) X.env))) _ _ s
  have h : tDc wi g tt tk tv (own.map (·.2)) σ H (fun x H1 => gName i x σ H1 D.nx) := h
  refine wpAny_bind (thn (dc_core (Qf := fun _ s' => SP X pins D .next s') hc hN I hi ok hg ht hk he hs h fun L C s' m H' I' q hn f => ?_) fun _ s' hq => wpAny_pure (wpAny_pure hq))
  show wpAny _ _ (assign (.Name y py) X.env (.ref L)) _ _ _
  refine wpAny_assign_Name (store_ok2 (v := V.ref L) I' hN hy (.inl hyl) rfl (fun s2 I2 ⟨a, sb, ha⟩ => ?_) (.inr hyl))
  obtain ⟨f0, f1, f2, f3, f4, f5⟩ := f
  refine ⟨m, hn.sameBut sb (by
    rcases ha with z | z
    · rw [z]; exact f1
    · exact fun e => f4 y a z e.symm), fun h3 sb3 => ?_⟩
  exact ⟨_, H', I2.turned (t' := s2.toks) (fun b o hb e => (sb3.2 b hb).trans e) f0 f1 f3 f4 f5, q⟩
end
end LcD
set_option linter.all false
namespace LC
/-! ### rows of numbers, read against a place's number -/
abbrev Row := List Rat
def dot : Row → Nat → (Nat → Rat) → Rat
  | [], _, _ => 0
  | a :: r, k, x => a * x k + dot r (k + 1) x
def ent (rs : List Row) (i j : Nat) : Rat := ((rs[i]?).bind (·[j]?)).getD 0
theorem dot_zero {x : Nat → Rat} : ∀ {r : Row} {k : Nat}, (∀ j a, r[j]? = some a → a * x (k + j) = 0) → dot r k x = 0
  | [], _, _ => rfl
  | a :: r, k, h => by
    have h1 := h 0 a rfl
    have h2 := dot_zero (x := x) (r := r) (k := k + 1) fun j b e => by
      have := h (j + 1) b e
      rw [show k + 1 + j = k + (j + 1) by omega]; exact this
    simp only [dot, h2]
    rw [Nat.add_zero] at h1
    rw [h1, Rat.add_zero]
theorem dot_pick {x : Nat → Rat} : ∀ {r : Row} {k i : Nat} {a : Rat}, r[i]? = some a → (∀ j b, j ≠ i → r[j]? = some b → b * x (k + j) = 0) → dot r k x = a * x (k + i)
  | [], _, i, _, h, _ => by simp at h
  | b :: r, k, 0, a, h, hz => by
    have e : b = a := by simpa using h
    have h2 := dot_zero (x := x) (r := r) (k := k + 1) fun j c e => by
      have := hz (j + 1) c (by omega) e
      rw [show k + 1 + j = k + (j + 1) by omega]; exact this
    simp only [dot, h2, e, Nat.add_zero, Rat.add_zero]
  | b :: r, k, i + 1, a, h, hz => by
    have h1 := hz 0 b (by omega) rfl
    have h2 := dot_pick (x := x) (r := r) (k := k + 1) (i := i) (a := a) (by simpa using h) fun j c hj e => by
      have := hz (j + 1) c (by omega) e
      rw [show k + 1 + j = k + (j + 1) by omega]; exact this
    simp only [dot, h2]
    rw [Nat.add_zero] at h1
    rw [h1, show k + 1 + i = k + (i + 1) by omega, Rat.zero_add]
theorem dot_add (x y : Nat → Rat) : ∀ (r : Row) (k : Nat), dot r k (fun j => x j + y j) = dot r k x + dot r k y
  | [], _ => by simp only [dot]; grind
  | a :: r, k => by simp only [dot, dot_add x y r (k + 1)]; grind
theorem dot_div (x : Nat → Rat) (p : Rat) : ∀ (r : Row) (k : Nat), dot (r.map (· / p)) k x = dot r k x / p
  | [], _ => by simp only [List.map_nil, dot]; rw [Rat.div_def, Rat.zero_mul]
  | a :: r, k => by simp only [List.map_cons, dot, dot_div x p r (k + 1)]; rw [Rat.div_def, Rat.div_def, Rat.div_def]; grind
theorem dot_clear (x : Nat → Rat) (c : Rat) : ∀ (r o : Row) (k : Nat), r.length = o.length → dot (List.zipWith (fun e d => e - d * c) r o) k x = dot r k x - dot o k x * c
  | [], [], _, _ => by simp only [List.zipWith_nil_left, dot]; grind
  | [], _ :: _, _, h => by simp at h
  | _ :: _, [], _, h => by simp at h
  | a :: r, b :: o, k, h => by simp only [List.zipWith_cons_cons, dot, dot_clear x c r o (k + 1) (by simpa using h)]; grind
/-! ### one step -/
def upTo (rs : List Row) (k s : Nat) : List Row := rs.take k ++ (rs[s]?).toList ++ (rs.take s).drop k ++ rs.drop (s + 1)
def normed (rs : List Row) (k : Nat) : List Row := rs.set k (((rs[k]?).getD []).map (· / ent rs k k))
def clear1 (rs : List Row) (k i : Nat) (r : Row) : Row := if i = k ∨ (r[k]?).getD 0 = 0 then r else List.zipWith (fun e d => e - d * (r[k]?).getD 0) r ((rs[k]?).getD [])
def cleared (rs : List Row) (k : Nat) : List Row := rs.mapIdx (clear1 rs k)
def elim1 (rs : List Row) (k s : Nat) : List Row := cleared (normed (upTo rs k s) k) k
/-- N rows of N + 1 numbers -/
def Shape (N : Nat) (rs : List Row) : Prop := rs.length = N ∧ ∀ r ∈ rs, r.length = N + 1
def Sol (rs : List Row) (x : Nat → Rat) : Prop := ∀ r ∈ rs, dot r 0 x = 0
/-- the first k places are cleared -/
def Unit (k : Nat) (rs : List Row) : Prop := ∀ i j, i < rs.length → j < k → ent rs i j = if i = j then 1 else 0
theorem upTo_perm {rs : List Row} {k s : Nat} (hk : k ≤ s) (hs : s < rs.length) : (upTo rs k s).Perm rs := by
  have e1 : rs = rs.take k ++ ((rs.take s).drop k ++ (rs[s] :: rs.drop (s + 1))) := by
    have e2 : rs = rs.take s ++ (rs[s] :: rs.drop (s + 1)) := by
      conv => lhs; rw [← List.take_append_drop s rs]
      rw [List.drop_eq_getElem_cons hs]
    have e3 : rs.take s = rs.take k ++ (rs.take s).drop k := by
      conv => lhs; rw [← List.take_append_drop k (rs.take s)]
      rw [List.take_take, Nat.min_eq_left hk]
    conv => lhs; rw [e2, e3]
    rw [List.append_assoc]
  unfold upTo
  rw [List.getElem?_eq_getElem hs]
  conv => rhs; rw [e1]
  rw [Option.toList_some, List.append_assoc, List.append_assoc]
  refine List.Perm.append_left _ ?_
  rw [List.singleton_append]
  exact List.perm_middle.symm
theorem upTo_get {rs : List Row} {k s : Nat} (hk : k ≤ s) (hs : s < rs.length) :
    (∀ i, i < k → (upTo rs k s)[i]? = rs[i]?) ∧ (upTo rs k s)[k]? = rs[s]? := by
  have lk : (rs.take k).length = k := by rw [List.length_take]; omega
  unfold upTo
  rw [List.getElem?_eq_getElem hs, Option.toList_some]
  constructor
  · intro i hi
    rw [List.append_assoc, List.append_assoc, List.getElem?_append_left (by omega), List.getElem?_take_of_lt hi]
  · rw [List.append_assoc, List.append_assoc, List.getElem?_append_right (by omega), lk, Nat.sub_self]
    rfl
theorem shape_upTo {N : Nat} {rs : List Row} {k s : Nat} (h : Shape N rs) (hk : k ≤ s) (hs : s < N) : Shape N (upTo rs k s) := by
  obtain ⟨h1, h2⟩ := h
  have p := upTo_perm hk (by omega : s < rs.length)
  exact ⟨p.length_eq.trans h1, fun r hr => h2 r (p.mem_iff.mp hr)⟩
theorem shape_normed {N : Nat} {rs : List Row} {k : Nat} (h : Shape N rs) (hk : k < N) : Shape N (normed rs k) := by
  obtain ⟨h1, h2⟩ := h
  refine ⟨by unfold normed; rw [List.length_set, h1], fun r hr => ?_⟩
  rcases List.mem_or_eq_of_mem_set hr with z | z
  · exact h2 r z
  · have hk2 : k < rs.length := by omega
    rw [List.getElem?_eq_getElem hk2] at z
    rw [z]
    simp [h2 _ (List.getElem_mem hk2)]
theorem shape_cleared {N : Nat} {rs : List Row} {k : Nat} (h : Shape N rs) (hk : k < N) : Shape N (cleared rs k) := by
  obtain ⟨h1, h2⟩ := h
  refine ⟨by unfold cleared; rw [List.length_mapIdx, h1], fun r hr => ?_⟩
  obtain ⟨i, hi, e⟩ := List.mem_mapIdx.mp hr
  have hr1 := h2 _ (List.getElem_mem hi)
  have hk2 : k < rs.length := by omega
  rw [← e]
  unfold clear1
  split
  · exact hr1
  · rw [List.getElem?_eq_getElem hk2]
    simp [hr1, h2 _ (List.getElem_mem hk2)]
theorem sol_cleared {N : Nat} {rs : List Row} {k : Nat} {x : Nat → Rat} (h : Shape N rs) (hk : k < N) (S : Sol (cleared rs k) x) : Sol rs x := by
  obtain ⟨h1, h2⟩ := h
  have hk2 : k < rs.length := by omega
  have one : dot rs[k] 0 x = 0 := S _ (by
    refine List.mem_mapIdx.mpr ⟨k, hk2, ?_⟩
    unfold clear1
    rw [if_pos (.inl rfl)])
  intro r hr
  obtain ⟨i, hi, rfl⟩ := List.getElem_of_mem hr
  have z := S (clear1 rs k i rs[i]) (List.mem_mapIdx.mpr ⟨i, hi, rfl⟩)
  unfold clear1 at z
  split at z
  · exact z
  · rw [List.getElem?_eq_getElem hk2] at z
    simp only [Option.getD_some] at z
    rw [dot_clear x _ _ _ 0 (by rw [h2 _ (List.getElem_mem hi), h2 _ (List.getElem_mem hk2)]), one] at z
    grind
theorem sol_normed {N : Nat} {rs : List Row} {k : Nat} {x : Nat → Rat} (h : Shape N rs) (hk : k < N) (hp : ent rs k k ≠ 0) (S : Sol (normed rs k) x) : Sol rs x := by
  obtain ⟨h1, h2⟩ := h
  have hk2 : k < rs.length := by omega
  intro r hr
  obtain ⟨i, hi, rfl⟩ := List.getElem_of_mem hr
  by_cases e : i = k
  · subst e
    have z := S ((rs[i]).map (· / ent rs i i)) (by
      unfold normed
      rw [List.getElem?_eq_getElem hi]
      exact List.mem_set hi _)
    rw [dot_div] at z
    have : dot rs[i] 0 x / ent rs i i * ent rs i i = dot rs[i] 0 x := Rat.div_mul_cancel hp
    rw [z, Rat.zero_mul] at this
    exact this.symm
  · exact S _ (by
      unfold normed
      refine List.mem_iff_getElem?.mpr ⟨i, ?_⟩
      rw [List.getElem?_set_ne (Ne.symm e), List.getElem?_eq_getElem hi])
theorem sol_elim {N : Nat} {rs : List Row} {k s : Nat} {x : Nat → Rat} (h : Shape N rs) (hk : k ≤ s) (hs : s < N) (hp : ent rs s k ≠ 0) (S : Sol (elim1 rs k s) x) : Sol rs x := by
  have p := upTo_perm hk (by rw [h.1]; exact hs : s < rs.length)
  have g := (upTo_get hk (by rw [h.1]; exact hs : s < rs.length)).2
  have s1 := shape_upTo h hk hs
  have hkN : k < N := by omega
  have s2 := sol_normed s1 hkN (by unfold ent; rw [g]; exact hp) (sol_cleared (shape_normed s1 hkN) hkN S)
  exact fun r hr => s2 r (p.mem_iff.mpr hr)
theorem shape_elim {N : Nat} {rs : List Row} {k s : Nat} (h : Shape N rs) (hk : k ≤ s) (hs : s < N) : Shape N (elim1 rs k s) :=
  shape_cleared (shape_normed (shape_upTo h hk hs) (by omega)) (by omega)
/-! ### entries -/
theorem ent_eq {rs : List Row} {i j : Nat} {r : Row} (h : rs[i]? = some r) : ent rs i j = (r[j]?).getD 0 := by unfold ent; rw [h]; rfl
theorem upTo_back {rs : List Row} {k s i : Nat} (hk : k ≤ s) (hs : s < rs.length) (hi : k ≤ i) (hi2 : i < rs.length) : ∃ i', k ≤ i' ∧ i' < rs.length ∧ (upTo rs k s)[i]? = rs[i']? := by
  have lk : (rs.take k).length = k := by rw [List.length_take]; omega
  unfold upTo
  rw [List.getElem?_eq_getElem hs, Option.toList_some, List.append_assoc, List.append_assoc, List.getElem?_append_right (by omega), lk]
  cases e : i - k with
  | zero => exact ⟨s, hk, hs, by rw [List.getElem?_eq_getElem hs]; rfl⟩
  | succ m =>
    have lm : ((rs.take s).drop k).length = s - k := by rw [List.length_drop, List.length_take]; omega
    rw [List.singleton_append, List.getElem?_cons_succ]
    by_cases hm : m < s - k
    · refine ⟨k + m, by omega, by omega, ?_⟩
      rw [List.getElem?_append_left (by omega), List.getElem?_drop, List.getElem?_take_of_lt (by omega)]
    · refine ⟨s + 1 + (m - (s - k)), by omega, by omega, ?_⟩
      rw [List.getElem?_append_right (by omega), lm, List.getElem?_drop]
theorem unit_upTo {N : Nat} {rs : List Row} {k s : Nat} (h : Shape N rs) (hk : k ≤ s) (hs : s < N) (U : Unit k rs) : Unit k (upTo rs k s) := by
  have hs2 : s < rs.length := by rw [h.1]; exact hs
  have l := (shape_upTo h hk hs).1
  intro i j hi hj
  by_cases c : i < k
  · have e := (upTo_get hk hs2).1 i c
    have z := U i j (by rw [h.1]; omega) hj
    unfold ent at z ⊢
    rw [e]; exact z
  · obtain ⟨i', h1, h2, e⟩ := upTo_back hk hs2 (by omega : k ≤ i) (by rw [h.1]; omega)
    have z := U i' j h2 hj
    unfold ent at z ⊢
    rw [e, z, if_neg (by omega), if_neg (by omega)]
theorem normed_at {N : Nat} {rs : List Row} {k : Nat} (h : Shape N rs) (hk : k < N) : (∀ i, i ≠ k → (normed rs k)[i]? = rs[i]?) ∧ ∀ j, j < N + 1 → ent (normed rs k) k j = ent rs k j / ent rs k k := by
  have hk2 : k < rs.length := by rw [h.1]; exact hk
  constructor
  · intro i hi
    unfold normed
    rw [List.getElem?_set_ne (Ne.symm hi)]
  · intro j hj
    have e1 : (normed rs k)[k]? = some (rs[k].map (· / ent rs k k)) := by
      unfold normed
      rw [List.getElem?_set_self hk2, List.getElem?_eq_getElem hk2]
      rfl
    have hj2 : j < rs[k].length := by rw [h.2 _ (List.getElem_mem hk2)]; exact hj
    rw [ent_eq e1, ent_eq (List.getElem?_eq_getElem hk2) (j := j), List.getElem?_map, List.getElem?_eq_getElem hj2]
    rfl
theorem cleared_at {N : Nat} {rs : List Row} {k i j : Nat} (h : Shape N rs) (hk : k < N) (hi : i < N) (hj : j < N + 1) : ent (cleared rs k) i j = if i = k ∨ ent rs i k = 0 then ent rs i j else ent rs i j - ent rs k j * ent rs i k := by
  have hk2 : k < rs.length := by rw [h.1]; exact hk
  have hi2 : i < rs.length := by rw [h.1]; exact hi
  have e1 : (cleared rs k)[i]? = some (clear1 rs k i rs[i]) := by
    unfold cleared
    rw [List.getElem?_mapIdx, List.getElem?_eq_getElem hi2]
    rfl
  have ek : ∀ j, ent rs i j = (rs[i][j]?).getD 0 := fun j => ent_eq (List.getElem?_eq_getElem hi2)
  rw [ent_eq e1]
  unfold clear1
  rw [← ek k]
  split
  · exact (ek j).symm
  · have l1 : j < rs[i].length := by rw [h.2 _ (List.getElem_mem hi2)]; exact hj
    have l2 : j < rs[k].length := by rw [h.2 _ (List.getElem_mem hk2)]; exact hj
    have e2 : ent rs k j = rs[k][j] := by rw [ent_eq (List.getElem?_eq_getElem hk2), List.getElem?_eq_getElem l2]; rfl
    have e3 : ent rs i j = rs[i][j] := by rw [ek j, List.getElem?_eq_getElem l1]; rfl
    rw [e2, e3, List.getElem?_eq_getElem hk2]
    simp [List.getElem?_zipWith, l1, l2]
theorem unit_elim {N : Nat} {rs : List Row} {k s : Nat} (h : Shape N rs) (hk : k ≤ s) (hs : s < N) (hp : ent rs s k ≠ 0) (U : Unit k rs) : Unit (k + 1) (elim1 rs k s) := by
  have hs2 : s < rs.length := by rw [h.1]; exact hs
  have hkN : k < N := by omega
  have s1 := shape_upTo h hk hs
  have U1 := unit_upTo h hk hs U
  have p1 : ent (upTo rs k s) k k ≠ 0 := by
    unfold ent
    rw [(upTo_get hk hs2).2]
    exact hp
  unfold elim1
  generalize upTo rs k s = r1 at s1 U1 p1 ⊢
  obtain ⟨n1, n2⟩ := normed_at s1 hkN
  have s2 := shape_normed s1 hkN
  have kk : ent (normed r1 k) k k = 1 := by
    rw [n2 k (by omega), Rat.div_def]
    exact Rat.mul_inv_cancel _ p1
  have U2 : Unit k (normed r1 k) := by
    intro i j hi hj
    by_cases c : i = k
    · subst c
      rw [n2 j (by omega), U1 i j (by rw [s1.1]; exact hkN) hj, if_neg (by omega), Rat.div_def, Rat.zero_mul]
    · have z := U1 i j (by rw [s1.1]; rw [s2.1] at hi; exact hi) hj
      unfold ent at z ⊢
      rw [n1 i c]; exact z
  generalize normed r1 k = r2 at s2 kk U2 ⊢
  have s3 := shape_cleared s2 hkN
  intro i j hi hj
  rw [s3.1] at hi
  rw [cleared_at s2 hkN hi (by omega)]
  have l2 : i < r2.length := by rw [s2.1]; exact hi
  have lk : k < r2.length := by rw [s2.1]; exact hkN
  by_cases c : j = k
  · subst c
    split
    · rename_i q
      rcases q with q | q
      · subst q; rw [kk, if_pos rfl]
      · rw [q]
        split
        · rename_i q2; subst q2; rw [kk] at q; exact absurd q (by decide)
        · rfl
    · rename_i q
      rw [kk, if_neg (fun z => q (.inl z))]
      grind
  · have hj2 : j < k := by omega
    have e1 := U2 i j l2 hj2
    have e2 := U2 k j lk hj2
    rw [if_neg (by omega)] at e2
    split
    · exact e1
    · rw [e1, e2]; grind
/-! ### where nothing but zeros falls to zero, a step finds its place -/
def Triv (N : Nat) (rs : List Row) : Prop := ∀ x : Nat → Rat, x N = 0 → Sol rs x → ∀ j, j < N → x j = 0
theorem triv_elim {N : Nat} {rs : List Row} {k s : Nat} (h : Shape N rs) (hk : k ≤ s) (hs : s < N) (hp : ent rs s k ≠ 0) (T : Triv N rs) : Triv N (elim1 rs k s) :=
  fun x hx S => T x hx (sol_elim h hk hs hp S)
theorem piv_ex {N : Nat} {rs : List Row} {k : Nat} (h : Shape N rs) (hk : k < N) (U : Unit k rs) (T : Triv N rs) : ∃ s, k ≤ s ∧ s < N ∧ ent rs s k ≠ 0 := by
  apply Classical.byContradiction
  intro hc
  have z : ∀ i, k ≤ i → i < N → ent rs i k = 0 := fun i h1 h2 => Classical.byContradiction fun q => hc ⟨i, h1, h2, q⟩
  have := T (fun j => (if j < k then - ent rs j k else 0) + (if j = k then 1 else 0)) (by rw [if_neg (by omega), if_neg (by omega)]; grind) (fun r hr => by
    obtain ⟨i, hi, rfl⟩ := List.getElem_of_mem hr
    have hiN : i < N := by rw [← h.1]; exact hi
    have eq : ∀ j a, rs[i][j]? = some a → a = ent rs i j := fun j a e => by rw [ent_eq (List.getElem?_eq_getElem hi), e]; rfl
    have len := h.2 _ (List.getElem_mem hi)
    have hkl : k < rs[i].length := by omega
    rw [dot_add]
    have d2 : dot rs[i] 0 (fun j => if j = k then 1 else 0) = ent rs i k := by
      rw [dot_pick (i := k) (a := ent rs i k) (by rw [List.getElem?_eq_getElem hkl, ← eq k _ (List.getElem?_eq_getElem hkl)]) fun j b hj e => by
        rw [Nat.zero_add, if_neg hj, Rat.mul_zero]]
      rw [Nat.zero_add, if_pos rfl, Rat.mul_one]
    rw [d2]
    by_cases c : i < k
    · have hil : i < rs[i].length := by omega
      have u1 := U i i hi c
      rw [if_pos rfl] at u1
      rw [dot_pick (i := i) (a := 1) (by rw [List.getElem?_eq_getElem hil, eq i _ (List.getElem?_eq_getElem hil), u1]) fun j b hj e => by
        rw [Nat.zero_add]
        by_cases hj2 : j < k
        · rw [eq j b e, U i j hi hj2, if_neg (Ne.symm hj), Rat.zero_mul]
        · rw [if_neg hj2, Rat.mul_zero]]
      rw [Nat.zero_add, if_pos c]
      grind
    · rw [dot_zero fun j b e => by
        rw [Nat.zero_add]
        by_cases hj2 : j < k
        · rw [eq j b e, U i j hi hj2, if_neg (by omega), Rat.zero_mul]
        · rw [if_neg hj2, Rat.mul_zero]]
      rw [z i (by omega) hiN, Rat.add_zero]) k hk
  rw [if_neg (by omega), if_pos rfl] at this
  grind
/-- what the rows tell at the end -/
def told (N : Nat) (rs : List Row) : Nat → Rat := fun j => (if j < N then ent rs j N else 0) + (if j = N then -1 else 0)
theorem sol_told {N : Nat} {rs : List Row} (h : Shape N rs) (U : Unit N rs) : Sol rs (told N rs) := by
  intro r hr
  obtain ⟨i, hi, rfl⟩ := List.getElem_of_mem hr
  have hiN : i < N := by rw [← h.1]; exact hi
  have eq : ∀ j a, rs[i][j]? = some a → a = ent rs i j := fun j a e => by rw [ent_eq (List.getElem?_eq_getElem hi), e]; rfl
  have len := h.2 _ (List.getElem_mem hi)
  have hNl : N < rs[i].length := by omega
  have hil : i < rs[i].length := by omega
  unfold told
  rw [dot_add]
  have d2 : dot rs[i] 0 (fun j => if j = N then -1 else 0) = - ent rs i N := by
    rw [dot_pick (i := N) (a := ent rs i N) (by rw [List.getElem?_eq_getElem hNl, ← eq N _ (List.getElem?_eq_getElem hNl)]) fun j b hj e => by
      rw [Nat.zero_add, if_neg hj, Rat.mul_zero]]
    rw [Nat.zero_add, if_pos rfl]
    grind
  have u1 := U i i hi hiN
  rw [if_pos rfl] at u1
  rw [d2, dot_pick (i := i) (a := 1) (by rw [List.getElem?_eq_getElem hil, eq i _ (List.getElem?_eq_getElem hil), u1]) fun j b hj e => by
    rw [Nat.zero_add]
    by_cases hj2 : j < N
    · rw [eq j b e, U i j hi hj2, if_neg (Ne.symm hj), Rat.zero_mul]
    · rw [if_neg hj2, Rat.mul_zero]]
  rw [Nat.zero_add, if_pos hiN]
  grind
/-! ### how long the numbers grow -/
def SzR (t b : Nat) (rs : List Row) : Prop := ∀ r ∈ rs, ∀ a ∈ r, Sz t b a
theorem szr_upTo {rs : List Row} {k s t b : Nat} (hk : k ≤ s) (hs : s < rs.length) (h : SzR t b rs) : SzR t b (upTo rs k s) :=
  fun r hr => h r ((upTo_perm hk hs).mem_iff.mp hr)
theorem sz_zero (t b : Nat) : Sz t b 0 := ⟨Nat.zero_le _, Nat.one_le_two_pow⟩
theorem szr_ent {rs : List Row} {t b : Nat} (h : SzR t b rs) (i j : Nat) : Sz t b (ent rs i j) := by
  unfold ent
  cases e : rs[i]? with
  | none => exact sz_zero t b
  | some r =>
    cases e2 : r[j]? with
    | none => simp only [Option.bind_some, e2]; exact sz_zero t b
    | some a => simp only [Option.bind_some, e2]; exact h r (List.mem_of_getElem? e) a (List.mem_of_getElem? e2)
theorem szr_normed {N : Nat} {rs : List Row} {k t b : Nat} (hp : ent rs k k ≠ 0) (h : SzR t b rs) : SzR (t + b) (t + b) (normed rs k) := by
  intro r hr
  unfold normed at hr
  rcases List.mem_or_eq_of_mem_set hr with z | z
  · exact fun a ha => (h r z a ha).mono (by omega) (by omega)
  · rw [z]
    intro a ha
    obtain ⟨c, hc, rfl⟩ := List.mem_map.mp ha
    have hc2 : Sz t b c := by
      cases e : rs[k]? with
      | none => rw [e] at hc; simp at hc
      | some r0 => rw [e] at hc; exact h r0 (List.mem_of_getElem? e) c hc
    have := hc2.div (szr_ent h k k) hp
    rw [Nat.add_comm b t] at this
    exact this
theorem mem_zipWith {α β γ : Type} {f : α → β → γ} : ∀ {l : List α} {m : List β} {c : γ}, c ∈ List.zipWith f l m → ∃ a ∈ l, ∃ b ∈ m, c = f a b
  | [], _, _, h => by simp at h
  | _ :: _, [], _, h => by simp at h
  | a :: l, b :: m, c, h => by
    rw [List.zipWith_cons_cons, List.mem_cons] at h
    rcases h with h | h
    · exact ⟨a, List.mem_cons_self, b, List.mem_cons_self, h⟩
    · obtain ⟨x, hx, y, hy, e⟩ := mem_zipWith h
      exact ⟨x, List.mem_cons_of_mem _ hx, y, List.mem_cons_of_mem _ hy, e⟩
/-- the rows of a step: the one at k has been divided -/
structure SzM (t b : Nat) (rs : List Row) (k : Nat) : Prop where
  row : ∀ r, rs[k]? = some r → ∀ a ∈ r, Sz (t + b) (t + b) a
  rest : ∀ i r, i ≠ k → rs[i]? = some r → ∀ a ∈ r, Sz t b a
theorem szm_normed {N : Nat} {rs : List Row} {k t b : Nat} (s : Shape N rs) (hk : k < N) (hp : ent rs k k ≠ 0) (h : SzR t b rs) : SzM t b (normed rs k) k :=
  ⟨fun r hr => szr_normed (N := N) hp h r (List.mem_of_getElem? hr), fun i r hi hr => h r (List.mem_of_getElem? (by rw [(normed_at s hk).1 i hi] at hr; exact hr))⟩
theorem szm_ent {rs : List Row} {t b k i : Nat} (h : SzM t b rs k) (hi : i ≠ k) (j : Nat) : Sz t b (ent rs i j) := by
  unfold ent
  cases e : rs[i]? with
  | none => exact sz_zero t b
  | some r =>
    cases e2 : r[j]? with
    | none => simp only [Option.bind_some, e2]; exact sz_zero t b
    | some a => simp only [Option.bind_some, e2]; exact h.rest i r hi e a (List.mem_of_getElem? e2)
theorem szr_cleared {rs : List Row} {k t b : Nat} (h : SzM t b rs k) : SzR (2 * t + 2 * b + 1) (t + 3 * b) (cleared rs k) := by
  intro r hr
  obtain ⟨i, hi, e⟩ := List.mem_mapIdx.mp hr
  unfold clear1 at e
  have own := List.getElem?_eq_getElem hi
  split at e
  · rename_i q
    subst e
    by_cases c : i = k
    · subst c
      exact fun a ha => (h.row _ own a ha).mono (by omega) (by omega)
    · exact fun a ha => (h.rest i _ c own a ha).mono (by omega) (by omega)
  · rename_i q
    subst e
    have c : i ≠ k := fun z => q (.inl z)
    intro a ha
    obtain ⟨x, hx, y, hy, rfl⟩ := mem_zipWith ha
    have h1 := h.rest i _ c own x hx
    have h2 : Sz (t + b) (t + b) y := by
      cases e : rs[k]? with
      | none => rw [e] at hy; simp at hy
      | some r0 => rw [e] at hy; exact h.row r0 e y hy
    have h3 : Sz t b ((rs[i][k]?).getD 0) := by
      have := szm_ent h c k
      rw [ent_eq own] at this
      exact this
    exact (h1.sub (h2.mul h3)).mono (by omega) (by omega)
theorem szr_elim {N : Nat} {rs : List Row} {k s t b : Nat} (h : Shape N rs) (hk : k ≤ s) (hs : s < N) (hp : ent rs s k ≠ 0) (z : SzR t b rs) : SzR (2 * t + 2 * b + 1) (t + 3 * b) (elim1 rs k s) := by
  have hs2 : s < rs.length := by rw [h.1]; exact hs
  have p1 : ent (upTo rs k s) k k ≠ 0 := by
    unfold ent
    rw [(upTo_get hk hs2).2]
    exact hp
  exact szr_cleared (szm_normed (shape_upTo h hk hs) (by omega) p1 (szr_upTo hk hs2 z))
end LC
set_option Elab.async false
set_option linter.all false
set_option maxRecDepth 100000
set_option maxHeartbeats 4000000
namespace Lc
open PySem PySem.Spec PyProof.Rows L2 LcR
open LC (Sz Shape SzR ent upTo normed cleared elim1 clear1)
def RowsV (K : PySem.W.Frag) (H : Hp) (v : V) (rs : List LC.Row) : Prop := ∃ a us, v = .ref a ∧ H a = some (.lst us) ∧ All2 (NumsL K H) us rs
theorem RowsV.s {K : PySem.W.Frag} {H H' : Hp} {v : V} {rs : List LC.Row} (h : RowsV K H v rs) (s : Same H H') : RowsV K H' v rs := by
  obtain ⟨a, us, rfl, e, al⟩ := h
  exact ⟨a, us, rfl, s _ _ e, al.imp fun x y z => z.s s⟩
theorem none_back {H H' : Hp} {a : Addr} (s : Same H H') (h : H' a = none) : H a = none := by
  cases e : H a with
  | none => rfl
  | some o => rw [s _ _ e] at h; cases h
theorem ix_nat {n k : Nat} (h : k < n) : ixN n (k : Int) = some k := by
  unfold ixN
  rw [if_pos (by omega), if_pos (by omega), Int.toNat_natCast]
theorem same_at {H H' : Hp} {L : Addr} {o : HO} (s : Same H H') (h : H L = none) : Same H (upd H' L o) := fun b u e => by
  rw [upd_ne (ne_of_none e h)]
  exact s _ _ e
theorem all2_of {α : Type} {R : V → α → Prop} {ys : List V} {q : List α} (h1 : ys.length = q.length) (h2 : ∀ (i : Nat) y, ys[i]? = some y → ∃ g, q[i]? = some g ∧ R y g) : All2 R ys q :=
  ⟨h1, fun i x y hx hy => by
    obtain ⟨g, hg, r⟩ := h2 i x hx
    rw [hg] at hy
    cases hy
    exact r⟩
theorem NumsL.ne {K : PySem.W.Frag} {H : Hp} {v : V} {q : List Rat} {F : Addr} (h : NumsL K H v q) (hF : H F = none) : v ≠ .ref F := by
  rintro rfl
  obtain ⟨a, us, e, ea, _⟩ := h
  cases e
  rw [hF] at ea
  cases ea
/-- a list of numbers stays while another list turns -/
theorem NumsL.upd_ {K : PySem.W.Frag} {H : Hp} {v : V} {q : List Rat} {F : Addr} {fs gs : List V} (h : NumsL K H v q) (ne : v ≠ .ref F) (hF : H F = some (.lst fs)) : NumsL K (upd H F (.lst gs)) v q := by
  obtain ⟨a, us, rfl, ea, al⟩ := h
  refine ⟨a, us, rfl, by rw [upd_ne (fun z => ne (by rw [z]))]; exact ea, al.imp fun x y z => z.n (sameN_upd hF (fun z => z))⟩
theorem all2_take {α β : Type} {R : α → β → Prop} {xs : List α} {ys : List β} (h : All2 R xs ys) (k : Nat) : All2 R (xs.take k) (ys.take k) := by
  refine ⟨by rw [List.length_take, List.length_take, h.1], fun i x y hx hy => ?_⟩
  have hi : i < k := by
    have := (List.getElem?_eq_some_iff.mp hx).1
    rw [List.length_take] at this
    omega
  rw [List.getElem?_take_of_lt hi] at hx hy
  exact h.2 i x y hx hy
theorem all2_drop {α β : Type} {R : α → β → Prop} {xs : List α} {ys : List β} (h : All2 R xs ys) (k : Nat) : All2 R (xs.drop k) (ys.drop k) := by
  refine ⟨by rw [List.length_drop, List.length_drop, h.1], fun i x y hx hy => ?_⟩
  rw [List.getElem?_drop] at hx hy
  exact h.2 _ x y hx hy
theorem all2_one {α β : Type} {R : α → β → Prop} {x : α} {y : β} (h : R x y) : All2 R [x] [y] := by
  have := All2.snoc (R := R) All2.nil h
  exact this
theorem all2_set {α β : Type} {R : α → β → Prop} {xs : List α} {ys : List β} {x : α} {y : β} (h : All2 R xs ys) (k : Nat) (r : R x y) : All2 R (xs.set k x) (ys.set k y) := by
  refine ⟨by rw [List.length_set, List.length_set, h.1], fun i a b ha hb => ?_⟩
  by_cases e : i = k
  · subst e
    have hi : i < xs.length := by
      have := (List.getElem?_eq_some_iff.mp ha).1
      rwa [List.length_set] at this
    rw [List.getElem?_set_self hi] at ha
    rw [List.getElem?_set_self (by rw [← h.1]; exact hi)] at hb
    cases ha
    cases hb
    exact r
  · rw [List.getElem?_set_ne (Ne.symm e)] at ha hb
    exact h.2 i a b ha hb
theorem cut_lo (xs : List V) (k : Nat) (hk : k ≤ xs.length) : cutV xs none (some (k : Int)) = xs.take k := by
  unfold cutV
  rw [HT.sIx_nat, HT.sIx_none, List.drop_zero, Nat.min_eq_left hk, Nat.sub_zero]
theorem cut_mid (xs : List V) (k s : Nat) (hk : k ≤ s) (hs : s ≤ xs.length) : cutV xs (some (k : Int)) (some (s : Int)) = (xs.take s).drop k := by
  unfold cutV
  rw [HT.sIx_nat, HT.sIx_nat, Nat.min_eq_left hs, Nat.min_eq_left (by omega), List.drop_take]
theorem cut_hi (xs : List V) (k : Nat) (hk : k ≤ xs.length) : cutV xs (some (k : Int)) none = xs.drop k := by
  unfold cutV
  rw [HT.sIx_nat, HT.sIx_none, Nat.min_eq_left hk, List.take_of_length_le (by rw [List.length_drop]; omega)]
theorem kept_map {keep : Nat → Bool} {n : Nat} {ys : List V} {H : Hp} {f : Nat → V} (h : Kept keep (fun j y _ => y = f j) n ys H) : ys = ((List.range n).filter keep).map f := by
  obtain ⟨h1, h2⟩ := h
  apply List.ext_getElem?
  intro i
  rw [List.getElem?_map]
  by_cases hi : i < ys.length
  · rw [List.getElem?_eq_getElem hi, List.getElem?_eq_getElem (by omega : i < ((List.range n).filter keep).length)]
    exact congrArg some (h2 i _ _ (List.getElem?_eq_getElem (by omega)) (List.getElem?_eq_getElem hi))
  · rw [List.getElem?_eq_none (by omega), List.getElem?_eq_none (by omega)]
    rfl
section
variable {P : Program} {w : World} {K : PySem.W.Frag} {mg : Str → Option Value} {base : Heap}
def sp_eliminated (K : PySem.W.Frag) : Sp := fun vs H Q _ => ∃ (v : V) (k N t b : Nat) (rs : List LC.Row), vs = [v, .int (k : Int)] ∧ RowsV K H v rs ∧ Shape N rs ∧ N ≤ 10 ∧ k < N ∧ (∃ s, k ≤ s ∧ s < N ∧ ent rs s k ≠ 0) ∧ SzR t b rs ∧ t + 3 * b < 8999 ∧ 4 * (t + b) ≤ 40000 ∧ t + b < 8999 ∧
  ∀ s H' v', k ≤ s → s < N → ent rs s k ≠ 0 → Same H H' → RowsV K H' v' (elim1 rs k s) → Q v' H'
theorem c_eliminated (T : Tx K mg) : C8.Cal P w K mg base 5 "eliminated" (sp_eliminated K) [] := by
  obtain ⟨fd, F⟩ := T.f_eliminated
  refine calD F T.g_eliminated sc_eliminated (fun _ _ _ _ _ _ us hl => match us, hl with | [_, _], _ => rfl) (fun vs H Q E h => ?_) (fun cdv A outer s H vs Q E hr h => ?_)
  · obtain ⟨_, _, _, _, _, _, rfl, _⟩ := h; rfl
  obtain ⟨v, k, N, t, b, rs, rfl, ⟨a, us, rfl, ea, al⟩, sh, N10, kN, pv_, sz, z1, z2, z3, kk⟩ := h
  refine ⟨_, (pss_cons (ps_set (i := 2) sc_eliminated.nd rfl (Or.inl rfl) (pe_callB (cr_min rfl) (by rfl) T.b_min (by decide +kernel) (pa_cons (pe_lc (own := [("k", 4)]) (g := gName 4) (tt := (tB (tOp (rNeR K) (tOp (rIxL K) (tOp (rIxL K) (tVar 0) (tVar 4)) (tVar 1)) (tMake (CRatio K) (sp_Ratio_init K) [.int 1] C8.E0 (tCons (tC (.int 0)) tNil))))) (by rfl) sc_eliminated.nd (pi_range2 (by rfl) T.b_range (pa_cons (pv 1) (pa_cons (pe_callB call_len (by rfl) T.b_len (by decide +kernel) (pa_cons (pv 0) pa_nil)) pa_nil))) (blkOk_by (own := [("k", 4)]) (N := N_eliminated) (sc := defScope s_eliminated) (by decide +kernel)) (fun _ _ _ _ _ => (pg_name (i := 4) sc_eliminated.nd rfl (Or.inl rfl))) (fun _ _ _ _ _ => (pts_one (pt_cmpR (op_Rne T hr (by decide)) (pe_ix ix_list (pe_ix ix_list (pv 0) (pv 4) (fun _ _ => rfl)) (pv 1) (fun _ _ => rfl)) (C8.pe_mk (c_Ratio_1 T) hr (by decide) (by rfl) (pa_cons pe_int pa_nil)) (nomark _)))) (fun _ _ _ _ _ => (pv 4))) pa_nil)))
      (pss_cons (ps_set (i := 0) sc_eliminated.nd rfl (Or.inr rfl) (pe_lst (StX.pa_star (pe_slice sl_list (pv 0) po_none (po_some (pv 1))) (pa_cons (pe_ix ix_list (pv 0) (pv 2) (fun _ _ => rfl)) (StX.pa_star (pe_slice sl_list (pv 0) (po_some (pv 1)) (po_some (pv 2))) (StX.pa_star (pe_slice sl_list (pv 0) (po_some (pe_op op_add (pv 2) pe_int)) po_none) pa_nil))))))
      (pss_cons (ps_asg (pe_lc (own := [("entry", 6)]) (g := gName 6) (te := (tMeth (CRatio K) "over" (sp_over K) [] C8.E0 (tVar 6) (tCons (tOp (rIxL K) (tOp (rIxL K) (tVar 0) (tVar 1)) (tVar 1)) tNil))) (by rfl) sc_eliminated.nd (pi_list (pe_ix ix_list (pv 0) (pv 1) (fun _ _ => rfl))) (blkOk_by (own := [("entry", 6)]) (N := N_eliminated) (sc := defScope s_eliminated) (by decide +kernel)) (fun _ _ _ _ _ => (pg_name (i := 6) sc_eliminated.nd rfl (Or.inl rfl))) (fun _ _ _ _ _ => pts_nil) (fun _ _ _ _ _ => (C8.pe_mt (m_over T) hr (by decide) (pv 6) (pa_cons (pe_ix ix_list (pe_ix ix_list (pv 0) (pv 1) (fun _ _ => rfl)) (pv 1) (fun _ _ => rfl)) pa_nil)))) (pg_sub (pv 0) (pv 1) set_list))
      (pss_cons (ps_set (i := 3) sc_eliminated.nd rfl (Or.inl rfl) (pe_lst pa_nil))
      (pss_cons (ps_for PassesOwn.never rfl (pi_enum (by rfl) T.b_enumerate (pa_cons (pv 0) pa_nil)) (pg_tup rfl (pgs_cons (pg_name (i := 4) sc_eliminated.nd rfl (Or.inl rfl)) (pgs_cons (pg_name (i := 5) sc_eliminated.nd rfl (Or.inr rfl)) pgs_nil)))
      (pss_one (ps_if (PW.pt (pw_or (pt_cmpR op_eq (pv 4) (pv 1) (nomark _)) (pw_or1 (pt_cmpR (op_Req T hr (by decide)) (pe_ix ix_list (pv 5) (pv 1) (fun _ _ => rfl)) (C8.pe_mk (c_Ratio_1 T) hr (by decide) (by rfl) (pa_cons pe_int pa_nil)) (nomark _))))) (pss_one (ps_expr (pe_bm PySem.F.plainAttrs_list PySem.F.slot_list_append PySem.F.type_list_append mt_append (pv 3) (pa_cons (pv 5) pa_nil)))) (pss_one (ps_expr (pe_bm PySem.F.plainAttrs_list PySem.F.slot_list_append PySem.F.type_list_append mt_append (pv 3) (pa_cons (pe_lc (own := [("entry", 6), ("one", 7)]) (g := gTup K 2 (gCons (gName 6) (gCons (gName 7) (gNil)))) (te := (tOp (rRN K fun p q => p - q) (tVar 6) (tOp (rRN K fun p q => p * q) (tVar 7) (tOp (rIxL K) (tVar 5) (tVar 1))))) (by rfl) sc_eliminated.nd (pi_zip (by rfl) T.b_zip (pa_cons (pv 5) (pa_cons (pe_ix ix_list (pv 0) (pv 1) (fun _ _ => rfl)) pa_nil))) (blkOk_by (own := [("entry", 6), ("one", 7)]) (N := N_eliminated) (sc := defScope s_eliminated) (by decide +kernel)) (fun _ _ _ _ _ => (pg_tup rfl (pgs_cons (pg_name (i := 6) sc_eliminated.nd rfl (Or.inl rfl)) (pgs_cons (pg_name (i := 7) sc_eliminated.nd rfl (Or.inl rfl)) pgs_nil)))) (fun _ _ _ _ _ => pts_nil) (fun _ _ _ _ _ => (pe_op (op_Rsub T hr (by decide)) (pv 6) (pe_op (op_Rmul T hr (by decide)) (pv 7) (pe_ix ix_list (pv 5) (pv 1) (fun _ _ => rfl)))))) pa_nil)))))))
      (pss_one (ps_ret (pv 3)))))))), ?_⟩
  have ul : us.length = N := al.1.trans sh.1
  refine ⟨_, rfl, _, rfl, _, N, rfl, .inl ⟨us, .inl (.inl ea), ul.symm⟩, (k : Int), (N : Int), rfl, ⟨by omega, by omega, by omega, by omega⟩, fun D hD => ?_⟩
  have hn : ((N : Int) - (k : Int)).toNat = N - k := by omega
  rw [hn]
  have row : ∀ {H1 : Hp} (i : Nat), i < N → Same H H1 → ∃ c ws q, us[i]? = some (.ref c) ∧ rs[i]? = some q ∧ SqL K H1 c ws ∧ H1 c = some (.lst ws) ∧ All2 (IsR K H1) ws q ∧ q.length = N + 1 := fun i hi s1 => by
    obtain ⟨y, hy, hn⟩ := al.get (List.getElem?_eq_getElem (by rw [sh.1]; exact hi))
    obtain ⟨c, ws, rfl, ec, aw⟩ := hn.s s1
    exact ⟨c, ws, _, hy, List.getElem?_eq_getElem (by rw [sh.1]; exact hi), .inl (.inl ec), ec, aw, sh.2 _ (List.getElem_mem _)⟩
  refine lcm walk_range hD (Nat.le_trans (by omega : N - k ≤ 10) (by decide)) (fun i => !decide (ent rs (k + i) k = 0)) (fun j y _ => y = .int ((k + j : Nat) : Int)) (fun _ _ _ _ _ h => h) (fun _ _ => trivial) (fun i x H5 H' kN' kY hi s y kn ky => ?_) (fun H' ys s1 e kp => ?_)
  · obtain ⟨rfl, ex⟩ := y
    obtain rfl : x = V.int ((k + i : Nat) : Int) := ex.trans (congrArg V.int (Int.natCast_add k i).symm)
    obtain ⟨c, ws, q, e1, e2, e3, _, e4, e5⟩ := row (k + i) (by omega) s
    obtain ⟨g, eg⟩ : ∃ g, q[k]? = some g := ⟨_, List.getElem?_eq_getElem (by omega)⟩
    obtain ⟨y, ey, ry⟩ := e4.get eg
    have en : ent rs (k + i) k = g := by rw [LC.ent_eq e2, eg]; rfl
    refine ⟨rfl, ⟨_, rfl, _, rfl, a, us, _, _, rfl, rfl, .inl (.inl (s _ _ ea)), atI_nat e1, _, rfl, c, ws, _, y, rfl, rfl, e3, atI_nat ey, ?_⟩⟩
    refine fun x dx hx hdx ne => mR1 hx hdx ne fun H1 s1 hz => ⟨rfl, ?_⟩
    refine ⟨g, 0, ry.n (same_n s1), hz, _, rfl, ite2 (fun h0 => ?_) (fun h0 => ?_)⟩
    · exact ⟨_, rfl, ky _ _ s1 (by rw [en]; exact h0) rfl⟩
    · exact kn _ s1 (by rw [en]; simpa using h0)
  have ey := kept_map (f := fun j => V.int ((k + j : Nat) : Int)) kp
  refine ⟨D, ((List.range (N - k)).filter fun i => !decide (ent rs (k + i) k = 0)).map fun j => ((k + j : Nat) : Int), rfl, .inl (.inl (by rw [e, ey, List.map_map]; rfl)), ?_, fun m hm _ => ?_⟩
  · obtain ⟨s0, h1, h2, h3⟩ := pv_
    rw [List.length_map]
    refine List.length_pos_of_mem (a := s0 - k) (List.mem_filter.mpr ⟨List.mem_range.mpr (by omega), ?_⟩)
    rw [show k + (s0 - k) = s0 by omega]
    simpa using h3
  obtain ⟨j, hj, rfl⟩ := List.mem_map.mp hm
  obtain ⟨hj1, hj2⟩ := List.mem_filter.mp hj
  have hj1 := List.mem_range.mp hj1
  have hp : ent rs (k + j) k ≠ 0 := by simpa using hj2
  have hs : k + j < N := by omega
  have hks : k ≤ k + j := by omega
  generalize k + j = sp at hp hs hks
  obtain ⟨_, _, q, _, c2, _, _, _, c6⟩ := row sp hs s1
  obtain ⟨_, c1, c, ws, rfl, ec, aw⟩ := al.get c2
  have S0 : ∀ {H1 : Hp}, Same H H1 → SqL K H1 a us := fun s => .inl (.inl (s _ _ ea))
  refine ⟨_, rfl, _, rfl, _, rfl, a, us, rfl, S0 s1, fun p1 hp1 => ?_⟩
  have s2 := s1.trans (same_upd (o := .lst (cutV us none (some (k : Int)))) hp1)
  refine ⟨p1, _, rfl, .inr (.inl (.inl upd_same)), ?_⟩
  refine ⟨_, rfl, _, rfl, a, us, _, _, rfl, rfl, S0 s2, atI_nat c1, ?_⟩
  refine ⟨_, rfl, _, rfl, _, rfl, _, rfl, _, rfl, a, us, rfl, S0 s2, fun p2 hp2 => ?_⟩
  have s3 := s2.trans (same_upd (o := .lst (cutV us (some (k : Int)) (some (sp : Int)))) hp2)
  refine ⟨p2, _, rfl, .inr (.inl (.inl upd_same)), ?_⟩
  refine ⟨_, rfl, _, rfl, _, _, rfl, rfl, _, rfl, a, us, rfl, S0 s3, fun p3 hp3 => ?_⟩
  have s4 := s3.trans (same_upd (o := .lst (cutV us (some ((sp : Int) + 1)) none)) hp3)
  refine ⟨p3, _, rfl, .inr (.inl (.inl upd_same)), ?_⟩
  have e1 := cut_lo us k (by omega)
  have e2 := cut_mid us k sp hks (by omega)
  have e3 : cutV us (some ((sp : Int) + 1)) none = us.drop (sp + 1) := cut_hi us (sp + 1) (by omega)
  rw [e1, e2, e3] at s4 ⊢
  have aU : All2 (NumsL K H) (us.take k ++ (.ref c :: ((us.take sp).drop k ++ (us.drop (sp + 1) ++ [])))) (upTo rs k sp) := by
    unfold LC.upTo
    rw [c2, Option.toList_some, List.append_nil, List.append_assoc, List.append_assoc, List.singleton_append]
    exact all2_append (all2_take al k) (all2_append (all2_one (al.2 sp _ _ c1 c2)) (all2_append (all2_drop (all2_take al sp) k) (all2_drop al (sp + 1))))
  have sU := LC.shape_upTo sh hks hs
  have zU := LC.szr_upTo hks (by rw [sh.1]; exact hs) sz
  have pU : ent (upTo rs k sp) k k ≠ 0 := by
    unfold ent
    rw [(LC.upTo_get hks (by rw [sh.1]; exact hs)).2]
    exact hp
  have gU : (us.take k ++ (.ref c :: ((us.take sp).drop k ++ (us.drop (sp + 1) ++ []))))[k]? = some (.ref c) := by
    have l : (us.take k).length = k := by rw [List.length_take]; omega
    rw [List.getElem?_append_right (by omega), l, Nat.sub_self]
    rfl
  have rU : (upTo rs k sp)[k]? = some q := by rw [(LC.upTo_get hks (by rw [sh.1]; exact hs)).2, c2]
  generalize hvs : (us.take k ++ (.ref c :: ((us.take sp).drop k ++ (us.drop (sp + 1) ++ [])))) = vs at *
  have fin : ∀ H' v', Same H H' → RowsV K H' v' (cleared (normed (upTo rs k sp) k) k) → Q v' H' := fun H' v' h1 h2 => kk sp H' v' hks hs hp h1 h2
  generalize upTo rs k sp = r1 at *
  have vl : vs.length = N := aU.1.trans sU.1
  refine ⟨Nat.le_trans (m := 10) (by rw [hvs]; omega) (by decide), fun L hL => ?_⟩
  rw [hvs]
  have s5 := s4.trans (same_upd (o := .lst vs) hL)
  have hLH : H L = none := none_back s4 hL
  generalize hH5 : upd _ L (.lst vs) = H5 at s5 ⊢
  have eL : H5 L = some (.lst vs) := hH5 ▸ upd_same
  have SL : ∀ {H1 : Hp}, Same H5 H1 → SqL K H1 L vs := fun s => .inl (.inl (s _ _ eL))
  have Sc : ∀ {H1 : Hp}, Same H5 H1 → SqL K H1 c ws := fun s => .inl (.inl ((s5.trans s) _ _ ec))
  have wl : ws.length = N + 1 := aw.1.trans c6
  obtain ⟨pv1, hpv1⟩ : ∃ g, q[k]? = some g := ⟨_, List.getElem?_eq_getElem (by omega)⟩
  have epv : ent r1 k k = pv1 := by rw [LC.ent_eq rU, hpv1]; rfl
  rw [epv] at pU
  obtain ⟨yp, hyp, rp⟩ := aw.get hpv1
  have qm : q ∈ r1 := List.mem_of_getElem? rU
  refine ⟨_, rfl, _, rfl, L, vs, _, _, rfl, rfl, SL (Same.refl _), atI_nat gU, c, rfl, ⟨ws, Sc (Same.refl _)⟩, fun D2 hD2 => ?_⟩
  refine lcm walk_list hD2 (Nat.le_trans (by omega : ws.length ≤ 11) (by decide)) (fun _ => true) (fun i y H1 => ∃ g, q[i]? = some g ∧ IsR K H1 y (g / pv1)) (fun i y H1 H2 s z => ?_) (fun H1 s => Sc s) (fun i x H6 H1 kN' kY hi s y kn ky => ?_) (fun H6 ys2 s6 e6 kp2 => ?_)
  · obtain ⟨g, hg, r⟩ := z
    exact ⟨g, hg, r.n s⟩
  · obtain ⟨rfl, hx⟩ := y
    obtain ⟨g, hg, rg⟩ := aw.get' hx
    have sS := s5.trans s
    have rg1 := rg.n (same_n sS)
    obtain ⟨xa, xd, rfl, exa⟩ := id rg1
    refine ⟨rfl, yes ⟨_, rfl, xa, xd, _, rfl, exa, rfl, _, rfl, _, rfl, L, vs, _, _, rfl, rfl, SL s, atI_nat gU, _, rfl, c, ws, _, yp, rfl, rfl, Sc s, atI_nat hyp, ?_⟩⟩
    refine ⟨_, _, g, pv1, t, b, t, b, rfl, rg1, .inl (rp.n (same_n sS)), zU q qm g (List.mem_of_getElem? hg), zU q qm pv1 (List.mem_of_getElem? hpv1), by omega, by omega, pU, fun H2 y2 s2 hy2 => ?_⟩
    exact ky _ _ s2 rfl ⟨g, hg, hy2⟩
  obtain ⟨l1, l2⟩ := kp2.all
  have hq2 : All2 (IsR K H6) ys2 (q.map (· / pv1)) := all2_of (by rw [l1, List.length_map, aw.1]) fun i y hy => by
    obtain ⟨g, hg, r⟩ := l2 i y hy
    exact ⟨g / pv1, by rw [List.getElem?_map, hg]; rfl, r⟩
  have eL6 := s6 _ _ eL
  refine ⟨_, rfl, _, rfl, L, vs, (k : Int), k, rfl, rfl, eL6, ix_nat (by omega), ?_⟩
  have DL : D2 ≠ L := fun z => by subst z; rw [eL] at hD2; cases hD2
  have s7 : Same H (upd H6 L (.lst (vs.set k (.ref D2)))) := same_at (s5.trans s6) hLH
  have sn7 : SameN H6 (upd H6 L (.lst (vs.set k (.ref D2)))) := sameN_upd eL6 (fun z => z)
  generalize hH7 : upd H6 L (.lst (vs.set k (.ref D2))) = H7 at s7 sn7 ⊢
  have eL7 : H7 L = some (.lst (vs.set k (.ref D2))) := hH7 ▸ upd_same
  have eD7 : H7 D2 = some (.lst ys2) := by rw [← hH7, upd_ne DL]; exact e6
  have a2 : All2 (NumsL K H7) (vs.set k (.ref D2)) (normed r1 k) := by
    have e1 : normed r1 k = r1.set k (q.map (· / pv1)) := by unfold LC.normed; rw [rU, epv]; rfl
    rw [e1]
    exact all2_set (aU.imp fun x y z => z.s s7) k ⟨D2, ys2, rfl, eD7, hq2.imp fun x y z => z.n sn7⟩
  have s2 := LC.shape_normed sU kN
  have m2 := LC.szm_normed sU kN (by rw [epv]; exact pU) zU
  have g2 : (vs.set k (.ref D2))[k]? = some (.ref D2) := List.getElem?_set_self (by omega)
  have q2 : (normed r1 k)[k]? = some (q.map (· / pv1)) := by unfold LC.normed; rw [rU, epv]; exact List.getElem?_set_self (by rw [sU.1]; exact kN)
  generalize vs.set k (.ref D2) = v2 at a2 eL7 g2 ⊢
  generalize normed r1 k = r2 at a2 s2 m2 q2 fin ⊢
  generalize q.map (· / pv1) = q' at hq2 q2
  clear hH7 hvs
  have l2' : v2.length = N := a2.1.trans s2.1
  refine ⟨Nat.zero_le _, fun F' hF => ?_⟩
  have FL : L ≠ F' := fun z => by subst z; rw [eL7] at hF; cases hF
  have S7 : ∀ {H1 : Hp}, Same H7 H1 → SqL K H1 L v2 := fun s => .inl (.inl (s _ _ eL7))
  refine ⟨_, rfl, L, v2, rfl, S7 (same_upd hF), ?_⟩
  refine for_it walk_enum (fun i σ H8 => (∃ x y, σ = [some (.ref L), some (.int (k : Int)), some (.int (sp : Int)), some (.ref F'), x, y, none, none]) ∧ Same H7 H8 ∧ ∃ fs, H8 F' = some (.lst fs) ∧ All2 (fun u r => NumsL K H8 u r ∧ u ≠ .ref F') fs ((cleared r2 k).take i))
    ⟨⟨none, none, rfl⟩, same_upd hF, [], upd_same, All2.nil⟩ (fun i σ H8 _ p => S7 p.2.1) ?_ ?_
  · rintro i x σ H8 H9 hi ⟨⟨z1', z2', rfl⟩, s8, fs, eF, aF⟩ ⟨Tp, x1, y1, rfl, hT, rfl, hx, hy⟩
    cases hx
    have hiN : i < N := by omega
    obtain ⟨r, hr, c2', wr, rfl, ec2, aw2⟩ := a2.get' hy
    have t9 := same_upd (o := .tup [V.int (i : Nat), V.ref c2']) hT
    have s9 := s8.trans t9
    have eF9 := t9 _ _ eF
    have clen : (cleared r2 k).length = N := (LC.shape_cleared s2 kN).1
    have cg : (cleared r2 k)[i]? = some (clear1 r2 k i r) := by unfold LC.cleared; rw [List.getElem?_mapIdx, hr]; rfl
    have fl : fs.length = i := by rw [aF.1, List.length_take]; omega
    have rl : r.length = N + 1 := s2.2 r (List.mem_of_getElem? hr)
    -- what an append does
    have app : ∀ {H10 : Hp} {u : V}, Same (upd H8 Tp (.tup [V.int (i : Nat), V.ref c2'])) H10 → NumsL K H10 u (clear1 r2 k i r) → u ≠ .ref F' →
        Same H7 (upd H10 F' (.lst (fs ++ [u]))) ∧ ∃ gs, upd H10 F' (.lst (fs ++ [u])) F' = some (.lst gs) ∧ All2 (fun u' r => NumsL K (upd H10 F' (.lst (fs ++ [u]))) u' r ∧ u' ≠ .ref F') gs ((cleared r2 k).take (i + 1)) := fun {H10 u} s10 hu hne => by
      have eF10 := s10 _ _ eF9
      refine ⟨same_at (s9.trans s10) hF, _, upd_same, ?_⟩
      rw [List.take_add_one, cg]
      refine (aF.imp fun x y z => ⟨(z.1.s (t9.trans s10)).upd_ z.2 eF10, z.2⟩).snoc ⟨hu.upd_ hne eF10, hne⟩
    obtain ⟨g, hg⟩ : ∃ g, r[k]? = some g := ⟨_, List.getElem?_eq_getElem (by omega)⟩
    obtain ⟨yg, hyg, rg⟩ := aw2.get hg
    refine ⟨_, _, rfl, .inl (.inl upd_same), rfl, _, _, rfl, _, _, rfl, rfl, ?_⟩
    have own : ∀ {H10 : Hp}, Same (upd H8 Tp (.tup [V.int (i : Nat), V.ref c2'])) H10 → NumsL K H10 (.ref c2') r := fun s10 => ⟨c2', wr, rfl, (s9.trans s10) _ _ ec2, aw2.imp fun x y z => z.n (same_n (s9.trans s10))⟩
    have nF : V.ref c2' ≠ .ref F' := NumsL.ne (H := H7) ⟨c2', wr, rfl, ec2, aw2⟩ hF
    refine ⟨_, rfl, _, rfl, rfl, _, rfl, ite2 (fun h0 => ?_) (fun h0 => ?_)⟩
    · have e1 : clear1 r2 k i r = r := by
        unfold LC.clear1
        rw [if_pos (.inl (by have := of_decide_eq_true h0; have := V.int.inj this; omega))]
      refine iteT ⟨_, rfl, .inl ⟨rfl, fs, .inl (.inl eF9)⟩, _, rfl, F', fs, _, rfl, rfl, eF9, Nat.lt_of_le_of_lt (by omega : fs.length ≤ 10) (by decide), ?_⟩
      obtain ⟨f1, f2⟩ := app (Same.refl _) (by rw [e1]; exact own (Same.refl _)) nF
      exact ⟨⟨_, _, rfl⟩, f1, f2⟩
    · have nik : i ≠ k := fun z => h0 (decide_eq_true (by rw [z]))
      refine ⟨_, rfl, _, rfl, c2', wr, _, yg, rfl, rfl, .inl (.inl (s9 _ _ ec2)), atI_nat hyg, ?_⟩
      refine fun x dx hx hdx ne => mR1 hx hdx ne fun H10 s10 hz => ⟨rfl, ?_⟩
      refine ⟨g, 0, rg.n (same_n (s9.trans s10)), hz, _, rfl, ite2 (fun h1 => ?_) (fun h1 => ?_)⟩
      · have e1 : clear1 r2 k i r = r := by
          unfold LC.clear1
          rw [hg, if_pos (.inr (by simpa using h1))]
        have eF10 := s10 _ _ eF9
        refine ⟨_, rfl, .inl ⟨rfl, fs, .inl (.inl eF10)⟩, _, rfl, F', fs, _, rfl, rfl, eF10, Nat.lt_of_le_of_lt (by omega : fs.length ≤ 10) (by decide), ?_⟩
        obtain ⟨f1, f2⟩ := app s10 (by rw [e1]; exact own s10) nF
        exact ⟨⟨_, _, rfl⟩, f1, f2⟩
      · have gne : g ≠ 0 := by simpa using h1
        have e1 : clear1 r2 k i r = List.zipWith (fun e d => e - d * g) r q' := by
          unfold LC.clear1
          rw [hg, if_neg (by rintro (z | z); exact nik z; exact gne z), q2]
          rfl
        have eF10 := s10 _ _ eF9
        have s10' := s9.trans s10
        refine ⟨_, rfl, .inl ⟨rfl, fs, .inl (.inl eF10)⟩, _, rfl, _, rfl, _, rfl, L, v2, _, _, rfl, rfl, S7 s10', atI_nat g2, c2', D2, wr, ys2, rfl, .inl (.inl (s10' _ _ ec2)), .inl (.inl (s10' _ _ eD7)), fun D3 hD3 => ?_⟩
        have wrl : wr.length = N + 1 := aw2.1.trans rl
        have y2l : ys2.length = N + 1 := by rw [l1]; exact wl
        have q'l : q'.length = N + 1 := by rw [← hq2.1]; exact y2l
        refine lcm (walk_zip rfl) hD3 (Nat.le_trans (by omega : min wr.length ys2.length ≤ 11) (by decide)) (fun _ => true) (fun j y H1 => ∃ g1 g2, r[j]? = some g1 ∧ q'[j]? = some g2 ∧ IsR K H1 y (g1 - g2 * g)) (fun j y H1 H2 s z => ?_) (fun H1 s => ⟨.inl (.inl ((s10'.trans s) _ _ ec2)), .inl (.inl ((s10'.trans s) _ _ eD7))⟩) (fun j x H6 H1 kN' kY hj s y kn ky => ?_) (fun H11 ys3 s11 e11 kp3 => ?_)
        · obtain ⟨g1, g2, a1, a2, r⟩ := z
          exact ⟨g1, g2, a1, a2, r.n s⟩
        · obtain ⟨Tq, x1, y1, rfl, hTq, rfl, hx1, hy1⟩ := y
          obtain ⟨g1, hg1, rg1⟩ := aw2.get' hx1
          obtain ⟨g2, hg2, rg2⟩ := hq2.get' hy1
          have s12 := (s10'.trans s).trans (same_upd (o := .tup [x1, y1]) hTq)
          refine ⟨_, _, rfl, .inl (.inl upd_same), rfl, _, _, rfl, _, _, rfl, rfl, rfl, yes ?_⟩
          refine ⟨_, rfl, _, rfl, _, rfl, _, rfl, c2', wr, _, yg, rfl, rfl, .inl (.inl (s12 _ _ ec2)), atI_nat hyg, ?_⟩
          refine ⟨g2, g, t + b, t + b, t, b, (rg2.n sn7).n (same_n s12), .inl (rg.n (same_n s12)), m2.row _ q2 _ (List.mem_of_getElem? hg2), m2.rest i r nik hr _ (List.mem_of_getElem? hg), by omega, by omega, fun H13 m s13 hm => ?_⟩
          refine ⟨g1, g2 * g, t, b, t + b + t, t + b + b, rg1.n (same_n (s12.trans s13)), .inl hm, m2.rest i r nik hr _ (List.mem_of_getElem? hg1), (m2.row _ q2 _ (List.mem_of_getElem? hg2)).mul (m2.rest i r nik hr _ (List.mem_of_getElem? hg)), by omega, by omega, fun H14 m2' s14 hm2 => ?_⟩
          exact ky _ _ ((same_upd hTq).trans (s13.trans s14)) rfl ⟨g1, g2, hg1, hg2, hm2⟩
        · obtain ⟨l3, l4⟩ := kp3.all
          have eF11 := s11 _ _ eF10
          have n3 : NumsL K H11 (.ref D3) (clear1 r2 k i r) := by
            rw [e1]
            refine ⟨D3, ys3, rfl, e11, all2_of (by rw [l3, List.length_zipWith]; omega) fun j y hy => ?_⟩
            obtain ⟨g1, g2, a1, a2, r⟩ := l4 j y hy
            exact ⟨g1 - g2 * g, by rw [List.getElem?_zipWith, a1, a2], r⟩
          have nF3 : V.ref D3 ≠ .ref F' := fun z => by cases z; rw [eF10] at hD3; cases hD3
          refine ⟨F', fs, _, rfl, rfl, eF11, Nat.lt_of_le_of_lt (by omega : fs.length ≤ 10) (by decide), ?_⟩
          obtain ⟨f1, f2⟩ := app (s10.trans s11) n3 nF3
          exact ⟨⟨_, _, rfl⟩, f1, f2⟩
  · rintro σ H8 ⟨⟨z1', z2', rfl⟩, s8, fs, eF, aF⟩
    refine ⟨_, rfl, ?_⟩
    have clen : (cleared r2 k).length = N := (LC.shape_cleared s2 kN).1
    rw [l2', List.take_of_length_le (by omega)] at aF
    exact fin H8 _ (s7.trans s8) ⟨F', fs, rfl, eF, aF.imp fun x y z => z.1⟩
end
end Lc
set_option Elab.async false
set_option linter.all false
set_option maxRecDepth 100000
set_option maxHeartbeats 4000000
namespace Lc
open PySem PySem.Spec PyProof.Rows L2 LcR
open LC (Sz Shape SzR ent Sol Triv elim1)
def tbs : Nat → Nat × Nat
  | 0 => (6, 0)
  | i + 1 => (2 * (tbs i).1 + 2 * (tbs i).2 + 1, (tbs i).1 + 3 * (tbs i).2)
theorem tbs_ok : ∀ i, i < 5 → (tbs i).1 + 3 * (tbs i).2 < 8999 ∧ 4 * ((tbs i).1 + (tbs i).2) ≤ 40000 ∧ (tbs i).1 + (tbs i).2 < 8999 := by decide
theorem tbs_le : ∀ i, i < 6 → (tbs i).1 ≤ 2169 ∧ (tbs i).2 ≤ 2158 := by decide
theorem atI_last' {α : Type} {xs : List α} {n : Nat} {v : α} (hl : xs.length = n + 1) (h : xs[n]? = some v) : atI xs (-1) = some v := by
  unfold atI
  have : ixN xs.length (-1) = some n := by
    unfold ixN
    rw [if_neg (by omega), if_pos (by omega), hl]
    congr 1
    omega
  rw [this]
  exact h
section
variable {P : Program} {w : World} {K : PySem.W.Frag} {mg : Str → Option Value} {base : Heap}
/-- the solution and the place N's own number -/
def solV (N : Nat) (q : List Rat) : Nat → Rat := fun j => (if j < N then numN q j else 0) + (if j = N then -1 else 0)
def sp_solved (K : PySem.W.Frag) : Sp := fun vs H Q _ => ∃ (v : V) (N : Nat) (rs : List LC.Row), vs = [v] ∧ RowsV K H v rs ∧ Shape N rs ∧ N ≤ 5 ∧ Triv N rs ∧ SzR 6 0 rs ∧
  ∀ H' a us q, Same H H' → H' a = some (.lst us) → All2 (IsR K H') us q → q.length = N → Sol rs (solV N q) → (∀ x ∈ q, Sz 2169 2158 x) → Q (.ref a) H'
theorem c_solved (T : Tx K mg) : C8.Cal P w K mg base 6 "solved" (sp_solved K) [] := by
  obtain ⟨fd, F⟩ := T.f_solved
  refine calD F T.g_solved sc_solved (fun _ _ _ _ _ _ us hl => match us, hl with | [_], _ => rfl) (fun vs H Q E h => ?_) (fun cdv A outer s H vs Q E hr h => ?_)
  · obtain ⟨_, _, _, rfl, _⟩ := h; rfl
  obtain ⟨v, N, rs, rfl, hv, sh, N5, tr, sz, k⟩ := h
  refine ⟨_, (pss_cons (ps_for PassesOwn.never rfl (pi_range1 (by rfl) T.b_range (pa_cons (pe_callB call_len (by rfl) T.b_len (by decide +kernel) (pa_cons (pv 0) pa_nil)) pa_nil)) (pg_name (i := 1) sc_solved.nd rfl (Or.inl rfl))
      (pss_one (ps_set (i := 0) sc_solved.nd rfl (Or.inl rfl) (C8.pe_c (c_eliminated T) hr (by decide) (by rfl) (pa_cons (pv 0) (pa_cons (pv 1) pa_nil))))))
      (pss_one (ps_ret (pe_lc (own := [("row", 2)]) (g := gName 2) (te := (tOp (rIxL K) (tVar 2) (tUn (rU fun i => .int (-i)) (tC (.int 1))))) (by rfl) sc_solved.nd (pi_list (pv 0)) (blkOk_by (own := [("row", 2)]) (N := N_solved) (sc := defScope s_solved) (by decide +kernel)) (fun _ _ _ _ _ => (pg_name (i := 2) sc_solved.nd rfl (Or.inl rfl))) (fun _ _ _ _ _ => pts_nil) (fun _ _ _ _ _ => (pe_ix ix_list (pv 2) (pe_un un_neg pe_int) (fun _ _ => rfl))))))), ?_⟩
  obtain ⟨a, us, rfl, ea, al⟩ := id hv
  have ul : us.length = N := al.1.trans sh.1
  refine ⟨_, rfl, _, N, rfl, .inl ⟨us, .inl (.inl ea), ul.symm⟩, (N : Int), rfl, by omega, by omega, ?_⟩
  rw [Int.toNat_natCast]
  refine for_it walk_range (fun i σ H2 => (∃ v2 x rs2, σ = [some v2, x, none] ∧ RowsV K H2 v2 rs2 ∧ Shape N rs2 ∧ LC.Unit i rs2 ∧ Triv N rs2 ∧ (∀ x, Sol rs2 x → Sol rs x) ∧ SzR (tbs i).1 (tbs i).2 rs2) ∧ Same H H2)
    ⟨⟨_, none, rs, rfl, hv, sh, fun _ j _ hj => absurd hj (Nat.not_lt_zero _), tr, fun _ h => h, sz⟩, Same.refl _⟩ (fun i σ H2 _ p => trivial) ?_ ?_
  · rintro i x σ H2 H3 hi ⟨⟨v2, z, rs2, rfl, h1, h2, h3, h4, h5, h6⟩, s2⟩ ⟨rfl, ex⟩
    obtain rfl : x = V.int ((i : Nat) : Int) := ex.trans (congrArg V.int (Int.zero_add _))
    obtain ⟨b1, b2, b3⟩ := tbs_ok i (by omega)
    refine ⟨_, rfl, _, rfl, v2, i, N, _, _, rs2, rfl, h1, h2, by omega, hi, LC.piv_ex h2 hi h3 h4, h6, b1, b2, b3, fun s H4 v' g1 g2 g3 s4 hr => ?_⟩
    exact ⟨⟨v', _, _, rfl, hr, LC.shape_elim h2 g1 g2, LC.unit_elim h2 g1 g2 g3 h3, LC.triv_elim h2 g1 g2 g3 h4, fun x hx => h5 x (LC.sol_elim h2 g1 g2 g3 hx), LC.szr_elim h2 g1 g2 g3 h6⟩, s2.trans s4⟩
  · rintro σ H2 ⟨⟨v2, z, rs2, rfl, ⟨a2, us2, rfl, ea2, al2⟩, h2, h3, h4, h5, h6⟩, s2⟩
    have u2 : us2.length = N := al2.1.trans h2.1
    refine ⟨_, rfl, a2, rfl, ⟨us2, .inl (.inl ea2)⟩, fun D hD => ?_⟩
    refine lcm walk_list hD (Nat.le_trans (by omega : us2.length ≤ 5) (by decide)) (fun _ => true) (fun i y H1 => IsR K H1 y (ent rs2 i N)) (fun i y H1 H2 s z => z.n s) (fun H1 s => .inl (.inl (s _ _ ea2))) (fun i x H6 H1 kN' kY hi s y kn ky => ?_) (fun H6 ys s6 e6 kp => ?_)
    · obtain ⟨rfl, hx⟩ := y
      obtain ⟨r, hr, hn⟩ := al2.get' hx
      obtain ⟨c, ws, rfl, ec, aw⟩ := hn.s s
      have rl := h2.2 r (List.mem_of_getElem? hr)
      obtain ⟨g, hg⟩ : ∃ g, r[N]? = some g := ⟨_, List.getElem?_eq_getElem (by omega)⟩
      obtain ⟨y, hy, ry⟩ := aw.get hg
      have en : ent rs2 i N = g := by rw [LC.ent_eq hr, hg]; rfl
      refine ⟨rfl, yes ⟨_, rfl, _, rfl, c, ws, _, y, rfl, rfl, .inl (.inl ec), atI_last' (aw.1.trans rl) hy, ?_⟩⟩
      exact ky _ _ (Same.refl _) rfl (by rw [en]; exact ry)
    · obtain ⟨l1, l2⟩ := kp.all
      have e1 : ∀ j, j < N → numN ((List.range N).map fun i => ent rs2 i N) j = ent rs2 j N := fun j hj => by
        unfold numN
        rw [List.getElem?_map, List.getElem?_range hj]
        rfl
      refine k H6 D ys ((List.range N).map fun i => ent rs2 i N) (s2.trans s6) e6 (all2_of (by simp [l1, u2]) fun i y hy => ?_) (by simp) (h5 _ ?_) fun x hx => ?_
      · have hi : i < N := by
          have := (List.getElem?_eq_some_iff.mp hy).1
          omega
        exact ⟨_, by rw [List.getElem?_map, List.getElem?_range hi]; rfl, l2 i y hy⟩
      · have := LC.sol_told h2 h3
        have e2 : solV N ((List.range N).map fun i => ent rs2 i N) = LC.told N rs2 := by
          funext j
          unfold solV LC.told
          by_cases hj : j < N
          · rw [if_pos hj, if_pos hj, e1 j hj]
          · rw [if_neg hj, if_neg hj]
        rw [e2]
        exact this
      · obtain ⟨i, hi, rfl⟩ := List.mem_map.mp hx
        have := tbs_le N (by omega)
        exact (LC.szr_ent h6 i N).mono this.1 this.2
end
end Lc
set_option Elab.async false
set_option linter.all false
set_option maxRecDepth 100000
set_option maxHeartbeats 4000000
namespace Lc
open PySem PySem.Spec PyProof.Rows L2 LcR
open LC (Sz psum wsum mean)
def ActsL (H : Hp) (v : V) (l : List ActD) : Prop := ∃ a us, v = .ref a ∧ H a = some (.lst us) ∧ All2 (ActV H) us l
theorem ActsL.s {H H' : Hp} {v : V} {l : List ActD} (h : ActsL H v l) (s : Same H H') : ActsL H' v l := by
  obtain ⟨a, us, rfl, e, al⟩ := h
  exact ⟨a, us, rfl, s _ _ e, al.imp fun x y z => z.n (same_n s)⟩
/-! ### a comprehension in a comprehension -/
theorem relabel_lookup {env : Env} {x : Str} : ∀ {names : List (Str × NameKind)}, names.lookup x = some .cell ∨ names.lookup x = some .free →
    (names.map fun (n, k) => if (k == NameKind.free && env.scope.kind == .function && env.kindOf n == some .cell) then (n, NameKind.cell) else (n, k)).lookup x = some .cell ∨
    (names.map fun (n, k) => if (k == NameKind.free && env.scope.kind == .function && env.kindOf n == some .cell) then (n, NameKind.cell) else (n, k)).lookup x = some .free
  | [], h => by simp at h
  | (n, k) :: r, h => by
    by_cases e : x = n
    · subst e
      have es : (x == x) = true := by simp
      rw [List.lookup_cons, es] at h
      rcases h with h | h <;> cases h
      · left
        simp
      · by_cases c : (env.scope.kind == .function && env.kindOf x == some .cell) = true
        · left
          simp at c
          simp [c]
        · right
          simp at c
          simp
          rw [if_neg (fun z => c z.1 z.2)]
          simp
    · have ne : (x == n) = false := by simpa using e
      rw [List.lookup_cons, ne] at h
      have ih := relabel_lookup (env := env) h
      simp only [List.map_cons]
      split
      · rw [List.lookup_cons, ne]; exact ih
      · rw [List.lookup_cons, ne]; exact ih
theorem blkOk_in {env : Env} {N N' : List Str} {scope0 scope : Scope} {own : List (Str × Nat)} (hN : N' = N) (h : blkC N scope0 scope own = true) : BlkOk N' (relabel scope0 env) scope own := by
  subst hN
  have b := blkOk_by h
  exact ⟨b.kind, b.uniq, b.ix, fun y hy e => relabel_lookup (b.free y hy e), b.own⟩
/-- readings of list(x), tuple(x), int(x) -/
def rListOf (K : PySem.W.Frag) : List V → Hp → VK → Prop := fun xs H Q => ∃ p ys, xs = [V.ref p] ∧ (SqL K H p ys ∨ SqT K H p ys) ∧ ∀ l : Addr, H l = none → Q (V.ref l) (upd H l (HO.lst ys))
end Lc
set_option linter.all false
namespace LC
/-! ### a step that exchanges two rows -/
def swp (rs : List Row) (k s : Nat) : List Row := (rs.set k ((rs[s]?).getD [])).set s ((rs[k]?).getD [])
def gauss1 (rs : List Row) (k s : Nat) : List Row := cleared (normed (swp rs k s) k) k
section
variable {N : Nat} {rs : List Row} {k s : Nat}
theorem swp_get (hk : k < rs.length) (hs : s < rs.length) (i : Nat) : (swp rs k s)[i]? = if i = k then rs[s]? else if i = s then rs[k]? else rs[i]? := by
  unfold swp
  rw [List.getElem?_eq_getElem hk, List.getElem?_eq_getElem hs, Option.getD_some, Option.getD_some]
  by_cases h1 : i = k
  · rw [if_pos h1]
    subst h1
    by_cases h2 : s = i
    · subst h2
      rw [List.getElem?_set_self (by rw [List.length_set]; exact hk)]
    · rw [List.getElem?_set_ne h2, List.getElem?_set_self hk]
  · rw [if_neg h1]
    by_cases h2 : i = s
    · rw [if_pos h2]
      subst h2
      rw [List.getElem?_set_self (by rw [List.length_set]; exact hs)]
    · rw [if_neg h2, List.getElem?_set_ne (Ne.symm h2), List.getElem?_set_ne (Ne.symm h1)]
theorem swp_mem (hk : k < rs.length) (hs : s < rs.length) (r : Row) : r ∈ swp rs k s ↔ r ∈ rs := by
  rw [List.mem_iff_getElem?, List.mem_iff_getElem?]
  constructor
  · rintro ⟨i, h⟩
    rw [swp_get hk hs] at h
    split at h
    · exact ⟨_, h⟩
    · split at h
      · exact ⟨_, h⟩
      · exact ⟨_, h⟩
  · rintro ⟨i, h⟩
    by_cases h1 : i = k
    · subst h1
      by_cases h2 : s = i
      · subst h2
        exact ⟨s, by rw [swp_get hk hs, if_pos rfl]; exact h⟩
      · exact ⟨s, by rw [swp_get hk hs, if_neg h2, if_pos rfl]; exact h⟩
    · by_cases h2 : i = s
      · subst h2
        exact ⟨k, by rw [swp_get hk hs, if_pos rfl]; exact h⟩
      · exact ⟨i, by rw [swp_get hk hs, if_neg h1, if_neg h2]; exact h⟩
theorem shape_swp (h : Shape N rs) (hk : k < N) (hs : s < N) : Shape N (swp rs k s) := by
  obtain ⟨h1, h2⟩ := h
  refine ⟨by unfold swp; rw [List.length_set, List.length_set, h1], fun r hr => h2 r ((swp_mem (by omega) (by omega) r).mp hr)⟩
theorem unit_swp (h : Shape N rs) (hk : k ≤ s) (hs : s < N) (U : Unit k rs) : Unit k (swp rs k s) := by
  have hk2 : k < rs.length := by rw [h.1]; omega
  have hs2 : s < rs.length := by rw [h.1]; omega
  have l := (shape_swp h (by omega : k < N) hs).1
  intro i j hi hj
  unfold ent
  rw [swp_get hk2 hs2]
  by_cases h1 : i = k
  · rw [if_pos h1]
    have := U s j hs2 hj
    unfold ent at this
    rw [this, if_neg (by omega), if_neg (by omega)]
  · rw [if_neg h1]
    by_cases h2 : i = s
    · rw [if_pos h2]
      have := U k j hk2 hj
      unfold ent at this
      rw [this, if_neg (by omega), if_neg (by omega)]
    · rw [if_neg h2]
      exact U i j (by rw [h.1]; omega) hj
theorem swp_piv (h : Shape N rs) (hk : k < N) (hs : s < N) (hp : ent rs s k ≠ 0) : ent (swp rs k s) k k ≠ 0 := by
  unfold ent
  rw [swp_get (by rw [h.1]; exact hk) (by rw [h.1]; exact hs), if_pos rfl]
  exact hp
theorem szr_swp {t b : Nat} (h : Shape N rs) (hk : k < N) (hs : s < N) (z : SzR t b rs) : SzR t b (swp rs k s) := fun r hr => z r ((swp_mem (by rw [h.1]; exact hk) (by rw [h.1]; exact hs) r).mp hr)
theorem sol_gauss {x : Nat → Rat} (h : Shape N rs) (hk : k ≤ s) (hs : s < N) (hp : ent rs s k ≠ 0) (S : Sol (gauss1 rs k s) x) : Sol rs x := by
  have hkN : k < N := by omega
  have s1 := shape_swp h hkN hs
  have s2 := sol_normed s1 hkN (swp_piv h hkN hs hp) (sol_cleared (shape_normed s1 hkN) hkN S)
  exact fun r hr => s2 r ((swp_mem (by rw [h.1]; exact hkN) (by rw [h.1]; exact hs) r).mpr hr)
theorem shape_gauss (h : Shape N rs) (hk : k ≤ s) (hs : s < N) : Shape N (gauss1 rs k s) :=
  shape_cleared (shape_normed (shape_swp h (by omega) hs) (by omega)) (by omega)
theorem unit_step {r1 : List Row} (s1 : Shape N r1) (hkN : k < N) (U1 : Unit k r1) (p1 : ent r1 k k ≠ 0) : Unit (k + 1) (cleared (normed r1 k) k) := by
  obtain ⟨n1, n2⟩ := normed_at s1 hkN
  have s2 := shape_normed s1 hkN
  have kk : ent (normed r1 k) k k = 1 := by
    rw [n2 k (by omega), Rat.div_def]
    exact Rat.mul_inv_cancel _ p1
  have U2 : Unit k (normed r1 k) := by
    intro i j hi hj
    by_cases c : i = k
    · subst c
      rw [n2 j (by omega), U1 i j (by rw [s1.1]; exact hkN) hj, if_neg (by omega), Rat.div_def, Rat.zero_mul]
    · have z := U1 i j (by rw [s1.1]; rw [s2.1] at hi; exact hi) hj
      unfold ent at z ⊢
      rw [n1 i c]; exact z
  generalize normed r1 k = r2 at s2 kk U2 ⊢
  have s3 := shape_cleared s2 hkN
  intro i j hi hj
  rw [s3.1] at hi
  rw [cleared_at s2 hkN hi (by omega)]
  have l2 : i < r2.length := by rw [s2.1]; exact hi
  have lk : k < r2.length := by rw [s2.1]; exact hkN
  by_cases c : j = k
  · subst c
    split
    · rename_i q
      rcases q with q | q
      · subst q; rw [kk, if_pos rfl]
      · rw [q]
        split
        · rename_i q2; subst q2; rw [kk] at q; exact absurd q (by decide)
        · rfl
    · rename_i q
      rw [kk, if_neg (fun z => q (.inl z))]
      grind
  · have hj2 : j < k := by omega
    have e1 := U2 i j l2 hj2
    have e2 := U2 k j lk hj2
    rw [if_neg (by omega)] at e2
    split
    · exact e1
    · rw [e1, e2]; grind
theorem unit_gauss (h : Shape N rs) (hk : k ≤ s) (hs : s < N) (hp : ent rs s k ≠ 0) (U : Unit k rs) : Unit (k + 1) (gauss1 rs k s) :=
  unit_step (shape_swp h (by omega) hs) (by omega) (unit_swp h hk hs U) (swp_piv h (by omega) hs hp)
theorem triv_gauss (h : Shape N rs) (hk : k ≤ s) (hs : s < N) (hp : ent rs s k ≠ 0) (T : Triv N rs) : Triv N (gauss1 rs k s) :=
  fun x hx S => T x hx (sol_gauss h hk hs hp S)
theorem szr_gauss {t b : Nat} (h : Shape N rs) (hk : k ≤ s) (hs : s < N) (hp : ent rs s k ≠ 0) (z : SzR t b rs) : SzR (2 * t + 2 * b + 1) (t + 3 * b) (gauss1 rs k s) :=
  szr_cleared (szm_normed (shape_swp h (by omega) hs) (by omega) (swp_piv h (by omega) hs hp) (szr_swp h (by omega) hs z))
end
end LC
set_option Elab.async false
set_option linter.all false
set_option maxRecDepth 100000
set_option maxHeartbeats 4000000
namespace Lc
open PySem PySem.Spec PyProof.Rows L2 LcR
open LC (Sz Shape SzR ent Sol Triv gauss1 swp normed cleared clear1)
/-- rows of which the first j have been cleared -/
def clr (r2 : List LC.Row) (k j : Nat) : List LC.Row := r2.mapIdx fun i r => if i < j then clear1 r2 k i r else r
theorem clr_get (r2 : List LC.Row) (k j i : Nat) : (clr r2 k j)[i]? = (r2[i]?).map fun r => if i < j then clear1 r2 k i r else r := by
  unfold clr
  rw [List.getElem?_mapIdx]
theorem clr_len (r2 : List LC.Row) (k j : Nat) : (clr r2 k j).length = r2.length := List.length_mapIdx
theorem clr_zero (r2 : List LC.Row) (k : Nat) : clr r2 k 0 = r2 := by
  apply List.ext_getElem?
  intro i
  rw [clr_get]
  cases r2[i]? <;> simp
theorem clr_succ {r2 : List LC.Row} {k j : Nat} {r : LC.Row} (h : r2[j]? = some r) : clr r2 k (j + 1) = (clr r2 k j).set j (clear1 r2 k j r) := by
  have hj := (List.getElem?_eq_some_iff.mp h).1
  apply List.ext_getElem?
  intro i
  by_cases e : i = j
  · subst e
    rw [List.getElem?_set_self (by rw [clr_len]; exact hj), clr_get, h]
    simp
  · rw [List.getElem?_set_ne (Ne.symm e), clr_get, clr_get]
    cases r2[i]? with
    | none => rfl
    | some r' =>
      simp only [Option.map_some]
      by_cases c : i < j
      · rw [if_pos c, if_pos (by omega)]
      · rw [if_neg c, if_neg (by omega)]
theorem clr_same {r2 : List LC.Row} {k j : Nat} {r : LC.Row} (h : r2[j]? = some r) (e : clear1 r2 k j r = r) : clr r2 k (j + 1) = clr r2 k j := by
  rw [clr_succ h, e]
  apply List.ext_getElem?
  intro i
  by_cases c : i = j
  · subst c
    have hj := (List.getElem?_eq_some_iff.mp h).1
    rw [List.getElem?_set_self (by rw [clr_len]; exact hj), clr_get, h]
    simp
  · rw [List.getElem?_set_ne (Ne.symm c)]
theorem clr_end {r2 : List LC.Row} {k j : Nat} (h : r2.length ≤ j) : clr r2 k j = cleared r2 k := by
  apply List.ext_getElem?
  intro i
  unfold LC.cleared
  rw [clr_get, List.getElem?_mapIdx]
  by_cases hi : i < r2.length
  · rw [List.getElem?_eq_getElem hi]
    simp only [Option.map_some]
    rw [if_pos (by omega)]
  · rw [List.getElem?_eq_none (by omega)]
    rfl
/-- rows in the list at L, each in a list of its own -/
def RowsN (K : PySem.W.Frag) (H : Hp) (L : Addr) (vs : List V) (rs : List LC.Row) : Prop := H L = some (.lst vs) ∧ All2 (fun u r => NumsL K H u r ∧ u ≠ .ref L) vs rs
theorem RowsN.set {K : PySem.W.Frag} {H : Hp} {L : Addr} {vs : List V} {rs : List LC.Row} {u : V} {r : LC.Row} (h : RowsN K H L vs rs) (j : Nat) (hu : NumsL K H u r) (hne : u ≠ .ref L) : RowsN K (upd H L (.lst (vs.set j u))) L (vs.set j u) (rs.set j r) :=
  ⟨upd_same, all2_set (h.2.imp fun x y z => ⟨z.1.upd_ z.2 h.1, z.2⟩) j ⟨hu.upd_ hne h.1, hne⟩⟩
theorem RowsN.s {K : PySem.W.Frag} {H H' : Hp} {L : Addr} {vs : List V} {rs : List LC.Row} (h : RowsN K H L vs rs) (s : Same H H') : RowsN K H' L vs rs := ⟨s _ _ h.1, h.2.imp fun x y z => ⟨z.1.s s, z.2⟩⟩
theorem RowsN.row {K : PySem.W.Frag} {H : Hp} {L : Addr} {vs : List V} {rs : List LC.Row} (h : RowsN K H L vs rs) {i : Nat} {q : LC.Row} (e : rs[i]? = some q) : ∃ c ws, vs[i]? = some (.ref c) ∧ H c = some (.lst ws) ∧ All2 (IsR K H) ws q ∧ c ≠ L := by
  obtain ⟨y, hy, ⟨c, ws, rfl, ec, aw⟩, hne⟩ := h.2.get e
  exact ⟨c, ws, hy, ec, aw, fun z => hne (by rw [z])⟩
section
variable {P : Program} {w : World} {K : PySem.W.Frag} {mg : Str → Option Value} {base : Heap}
/-- rows in a list of its own, each in one of its own -/
theorem c_law_solved (T : Tx K mg) : C8.Cal P w K mg base 5 "_law_solved" (sp_solved K) [] := by
  obtain ⟨fd, F⟩ := T.f_law_solved
  refine calD F T.g_law_solved sc_law_solved (fun _ _ _ _ _ _ us hl => match us, hl with | [_], _ => rfl) (fun vs H Q E h => ?_) (fun cdv A outer s H vs Q E hr h => ?_)
  · obtain ⟨_, _, _, rfl, _⟩ := h; rfl
  obtain ⟨v, N, rs, rfl, ⟨a, us, rfl, ea, al⟩, sh, N5, tr, sz, k⟩ := h
  refine ⟨_, (pss_cons (ps_set (i := 0) sc_law_solved.nd rfl (Or.inr rfl) (pe_lc (own := [("row", 4)]) (g := gName 4) (te := (tCB (rListOf K) (tCons (tVar 4) tNil))) (by rfl) sc_law_solved.nd (pi_list (pv 0)) (blkOk_by (own := [("row", 4)]) (N := N_law_solved) (sc := defScope s_law_solved) (by decide +kernel)) (fun _ _ _ _ _ => (pg_name (i := 4) sc_law_solved.nd rfl (Or.inl rfl))) (fun _ _ _ _ _ => pts_nil) (fun _ _ _ _ _ => (pe_callTy call_list_of (by rfl) T.b_list (by decide +kernel) (pa_cons (pv 4) pa_nil)))))
      (pss_cons (ps_for PassesOwn.never rfl (pi_range1 (by rfl) T.b_range (pa_cons (pe_callB call_len (by rfl) T.b_len (by decide +kernel) (pa_cons (pv 0) pa_nil)) pa_nil)) (pg_name (i := 1) sc_law_solved.nd rfl (Or.inr rfl))
      (pss_cons (ps_set (i := 2) sc_law_solved.nd rfl (Or.inl rfl) (pe_ix ix_list (pe_lc (own := [("k", 3)]) (g := gName 3) (tt := (tB (tOp rNe (tFld K (tOp (rIxL K) (tOp (rIxL K) (tVar 0) (tVar 3)) (tVar 1)) "top") (tC (.int 0))))) (by rfl) sc_law_solved.nd (pi_range2 (by rfl) T.b_range (pa_cons (pv 1) (pa_cons (pe_callB call_len (by rfl) T.b_len (by decide +kernel) (pa_cons (pv 0) pa_nil)) pa_nil))) (blkOk_by (own := [("k", 3)]) (N := N_law_solved) (sc := defScope s_law_solved) (by decide +kernel)) (fun _ _ _ _ _ => (pg_name (i := 3) sc_law_solved.nd rfl (Or.inl rfl))) (fun _ _ _ _ _ => (pts_one (pt_cmpR op_ne (pe_fld (pe_ix ix_list (pe_ix ix_list (pv 0) (pv 3) (fun _ _ => rfl)) (pv 1) (fun _ _ => rfl)) rfl) pe_int (nomark _)))) (fun _ _ _ _ _ => (pv 3))) pe_int (fun _ _ => rfl)))
      (pss_cons (ps_asg (pe_tup (pa_cons (pe_ix ix_list (pv 0) (pv 2) (fun _ _ => rfl)) (pa_cons (pe_ix ix_list (pv 0) (pv 1) (fun _ _ => rfl)) pa_nil))) (pg_tup rfl (pgs_cons (pg_sub (pv 0) (pv 1) set_list) (pgs_cons (pg_sub (pv 0) (pv 2) set_list) pgs_nil))))
      (pss_cons (ps_asg (pe_lc (own := [("entry", 5)]) (g := gName 5) (te := (tMeth (CRatio K) "over" (sp_over K) [] C8.E0 (tVar 5) (tCons (tOp (rIxL K) (tOp (rIxL K) (tVar 0) (tVar 1)) (tVar 1)) tNil))) (by rfl) sc_law_solved.nd (pi_list (pe_ix ix_list (pv 0) (pv 1) (fun _ _ => rfl))) (blkOk_by (own := [("entry", 5)]) (N := N_law_solved) (sc := defScope s_law_solved) (by decide +kernel)) (fun _ _ _ _ _ => (pg_name (i := 5) sc_law_solved.nd rfl (Or.inl rfl))) (fun _ _ _ _ _ => pts_nil) (fun _ _ _ _ _ => (C8.pe_mt (m_over T) hr (by decide) (pv 5) (pa_cons (pe_ix ix_list (pe_ix ix_list (pv 0) (pv 1) (fun _ _ => rfl)) (pv 1) (fun _ _ => rfl)) pa_nil)))) (pg_sub (pv 0) (pv 1) set_list))
      (pss_one (ps_for PassesOwn.never rfl (pi_range1 (by rfl) T.b_range (pa_cons (pe_callB call_len (by rfl) T.b_len (by decide +kernel) (pa_cons (pv 0) pa_nil)) pa_nil)) (pg_name (i := 3) sc_law_solved.nd rfl (Or.inr rfl))
      (pss_one (ps_if (PW.pt (pw_and (pt_cmpR op_ne (pv 3) (pv 1) (nomark _)) (pw_and1 (pt_cmpR op_ne (pe_fld (pe_ix ix_list (pe_ix ix_list (pv 0) (pv 3) (fun _ _ => rfl)) (pv 1) (fun _ _ => rfl)) rfl) pe_int (nomark _))))) (pss_one (ps_asg (pe_lc (own := [("entry", 5), ("one", 6)]) (g := gTup K 2 (gCons (gName 5) (gCons (gName 6) (gNil)))) (te := (tOp (rRN K fun p q => p - q) (tVar 5) (tOp (rRN K fun p q => p * q) (tOp (rIxL K) (tOp (rIxL K) (tVar 0) (tVar 3)) (tVar 1)) (tVar 6)))) (by rfl) sc_law_solved.nd (pi_zip (by rfl) T.b_zip (pa_cons (pe_ix ix_list (pv 0) (pv 3) (fun _ _ => rfl)) (pa_cons (pe_ix ix_list (pv 0) (pv 1) (fun _ _ => rfl)) pa_nil))) (blkOk_by (own := [("entry", 5), ("one", 6)]) (N := N_law_solved) (sc := defScope s_law_solved) (by decide +kernel)) (fun _ _ _ _ _ => (pg_tup rfl (pgs_cons (pg_name (i := 5) sc_law_solved.nd rfl (Or.inl rfl)) (pgs_cons (pg_name (i := 6) sc_law_solved.nd rfl (Or.inl rfl)) pgs_nil)))) (fun _ _ _ _ _ => pts_nil) (fun _ _ _ _ _ => (pe_op (op_Rsub T hr (by decide)) (pv 5) (pe_op (op_Rmul T hr (by decide)) (pe_ix ix_list (pe_ix ix_list (pv 0) (pv 3) (fun _ _ => rfl)) (pv 1) (fun _ _ => rfl)) (pv 6))))) (pg_sub (pv 0) (pv 3) set_list))) pss_nil))))))))
      (pss_one (ps_ret (pe_lc (own := [("row", 4)]) (g := gName 4) (te := (tOp (rIxL K) (tVar 4) (tUn (rU fun i => .int (-i)) (tC (.int 1))))) (by rfl) sc_law_solved.nd (pi_list (pv 0)) (blkOk_by (own := [("row", 4)]) (N := N_law_solved) (sc := defScope s_law_solved) (by decide +kernel)) (fun _ _ _ _ _ => (pg_name (i := 4) sc_law_solved.nd rfl (Or.inl rfl))) (fun _ _ _ _ _ => pts_nil) (fun _ _ _ _ _ => (pe_ix ix_list (pv 4) (pe_un un_neg pe_int) (fun _ _ => rfl)))))))), ?_⟩
  have ul : us.length = N := al.1.trans sh.1
  refine ⟨_, rfl, a, rfl, ⟨us, .inl (.inl ea)⟩, fun L hL => ?_⟩
  refine lc_it walk_list (fun i H2 => Same H H2 ∧ ∃ vs, RowsN K H2 L vs (rs.take i) ∧ vs.length = i) ⟨same_upd hL, [], ⟨upd_same, All2.nil⟩, rfl⟩ (fun i H2 _ p => .inl (.inl (p.1 _ _ ea))) (fun i x H2 H3 hi pv y => ?_) (fun H2 pv => ?_)
  · obtain ⟨s2, vs, RN, vl⟩ := pv
    obtain ⟨rfl, hx⟩ := y
    obtain ⟨r, hr, c, ws, rfl, ec, aw⟩ := al.get' hx
    refine ⟨rfl, yes ⟨_, rfl, c, ws, rfl, .inl (.inl (.inl (s2 _ _ ec))), fun C hC => ?_⟩⟩
    have s3 := s2.trans (same_upd (o := .lst ws) hC)
    have hCL : C ≠ L := fun z => by subst z; rw [RN.1] at hC; cases hC
    refine ⟨vs, by rw [upd_ne hCL.symm]; exact RN.1, Nat.lt_of_le_of_lt (by omega : vs.length ≤ 5) (by decide), same_at s3 hL, vs ++ [.ref C], ?_, by rw [List.length_append, vl]; rfl⟩
    have RN3 := RN.s (same_upd (o := .lst ws) hC)
    have tk : rs.take (i + 1) = rs.take i ++ [r] := by rw [List.take_add_one, hr]; rfl
    have nC : V.ref C ≠ .ref L := fun z => hCL (V.ref.inj z)
    rw [tk]
    refine ⟨upd_same, (RN3.2.imp fun x y z => ⟨z.1.upd_ z.2 RN3.1, z.2⟩).snoc ⟨NumsL.upd_ ⟨C, ws, rfl, upd_same, aw.imp fun x y z => z.n (same_n s3)⟩ nC RN3.1, nC⟩⟩
  obtain ⟨s2, vs, RN, vl⟩ := pv
  rw [ul] at vl
  rw [List.take_of_length_le (by rw [sh.1]; omega)] at RN
  refine ⟨_, rfl, _, N, rfl, .inl ⟨vs, .inl (.inl RN.1), vl.symm⟩, (N : Int), rfl, by omega, by omega, ?_⟩
  rw [Int.toNat_natCast]
  refine for_it walk_range (fun i σ H2 => (∃ x1 x2 x3, σ = [some (.ref L), x1, x2, x3, none, none, none]) ∧ Same H H2 ∧ ∃ vs rs2, RowsN K H2 L vs rs2 ∧ Shape N rs2 ∧ LC.Unit i rs2 ∧ Triv N rs2 ∧ (∀ x, Sol rs2 x → Sol rs x) ∧ SzR (tbs i).1 (tbs i).2 rs2)
    ⟨⟨none, none, none, rfl⟩, s2, vs, rs, RN, sh, fun _ j _ hj => absurd hj (Nat.not_lt_zero _), tr, fun _ h => h, sz⟩ (fun i σ H2 _ p => trivial) ?_ ?_
  · rintro i x σ H2' H2 hi ⟨⟨x1, x2, x3, rfl⟩, s2, vs, rs2, RN, h2, h3, h4, h5, h6⟩ ⟨rfl, ex⟩
    obtain rfl : x = V.int ((i : Nat) : Int) := ex.trans (congrArg V.int (Int.zero_add _))
    have vl : vs.length = N := RN.2.1.trans h2.1
    obtain ⟨b1, b2, b3⟩ := tbs_ok i (by omega)
    obtain ⟨t, et⟩ : ∃ t, (tbs i).1 = t := ⟨_, rfl⟩
    obtain ⟨b, eb⟩ : ∃ b, (tbs i).2 = b := ⟨_, rfl⟩
    rw [et, eb] at b1 b2 b3 h6
    refine ⟨_, rfl, _, rfl, _, N, rfl, .inl ⟨vs, .inl (.inl RN.1), vl.symm⟩, (i : Int), (N : Int), rfl, ⟨by omega, by omega, by omega, by omega⟩, fun D hD => ?_⟩
    have hn : ((N : Int) - (i : Int)).toNat = N - i := by omega
    rw [hn]
    refine lcm walk_range hD (Nat.le_trans (by omega : N - i ≤ 10) (by decide)) (fun j => !decide (ent rs2 (i + j) i = 0)) (fun j y _ => y = .int ((i + j : Nat) : Int)) (fun _ _ _ _ _ h => h) (fun _ _ => trivial) (fun j x H5 H' kN' kY hj s y kn ky => ?_) (fun H3 ys s3 e kp => ?_)
    · obtain ⟨rfl, ex⟩ := y
      obtain rfl : x = V.int ((i + j : Nat) : Int) := ex.trans (congrArg V.int (Int.natCast_add i j).symm)
      obtain ⟨q, hq⟩ : ∃ q, rs2[i + j]? = some q := ⟨_, List.getElem?_eq_getElem (by rw [h2.1]; omega)⟩
      have ql := h2.2 _ (List.mem_of_getElem? hq)
      obtain ⟨c, ws, e1, e2, e3, e4⟩ := (RN.s s).row hq
      obtain ⟨g, eg⟩ : ∃ g, q[i]? = some g := ⟨_, List.getElem?_eq_getElem (by omega)⟩
      obtain ⟨y, ey, ry⟩ := e3.get eg
      obtain ⟨ya, yd, rfl, eya⟩ := ry
      have en : ent rs2 (i + j) i = g := by rw [LC.ent_eq hq, eg]; rfl
      refine ⟨rfl, ⟨_, rfl, _, rfl, L, vs, _, _, rfl, rfl, .inl (.inl (RN.s s).1), atI_nat e1, _, rfl, c, ws, _, .ref ya, rfl, rfl, .inl (.inl e2), atI_nat ey, ya, _, yd, _, _, rfl, eya, T.cl_Ratio, T.na_Ratio_top, rfl, rfl, _, rfl, ite2 (fun h0 => ?_) (fun h0 => ?_)⟩⟩
      · refine ⟨_, rfl, ky _ _ (Same.refl _) ?_ rfl⟩
        rw [en]
        have h0 : (!decide (V.int g.num = V.int 0)) = true := h0
        simp at h0
        simpa using h0
      · refine kn _ (Same.refl _) ?_
        rw [en]
        have h0 : ¬ (!decide (V.int g.num = V.int 0)) = true := h0
        simp at h0
        simpa using h0
    have ey := kept_map (f := fun j => V.int ((i + j : Nat) : Int)) kp
    obtain ⟨s0, p1, p2, p3⟩ := LC.piv_ex h2 hi h3 h4
    have yne : ys ≠ [] := by
      rw [ey]
      refine List.ne_nil_of_mem (a := V.int ((s0 : Nat) : Int)) (List.mem_map.mpr ⟨s0 - i, List.mem_filter.mpr ⟨List.mem_range.mpr (by omega), ?_⟩, by rw [show i + (s0 - i) = s0 by omega]⟩)
      rw [show i + (s0 - i) = s0 by omega]
      simpa using p3
    obtain ⟨y0, yr, rfl⟩ := List.exists_cons_of_ne_nil yne
    obtain ⟨sp, hs1, hs2, hp, rfl⟩ : ∃ sp, i ≤ sp ∧ sp < N ∧ ent rs2 sp i ≠ 0 ∧ y0 = V.int ((sp : Nat) : Int) := by
      have : y0 ∈ ((List.range (N - i)).filter fun j => !decide (ent rs2 (i + j) i = 0)).map fun j => V.int ((i + j : Nat) : Int) := by rw [← ey]; exact List.mem_cons_self
      obtain ⟨j, hj, rfl⟩ := List.mem_map.mp this
      obtain ⟨hj1, hj2⟩ := List.mem_filter.mp hj
      have := List.mem_range.mp hj1
      exact ⟨i + j, by omega, by omega, by simpa using hj2, rfl⟩
    clear kp ey yne p1 p2 p3
    have RN3 := RN.s s3
    obtain ⟨qs, hqs⟩ : ∃ q, rs2[sp]? = some q := ⟨_, List.getElem?_eq_getElem (by rw [h2.1]; exact hs2)⟩
    obtain ⟨qi, hqi⟩ : ∃ q, rs2[i]? = some q := ⟨_, List.getElem?_eq_getElem (by rw [h2.1]; exact hi)⟩
    obtain ⟨cs, wss, es1, es2, es3, es4⟩ := RN3.row hqs
    obtain ⟨ci, wsi, ei1, ei2, ei3, ei4⟩ := RN3.row hqi
    refine ⟨D, _, 0, .int (sp : Int), rfl, rfl, .inl (.inl e), atI_nat (j := 0) rfl, ?_⟩
    refine ⟨_, rfl, _, rfl, L, vs, _, _, rfl, rfl, .inl (.inl RN3.1), atI_nat es1, ?_⟩
    refine ⟨_, rfl, _, rfl, L, vs, _, _, rfl, rfl, .inl (.inl RN3.1), atI_nat ei1, by show 2 ≤ sizeLine; decide, fun tp htp => ?_⟩
    have RN4 := RN3.s (same_upd (o := .tup [.ref cs, .ref ci]) htp)
    refine ⟨tp, _, rfl, .inl (.inl upd_same), rfl, ?_⟩
    refine ⟨_, _, rfl, _, rfl, _, rfl, L, _, _, i, rfl, rfl, RN4.1, ix_nat (by omega), ?_⟩
    have h1s : Same H (upd H3 tp (.tup [.ref cs, .ref ci])) := s2.trans (s3.trans (same_upd (o := .tup [.ref cs, .ref ci]) htp))
    have hLn : H L = none := hL
    generalize upd H3 tp (.tup [.ref cs, .ref ci]) = H4 at RN4 h1s ⊢
    obtain ⟨cs', wss', es1', es2', es3', es4'⟩ := RN4.row hqs
    obtain ⟨ci', wsi', ei1', ei2', ei3', ei4'⟩ := RN4.row hqi
    rw [es1] at es1'
    rw [ei1] at ei1'
    cases es1'
    cases ei1'
    have RN5 := RN4.set (r := qs) i ⟨cs, wss', rfl, es2', es3'⟩ (fun z => es4 (V.ref.inj z))
    have h5s : Same H (upd H4 L (.lst (vs.set i (.ref cs)))) := same_at h1s hL
    have n45 : NumsL K (upd H4 L (.lst (vs.set i (.ref cs)))) (.ref ci) qi := NumsL.upd_ ⟨ci, wsi', rfl, ei2', ei3'⟩ (fun z => ei4 (V.ref.inj z)) RN4.1
    generalize upd H4 L (.lst (vs.set i (.ref cs))) = H5 at RN5 h5s n45 ⊢
    refine ⟨_, _, rfl, _, rfl, _, rfl, L, _, _, sp, rfl, rfl, RN5.1, ix_nat (by rw [List.length_set]; omega), ?_⟩
    have RN6 := RN5.set (r := qi) sp n45 (fun z => ei4 (V.ref.inj z))
    have h6s : Same H (upd H5 L (.lst ((vs.set i (.ref cs)).set sp (.ref ci)))) := same_at h5s hL
    generalize upd H5 L (.lst ((vs.set i (.ref cs)).set sp (.ref ci))) = H6 at RN6 h6s ⊢
    generalize (vs.set i (.ref cs)).set sp (.ref ci) = v1 at RN6 ⊢
    have e1 : (rs2.set i qs).set sp qi = swp rs2 i sp := by
      unfold LC.swp
      rw [hqs, hqi]
      rfl
    rw [e1] at RN6
    have sU := LC.shape_swp h2 hi hs2
    have zU := LC.szr_swp h2 hi hs2 h6
    have pU := LC.swp_piv h2 hi hs2 hp
    have rU : (swp rs2 i sp)[i]? = some qs := by rw [LC.swp_get (by rw [h2.1]; exact hi) (by rw [h2.1]; exact hs2), if_pos rfl]; exact hqs
    have g1 := LC.shape_gauss h2 hs1 hs2
    have g2 := LC.unit_gauss h2 hs1 hs2 hp h3
    have g3 := LC.triv_gauss h2 hs1 hs2 hp h4
    have g4 : ∀ x, Sol (gauss1 rs2 i sp) x → Sol rs x := fun x hx => h5 x (LC.sol_gauss h2 hs1 hs2 hp hx)
    have g5 := LC.szr_gauss h2 hs1 hs2 hp h6
    clear e1 RN5 RN4 RN3 RN es1 es2 es3 ei1 ei2 ei3 es2' es3' ei2' ei3' n45 h5s h1s htp
    have fin : ∀ H' v', Same H H' → RowsN K H' L v' (cleared (normed (swp rs2 i sp) i) i) → (∃ vs' rs3, RowsN K H' L vs' rs3 ∧ Shape N rs3 ∧ LC.Unit (i + 1) rs3 ∧ Triv N rs3 ∧ (∀ x, Sol rs3 x → Sol rs x) ∧ SzR (tbs (i + 1)).1 (tbs (i + 1)).2 rs3) := fun H' v' _ hR => ⟨v', gauss1 rs2 i sp, hR, g1, g2, g3, g4, by
      show SzR (2 * (tbs i).1 + 2 * (tbs i).2 + 1) ((tbs i).1 + 3 * (tbs i).2) _
      rw [et, eb]
      exact g5⟩
    generalize swp rs2 i sp = r1 at *
    have vl1 : v1.length = N := RN6.2.1.trans sU.1
    obtain ⟨c, ws, gU, ec, aw, cL⟩ := RN6.row rU
    have c6 := sU.2 qs (List.mem_of_getElem? rU)
    have SL : ∀ {H1 : Hp}, Same H6 H1 → SqL K H1 L v1 := fun s => .inl (.inl (s _ _ RN6.1))
    have Sc : ∀ {H1 : Hp}, Same H6 H1 → SqL K H1 c ws := fun s => .inl (.inl (s _ _ ec))
    have wl : ws.length = N + 1 := aw.1.trans c6
    obtain ⟨pv1, hpv1⟩ : ∃ g, qs[i]? = some g := ⟨_, List.getElem?_eq_getElem (by omega)⟩
    have epv : ent r1 i i = pv1 := by rw [LC.ent_eq rU, hpv1]; rfl
    rw [epv] at pU
    obtain ⟨yp, hyp, rp⟩ := aw.get hpv1
    have qm : qs ∈ r1 := List.mem_of_getElem? rU
    refine ⟨rfl, _, rfl, _, rfl, L, v1, _, _, rfl, rfl, SL (Same.refl _), atI_nat gU, c, rfl, ⟨ws, Sc (Same.refl _)⟩, fun D2 hD2 => ?_⟩
    refine lcm walk_list hD2 (Nat.le_trans (by omega : ws.length ≤ 11) (by decide)) (fun _ => true) (fun j y H1 => ∃ g, qs[j]? = some g ∧ IsR K H1 y (g / pv1)) (fun i y H1 H2 s z => ?_) (fun H1 s => Sc s) (fun j x H7 H1 kN' kY hj s y kn ky => ?_) (fun H7 ys2 s7 e7 kp2 => ?_)
    · obtain ⟨g, hg, r⟩ := z
      exact ⟨g, hg, r.n s⟩
    · obtain ⟨rfl, hx⟩ := y
      obtain ⟨g, hg, rg⟩ := aw.get' hx
      have rg1 := rg.n (same_n s)
      obtain ⟨xa, xd, rfl, exa⟩ := id rg1
      refine ⟨rfl, yes ⟨_, rfl, xa, xd, _, rfl, exa, rfl, _, rfl, _, rfl, L, v1, _, _, rfl, rfl, SL s, atI_nat gU, _, rfl, c, ws, _, yp, rfl, rfl, Sc s, atI_nat hyp, ?_⟩⟩
      refine ⟨_, _, g, pv1, t, b, t, b, rfl, rg1, .inl (rp.n (same_n s)), zU qs qm g (List.mem_of_getElem? hg), zU qs qm pv1 (List.mem_of_getElem? hpv1), by omega, by omega, pU, fun H2 y2 s2 hy2 => ?_⟩
      exact ky _ _ s2 rfl ⟨g, hg, hy2⟩
    obtain ⟨l1, l2⟩ := kp2.all
    have hq2 : All2 (IsR K H7) ys2 (qs.map (· / pv1)) := all2_of (by rw [l1, List.length_map, aw.1]) fun i y hy => by
      obtain ⟨g, hg, r⟩ := l2 i y hy
      exact ⟨g / pv1, by rw [List.getElem?_map, hg]; rfl, r⟩
    have RN7 := RN6.s s7
    refine ⟨_, rfl, _, rfl, L, v1, (i : Int), i, rfl, rfl, RN7.1, ix_nat (by omega), ?_⟩
    have DL : V.ref D2 ≠ .ref L := fun z => by cases z; rw [RN6.1] at hD2; cases hD2
    have RN8 := RN7.set (r := qs.map (· / pv1)) i ⟨D2, ys2, rfl, e7, hq2⟩ DL
    have h8s : Same H (upd H7 L (.lst (v1.set i (.ref D2)))) := same_at (h6s.trans s7) hL
    generalize upd H7 L (.lst (v1.set i (.ref D2))) = H8 at RN8 h8s ⊢
    generalize v1.set i (.ref D2) = v2 at RN8 ⊢
    have e1 : r1.set i (qs.map (· / pv1)) = normed r1 i := by unfold LC.normed; rw [rU, epv]; rfl
    have q2 : (normed r1 i)[i]? = some (qs.map (· / pv1)) := by unfold LC.normed; rw [rU, epv]; exact List.getElem?_set_self (by rw [sU.1]; exact hi)
    rw [e1] at RN8
    have sM := LC.shape_normed sU hi
    have m2 := LC.szm_normed sU hi (by rw [epv]; exact pU) zU
    generalize normed r1 i = r2 at RN8 sM m2 q2 fin
    generalize qs.map (· / pv1) = q' at q2
    clear e1 RN7 hq2 l1 l2 kp2 e7 s7 hD2 DL RN6 h6s SL Sc
    have vl2 : v2.length = N := RN8.2.1.trans sM.1
    refine ⟨_, rfl, _, N, rfl, .inl ⟨v2, .inl (.inl RN8.1), vl2.symm⟩, (N : Int), rfl, by omega, by omega, ?_⟩
    rw [Int.toNat_natCast]
    refine for_it walk_range (fun j σ H9 => (∃ x3, σ = [some (.ref L), some (.int (i : Int)), some (.int (sp : Int)), x3, none, none, none]) ∧ Same H H9 ∧ ∃ v3, RowsN K H9 L v3 (clr r2 i j))
      ⟨⟨x3, rfl⟩, h8s, v2, by rw [clr_zero]; exact RN8⟩ (fun _ _ _ _ _ => trivial) ?_ ?_
    · rintro j x σ H9' H9 hj ⟨⟨x3, rfl⟩, s9, v3, RN9⟩ ⟨rfl, ex⟩
      obtain rfl : x = V.int ((j : Nat) : Int) := ex.trans (congrArg V.int (Int.zero_add _))
      obtain ⟨r, hr⟩ : ∃ r, r2[j]? = some r := ⟨_, List.getElem?_eq_getElem (by rw [sM.1]; exact hj)⟩
      have cr : (clr r2 i j)[j]? = some r := by rw [clr_get, hr]; simp
      have ci' : (clr r2 i j)[i]? = some q' := by
        rw [clr_get, q2]
        simp only [Option.map_some]
        split
        · unfold LC.clear1
          rw [if_pos (.inl rfl)]
        · rfl
      have v3l : v3.length = N := RN9.2.1.trans ((clr_len r2 i j).trans sM.1)
      have rl : r.length = N + 1 := sM.2 r (List.mem_of_getElem? hr)
      obtain ⟨cj, wj, gj, ej, aj, cjL⟩ := RN9.row cr
      obtain ⟨ca, wa, ga, ea', aa, caL⟩ := RN9.row ci'
      refine ⟨_, rfl, _, rfl, rfl, _, rfl, ite2 (fun h0 => ?_) (fun h0 => iteF ?_)⟩
      · have nij : j ≠ i := fun z => by
          have h0 : (!decide (V.int (j : Int) = V.int (i : Int))) = true := h0
          rw [z] at h0
          simp at h0
        obtain ⟨g, hg⟩ : ∃ g, r[i]? = some g := ⟨_, List.getElem?_eq_getElem (by omega)⟩
        obtain ⟨yg, hyg, rg⟩ := aj.get hg
        obtain ⟨gb, gd, rfl, egb⟩ := id rg
        refine ⟨_, rfl, _, rfl, L, v3, _, _, rfl, rfl, .inl (.inl RN9.1), atI_nat gj, _, rfl, cj, wj, _, .ref gb, rfl, rfl, .inl (.inl ej), atI_nat hyg, gb, _, gd, _, _, rfl, egb, T.cl_Ratio, T.na_Ratio_top, rfl, rfl, _, rfl, ite2 (fun h1 => ?_) (fun h1 => ?_)⟩
        · have gne : g ≠ 0 := by
            have h1 : (!decide (V.int g.num = V.int 0)) = true := h1
            simp at h1
            simpa using h1
          have e1 : clear1 r2 i j r = List.zipWith (fun e d => e - d * g) r q' := by
            unfold LC.clear1
            rw [hg, if_neg (by rintro (z | z); exact nij z; exact gne z), q2]
            rfl
          refine ⟨_, rfl, _, rfl, L, v3, _, _, rfl, rfl, .inl (.inl RN9.1), atI_nat gj, _, rfl, _, rfl, L, v3, _, _, rfl, rfl, .inl (.inl RN9.1), atI_nat ga, cj, ca, wj, wa, rfl, .inl (.inl ej), .inl (.inl ea'), fun D3 hD3 => ?_⟩
          have wjl : wj.length = N + 1 := aj.1.trans rl
          have q'l : q'.length = N + 1 := sM.2 q' (List.mem_of_getElem? q2)
          have wal : wa.length = N + 1 := aa.1.trans q'l
          refine lcm (walk_zip rfl) hD3 (Nat.le_trans (by omega : min wj.length wa.length ≤ 11) (by decide)) (fun _ => true) (fun m y H1 => ∃ g1 g2, r[m]? = some g1 ∧ q'[m]? = some g2 ∧ IsR K H1 y (g1 - g2 * g)) (fun m y H1 H2 s z => ?_) (fun H1 s => ⟨.inl (.inl (s _ _ ej)), .inl (.inl (s _ _ ea'))⟩) (fun m x H10 H1 kN' kY hm s y kn ky => ?_) (fun H11 ys3 s11 e11 kp3 => ?_)
          · obtain ⟨g1, g2, a1, a2, r⟩ := z
            exact ⟨g1, g2, a1, a2, r.n s⟩
          · obtain ⟨Tq, x1, y1, rfl, hTq, rfl, hx1, hy1⟩ := y
            obtain ⟨g1, hg1, rg1⟩ := aj.get' hx1
            obtain ⟨g2, hg2, rg2⟩ := aa.get' hy1
            have s12 := s.trans (same_upd (o := .tup [x1, y1]) hTq)
            refine ⟨_, _, rfl, .inl (.inl upd_same), rfl, _, _, rfl, _, _, rfl, rfl, rfl, yes ?_⟩
            refine ⟨_, rfl, _, rfl, _, rfl, L, v3, _, _, rfl, rfl, .inl (.inl (s12 _ _ RN9.1)), atI_nat gj, _, rfl, cj, wj, _, .ref gb, rfl, rfl, .inl (.inl (s12 _ _ ej)), atI_nat hyg, _, rfl, ?_⟩
            refine ⟨g, g2, t, b, t + b, t + b, rg.n (same_n s12), .inl (rg2.n (same_n s12)), m2.rest j r nij hr _ (List.mem_of_getElem? hg), m2.row _ q2 _ (List.mem_of_getElem? hg2), by omega, by omega, fun H13 m' s13 hm' => ?_⟩
            refine ⟨g1, g * g2, t, b, t + (t + b), b + (t + b), rg1.n (same_n (s12.trans s13)), .inl hm', m2.rest j r nij hr _ (List.mem_of_getElem? hg1), (m2.rest j r nij hr _ (List.mem_of_getElem? hg)).mul (m2.row _ q2 _ (List.mem_of_getElem? hg2)), by omega, by omega, fun H14 m2' s14 hm2 => ?_⟩
            exact ky _ _ ((same_upd hTq).trans (s13.trans s14)) rfl ⟨g1, g2, hg1, hg2, by rw [Rat.mul_comm g2 g]; exact hm2⟩
          · obtain ⟨l3, l4⟩ := kp3.all
            have RN11 := RN9.s s11
            have n3 : NumsL K H11 (.ref D3) (clear1 r2 i j r) := by
              rw [e1]
              refine ⟨D3, ys3, rfl, e11, all2_of (by rw [l3, List.length_zipWith]; omega) fun m y hy => ?_⟩
              obtain ⟨g1, g2, a1, a2, r⟩ := l4 m y hy
              exact ⟨g1 - g2 * g, by rw [List.getElem?_zipWith, a1, a2], r⟩
            have nF3 : V.ref D3 ≠ .ref L := fun z => by cases z; rw [RN9.1] at hD3; cases hD3
            refine ⟨_, rfl, _, rfl, L, v3, (j : Int), j, rfl, rfl, RN11.1, ix_nat (by omega), ?_⟩
            refine ⟨⟨_, rfl⟩, same_at (s9.trans s11) hL, v3.set j (.ref D3), ?_⟩
            rw [clr_succ hr]
            exact RN11.set j n3 nF3
        · have e1 : clear1 r2 i j r = r := by
            unfold LC.clear1
            have h1 : ¬ (!decide (V.int g.num = V.int 0)) = true := h1
            simp at h1
            rw [hg, if_pos (.inr (by simpa using h1))]
          exact ⟨⟨_, rfl⟩, s9, v3, by rw [clr_same hr e1]; exact RN9⟩
      · have nij : j = i := by
          have h0 : ¬ (!decide (V.int (j : Int) = V.int (i : Int))) = true := h0
          simp at h0
          omega
        have e1 : clear1 r2 i j r = r := by
          unfold LC.clear1
          rw [if_pos (.inl nij)]
        exact ⟨⟨_, rfl⟩, s9, v3, by rw [clr_same hr e1]; exact RN9⟩
    · rintro σ H9 ⟨⟨x3, rfl⟩, s9, v3, RN9⟩
      rw [clr_end (by rw [sM.1]; exact Nat.le_refl _)] at RN9
      exact ⟨⟨_, _, _, rfl⟩, s9, fin H9 v3 s9 RN9⟩
  · rintro σ H2 ⟨⟨x1, x2, x3, rfl⟩, s2, vs, rs2, RN, h2, h3, h4, h5, h6⟩
    have u2 : vs.length = N := RN.2.1.trans h2.1
    refine ⟨_, rfl, L, rfl, ⟨vs, .inl (.inl RN.1)⟩, fun D hD => ?_⟩
    refine lcm walk_list hD (Nat.le_trans (by omega : vs.length ≤ 5) (by decide)) (fun _ => true) (fun i y H1 => IsR K H1 y (ent rs2 i N)) (fun i y H1 H2 s z => z.n s) (fun H1 s => .inl (.inl (s _ _ RN.1))) (fun i x H6 H1 kN' kY hi s y kn ky => ?_) (fun H6 ys s6 e6 kp => ?_)
    · obtain ⟨rfl, hx⟩ := y
      obtain ⟨r, hr, hn, _⟩ := RN.2.get' hx
      obtain ⟨c, ws, rfl, ec, aw⟩ := hn.s s
      have rl := h2.2 r (List.mem_of_getElem? hr)
      obtain ⟨g, hg⟩ : ∃ g, r[N]? = some g := ⟨_, List.getElem?_eq_getElem (by omega)⟩
      obtain ⟨y, hy, ry⟩ := aw.get hg
      have en : ent rs2 i N = g := by rw [LC.ent_eq hr, hg]; rfl
      refine ⟨rfl, yes ⟨_, rfl, _, rfl, c, ws, _, y, rfl, rfl, .inl (.inl ec), atI_last' (aw.1.trans rl) hy, ?_⟩⟩
      exact ky _ _ (Same.refl _) rfl (by rw [en]; exact ry)
    · obtain ⟨l1, l2⟩ := kp.all
      have e1 : ∀ j, j < N → numN ((List.range N).map fun i => ent rs2 i N) j = ent rs2 j N := fun j hj => by
        unfold numN
        rw [List.getElem?_map, List.getElem?_range hj]
        rfl
      refine k H6 D ys ((List.range N).map fun i => ent rs2 i N) (s2.trans s6) e6 (all2_of (by simp [l1, u2]) fun i y hy => ?_) (by simp) (h5 _ ?_) fun x hx => ?_
      · have hi : i < N := by
          have := (List.getElem?_eq_some_iff.mp hy).1
          omega
        exact ⟨_, by rw [List.getElem?_map, List.getElem?_range hi]; rfl, l2 i y hy⟩
      · have := LC.sol_told h2 h3
        have e2 : solV N ((List.range N).map fun i => ent rs2 i N) = LC.told N rs2 := by
          funext j
          unfold solV LC.told
          by_cases hj : j < N
          · rw [if_pos hj, if_pos hj, e1 j hj]
          · rw [if_neg hj, if_neg hj]
        rw [e2]
        exact this
      · obtain ⟨i, hi, rfl⟩ := List.mem_map.mp hx
        have := tbs_le N (by omega)
        exact (LC.szr_ent h6 i N).mono this.1 this.2
end
end Lc
set_option linter.all false
namespace LC
structure Led (h : Hs) (g : List Nat) (p : Pk) (far : Nat → Option Nat) (ls : List Nat) (ex : Option Nat) (i : Nat) : Prop where
  f0 : ∀ s, far s = some 0 ↔ s ∈ g ∧ p s = none
  fS : ∀ s k, far s = some (k + 1) → ∃ a, p s = some a ∧ ∃ t ∈ h.out a, far t.1 = some k
  lt : ∀ s, far s ≠ none → s < h.n
  mem : ∀ s ∈ ls, far s ≠ none
  cl : ∀ u, far u ≠ none → u ∉ ls → ex ≠ some u → ∀ s a, p s = some a → (∃ t ∈ h.out a, t.1 = u) → far s ≠ none
  cn : ∀ u, ex = some u → far u ≠ none ∧ ∀ s a, s < i → p s = some a → (∃ t ∈ h.out a, t.1 = u) → far s ≠ none
section
variable {h : Hs} {g : List Nat} {p : Pk} {far : Nat → Option Nat} {ls : List Nat} {u i : Nat}
theorem Led.pop (L : Led h g p far (u :: ls) none 0) : Led h g p far ls (some u) 0 :=
  ⟨L.f0, L.fS, L.lt, fun s hs => L.mem s (List.mem_cons_of_mem _ hs), fun v hv hn hx => L.cl v hv (fun z => by
    rcases List.mem_cons.mp z with rfl | z
    · exact hx rfl
    · exact hn z) (by simp), fun v e => by cases e; exact ⟨L.mem _ List.mem_cons_self, fun s a hs => absurd hs (Nat.not_lt_zero _)⟩⟩
theorem Led.skip (L : Led h g p far ls (some u) i) (c : ∀ a, p i = some a → (∃ t ∈ h.out a, t.1 = u) → far i ≠ none) : Led h g p far ls (some u) (i + 1) :=
  ⟨L.f0, L.fS, L.lt, L.mem, L.cl, fun v e => by
    cases e
    refine ⟨(L.cn u rfl).1, fun s a hs ea ht => ?_⟩
    by_cases q : s = i
    · subst q; exact c a ea ht
    · exact (L.cn u rfl).2 s a (by omega) ea ht⟩
def put (far : Nat → Option Nat) (i k : Nat) : Nat → Option Nat := fun s => if s = i then some k else far s
theorem put_ne {s k : Nat} (hs : s ≠ i) : put far i k s = far s := if_neg hs
theorem put_some {s k : Nat} (hs : far s ≠ none) : put far i k s ≠ none := by
  unfold put
  split
  · simp
  · exact hs
theorem Led.add (L : Led h g p far ls (some u) i) {a k : Nat} (hi : i < h.n) (hf : far i = none) (ea : p i = some a) (ht : ∃ t ∈ h.out a, t.1 = u) (hk : far u = some k) : Led h g p (put far i (k + 1)) (ls ++ [i]) (some u) (i + 1) := by
  have ne : u ≠ i := fun z => by subst z; rw [hf] at hk; cases hk
  refine ⟨fun s => ?_, fun s m e => ?_, fun s hs => ?_, fun s hs => ?_, fun v hv hn hx s b eb ht' => ?_, fun v e => ?_⟩
  · by_cases q : s = i
    · subst q
      constructor
      · intro e
        unfold put at e
        rw [if_pos rfl] at e
        cases e
      · rintro ⟨_, e⟩
        rw [ea] at e
        cases e
    · rw [put_ne q]; exact L.f0 s
  · by_cases q : s = i
    · subst q
      unfold put at e
      rw [if_pos rfl] at e
      cases e
      obtain ⟨t, h1, h2⟩ := ht
      exact ⟨a, ea, t, h1, by rw [h2, put_ne ne]; exact hk⟩
    · rw [put_ne q] at e
      obtain ⟨b, eb, t, h1, h2⟩ := L.fS s m e
      exact ⟨b, eb, t, h1, by rw [put_ne (fun z => by rw [z, hf] at h2; cases h2)]; exact h2⟩
  · by_cases q : s = i
    · subst q; exact hi
    · rw [put_ne q] at hs; exact L.lt s hs
  · rcases List.mem_append.mp hs with z | z
    · exact put_some (L.mem s z)
    · rw [List.mem_singleton.mp z]
      unfold put
      rw [if_pos rfl]
      simp
  · have q : v ≠ i := fun z => hn (by rw [z]; simp)
    rw [put_ne q] at hv
    exact put_some (L.cl v hv (fun z => hn (List.mem_append_left _ z)) hx s b eb ht')
  · cases e
    refine ⟨put_some (L.cn u rfl).1, fun s b hs eb ht' => ?_⟩
    by_cases q : s = i
    · subst q
      unfold put
      rw [if_pos rfl]
      simp
    · exact put_some ((L.cn u rfl).2 s b (by omega) eb ht')
theorem Led.fin (L : Led h g p far ls (some u) h.n) (pn : ∀ s a, p s = some a → s < h.n) : Led h g p far ls none 0 :=
  ⟨L.f0, L.fS, L.lt, L.mem, fun v hv hn _ s a ea ht => by
    by_cases q : v = u
    · subst q; exact (L.cn v rfl).2 s a (pn s a ea) ea ht
    · exact L.cl v hv hn (fun z => q (by cases z; rfl)) s a ea ht, fun v e => by cases e⟩
/-- what led_to tells -/
structure FarOk (h : Hs) (g : List Nat) (p : Pk) (far : Nat → Option Nat) : Prop where
  f0 : ∀ s, far s = some 0 ↔ s ∈ g ∧ p s = none
  fS : ∀ s k, far s = some (k + 1) → ∃ a, p s = some a ∧ ∃ t ∈ h.out a, far t.1 = some k
  fC : ∀ s a, p s = some a → (∃ t ∈ h.out a, far t.1 ≠ none) → far s ≠ none
  lt : ∀ s, far s ≠ none → s < h.n
theorem Led.done (L : Led h g p far [] none 0) : FarOk h g p far :=
  ⟨L.f0, L.fS, fun s a ea ⟨t, h1, h2⟩ => L.cl t.1 h2 (by simp) (by simp) s a ea ⟨t, h1, rfl⟩, L.lt⟩
end
end LC
set_option Elab.async false
set_option linter.all false
set_option maxRecDepth 100000
set_option maxHeartbeats 4000000
namespace Lc
open PySem PySem.Spec PyProof.Rows L2 LcR
open LC (Led FarOk)
abbrev DKey := L2.Key
def pickV : Option Nat → V
  | none => .non
  | some a => .int (a : Int)
def PicksL (H : Hp) (v : V) (p : List (Option Nat)) : Prop := ∃ a, v = .ref a ∧ H a = some (.lst (p.map pickV))
theorem PicksL.s {H H' : Hp} {v : V} {p : List (Option Nat)} (h : PicksL H v p) (s : Same H H') : PicksL H' v p := by
  obtain ⟨a, rfl, e⟩ := h
  exact ⟨a, rfl, s _ _ e⟩
def pk (p : List (Option Nat)) : LC.Pk := fun s => (p[s]?).getD none
theorem pk_lt {p : List (Option Nat)} {s a : Nat} (h : pk p s = some a) : s < p.length := by
  unfold pk at h
  cases e : p[s]? with
  | none => rw [e] at h; cases h
  | some x => exact (List.getElem?_eq_some_iff.mp e).1
theorem pk_at {p : List (Option Nat)} {s : Nat} (h : s < p.length) : (p.map pickV)[s]? = some (pickV (pk p s)) := by
  unfold pk
  rw [List.getElem?_map, List.getElem?_eq_getElem h]
  rfl
theorem pick_non (x : Option Nat) : decide (pickV x = V.non) = x.isNone := by
  cases x <;> simp [pickV]
def keyN (s : Nat) : DKey := .inl (s : Int)
def WorthsV (K : PySem.W.Frag) (H : Hp) (v : V) (g : List Nat) : Prop := ∃ d kvs, v = .ref d ∧ H d = some (.dK kvs) ∧ kvs.map (·.1) = g.map keyN ∧ ∀ s ∈ g, ∃ u, valV kvs (keyN s) = some u ∧ IsR K H u 1
theorem WorthsV.s {K : PySem.W.Frag} {H H' : Hp} {v : V} {g : List Nat} (h : WorthsV K H v g) (s : Same H H') : WorthsV K H' v g := by
  obtain ⟨d, kvs, rfl, e1, e2, e3⟩ := h
  refine ⟨d, kvs, rfl, s _ _ e1, e2, fun t ht => ?_⟩
  obtain ⟨u, h1, h2⟩ := e3 t ht
  exact ⟨u, h1, h2.n (same_n s)⟩
def KeysOk (n : Nat) (fk : List (DKey × V)) : Prop := (fk.map (·.1)).Nodup ∧ ∀ k ∈ fk.map (·.1), ∃ s : Nat, s < n ∧ k = keyN s
def FarD (fk : List (DKey × V)) (far : Nat → Option Nat) : Prop := ∀ s : Nat, valV fk (keyN s) = (far s).map fun k : Nat => V.int (k : Int)
def hsOf (n : Nat) (l : List ActD) : LC.Hs := ⟨n, l.map fun d => (d.1, prs d)⟩
theorem out_of {n : Nat} {l : List ActD} {a : Nat} {d : ActD} (h : l[a]? = some d) : (hsOf n l).out a = prs d := by
  unfold LC.Hs.out hsOf
  rw [List.getElem?_map, h]
  rfl
theorem keyN_inj {s t : Nat} (h : keyN s = keyN t) : s = t := by
  have := Sum.inl.inj h
  omega
theorem keys_le {n : Nat} {fk : List (DKey × V)} (h : KeysOk n fk) : fk.length ≤ n := by
  have := nodup_len (l := fk.map (·.1)) (m := (List.range n).map keyN) h.1 fun k hk => by
    obtain ⟨s, h1, rfl⟩ := h.2 k hk
    exact List.mem_map.mpr ⟨s, List.mem_range.mpr h1, rfl⟩
  simpa using this
theorem keys_put' {n : Nat} {fk : List (DKey × V)} {s : Nat} {v : V} (h : KeysOk n fk) (hs : s < n) : KeysOk n (putK fk (keyN s) v) := by
  refine ⟨keys_put h.1, fun k hk => ?_⟩
  have : (valV (putK fk (keyN s) v) k).isSome = true := by
    rw [← valV_any, List.any_eq_true]
    obtain ⟨kv, h1, h2⟩ := List.mem_map.mp hk
    exact ⟨kv, h1, decide_eq_true h2⟩
  rw [valV_put] at this
  by_cases e : k = keyN s
  · exact ⟨s, hs, e⟩
  · rw [if_neg e] at this
    exact h.2 k (mem_keys this)
theorem put_len {fk : List (DKey × V)} {s : Nat} {v : V} (h : valV fk (keyN s) = none) : (putK fk (keyN s) v).length = fk.length + 1 := by
  unfold putK
  rw [valV_any, h]
  simp
theorem farD_put {fk : List (DKey × V)} {far : Nat → Option Nat} {i k : Nat} (h : FarD fk far) : FarD (putK fk (keyN i) (.int (k : Int))) (LC.put far i k) := fun s => by
  rw [valV_put]
  unfold LC.put
  by_cases e : s = i
  · rw [if_pos (by rw [e]), if_pos e]; rfl
  · rw [if_neg (fun z => e (keyN_inj z)), if_neg e]; exact h s
theorem inV_ints (u : Nat) : ∀ ts : List Nat, inV (.int (u : Int)) (ts.map fun t : Nat => V.int (t : Int)) = decide (u ∈ ts)
  | [] => rfl
  | t :: r => by
    have ih := inV_ints u r
    unfold inV at ih ⊢
    rw [List.map_cons, List.any_cons, ih]
    rw [Bool.eq_iff_iff]
    simp [eqV]
    constructor
    · rintro (h | h)
      · left; omega
      · right; exact h
    · rintro (h | h)
      · left; omega
      · right; exact h
theorem all_flat (ts : List Nat) : (ts.map fun t : Nat => V.int (t : Int)).all flatV = true := by
  rw [List.all_eq_true]
  intro x hx
  obtain ⟨t, _, rfl⟩ := List.mem_map.mp hx
  rfl
def farOf (g : List Nat) (p : LC.Pk) : Nat → Option Nat := fun s => if s ∈ g ∧ p s = none then some 0 else none
theorem farOf_yes {g : List Nat} {p : LC.Pk} {s : Nat} (h1 : s ∈ g) (h2 : p s = none) : farOf g p s = some 0 := if_pos ⟨h1, h2⟩
theorem farOf_no {g : List Nat} {p : LC.Pk} {s : Nat} (h : ¬ (s ∈ g ∧ p s = none)) : farOf g p s = none := if_neg h
/-! ### what it comes to, turn by turn -/
open Classical in
/-- a turn of led_to at the state i, for the state u at the front -/
noncomputable def ledStep (l : List ActD) (p : List (Option Nat)) (u : Nat) (st : (Nat → Option Nat) × List Nat) (i : Nat) : (Nat → Option Nat) × List Nat :=
  if st.1 i = none ∧ ∃ a d, pk p i = some a ∧ l[a]? = some d ∧ u ∈ (prs d).map (·.1) then (LC.put st.1 i ((st.1 u).getD 0 + 1), st.2 ++ [i]) else st
inductive LedRun (n : Nat) (l : List ActD) (p : List (Option Nat)) : (Nat → Option Nat) × List Nat → (Nat → Option Nat) → Prop where
  | nil {far : Nat → Option Nat} : LedRun n l p (far, []) far
  | cons {far f : Nat → Option Nat} {u : Nat} {r : List Nat} : LedRun n l p ((List.range n).foldl (ledStep l p u) (far, r)) f → LedRun n l p (far, u :: r) f
theorem LedRun.det {n : Nat} {l : List ActD} {p : List (Option Nat)} {st : (Nat → Option Nat) × List Nat} {f1 f2 : Nat → Option Nat} (h1 : LedRun n l p st f1) (h2 : LedRun n l p st f2) : f1 = f2 := by
  induction h1 with
  | nil => cases h2; rfl
  | cons _ ih => cases h2 with | cons h => exact ih h
theorem ledStep_no {l : List ActD} {p : List (Option Nat)} {u i : Nat} {far : Nat → Option Nat} {ls : List Nat} (h : ¬ (far i = none ∧ ∃ a d, pk p i = some a ∧ l[a]? = some d ∧ u ∈ (prs d).map (·.1))) : ledStep l p u (far, ls) i = (far, ls) := if_neg h
theorem ledStep_yes {l : List ActD} {p : List (Option Nat)} {u i a k : Nat} {d : ActD} {far : Nat → Option Nat} {ls : List Nat} (h1 : far i = none) (h2 : pk p i = some a) (h3 : l[a]? = some d) (h4 : u ∈ (prs d).map (·.1)) (h5 : far u = some k) : ledStep l p u (far, ls) i = (LC.put far i (k + 1), ls ++ [i]) := by
  unfold ledStep
  rw [if_pos ⟨h1, a, d, h2, h3, h4⟩]
  simp only [h5, Option.getD_some]
theorem drop_range {n i : Nat} (h : i < n) : (List.range n).drop i = i :: (List.range n).drop (i + 1) := by
  rw [List.drop_eq_getElem_cons (by rw [List.length_range]; exact h), List.getElem_range]
section
variable {P : Program} {w : World} {K : PySem.W.Frag} {mg : Str → Option Value} {base : Heap}
def sp_led_to (K : PySem.W.Frag) : Sp := fun vs H Q _ => ∃ (v : V) (n : Nat) (l : List ActD) (u : V) (p : List (Option Nat)) (y : V) (g : List Nat), vs = [v, u, y] ∧ HouseV K H v n l ∧ OkActs n l ∧ PicksL H u p ∧ p.length = n ∧ (∀ s a, pk p s = some a → a < l.length) ∧ WorthsV K H y g ∧ (∀ s ∈ g, s < n) ∧ g.Nodup ∧
  ∀ H' d fk far, Same H H' → H' d = some (.dK fk) → KeysOk n fk → FarD fk far → FarOk (hsOf n l) g (pk p) far → LedRun n l p (farOf g (pk p), g.filter fun s => (pk p s).isNone) far → Q (.ref d) H'
theorem c_led_to (T : Tx K mg) : C8.Cal P w K mg base 6 "led_to" (sp_led_to K) [] := by
  obtain ⟨fd, F⟩ := T.f_led_to
  refine calD F T.g_led_to sc_led_to (fun _ _ _ _ _ _ us hl => match us, hl with | [_, _, _], _ => rfl) (fun vs H Q E h => ?_) (fun cdv A outer s H vs Q E hr h => ?_)
  · obtain ⟨_, _, _, _, _, _, _, rfl, _⟩ := h; rfl
  obtain ⟨v, n, l, u, p, y, g, rfl, hv, ok, ⟨ap, rfl, eap⟩, pl, pa, ⟨d, kvs, rfl, ed, ek, ew⟩, gn, gd, k⟩ := h
  refine ⟨_, (pss_cons (ps_lock (LcD.ps_setDc (i := 3) (own := [("state", 6)]) (g := gName 6) (tt := (tB (tIsN (tOp (rIxL K) (tVar 1) (tVar 6))))) (by rfl) sc_led_to.nd rfl rfl (LcD.sw_trueD rfl rfl rfl (by decide +kernel)) (pi_keys (pv 2)) (blkOk_by (own := [("state", 6)]) (N := N_led_to) (sc := defScope s_led_to) (by decide +kernel)) (fun _ _ _ _ _ => (pg_name (i := 6) sc_led_to.nd rfl (Or.inl rfl))) (fun _ _ _ _ _ => (pts_one (pt_cmp (pc_isN (pe_ix ix_list (pv 1) (pv 6) (fun _ _ => rfl)))))) (fun _ _ _ _ _ => (pv 6)) (fun _ _ _ _ _ => pe_int)))
      (pss_cons (ps_set (i := 4) sc_led_to.nd rfl (Or.inl rfl) (pe_callTy (call_listD rfl) (by rfl) T.b_list (by decide +kernel) (pa_cons (pv 3) pa_nil)))
      (pss_cons (ps_while PassesOwn.never (pt_cmpR (op_neNil hr.units0) (pv 4) (pe_lst pa_nil) (nomark _))
      (pss_cons (ps_set (i := 5) sc_led_to.nd rfl (Or.inl rfl) (pe_bm PySem.F.plainAttrs_list PySem.F.slot_list_pop PySem.F.type_list_pop mt_popAt (pv 4) (pa_cons pe_int pa_nil)))
      (pss_one (ps_for PassesOwn.never rfl (pi_range1 (by rfl) T.b_range (pa_cons (pe_fld (pv 0) rfl) pa_nil)) (pg_name (i := 6) sc_led_to.nd rfl (Or.inl rfl))
      (pss_one (ps_if (PW.pt (pw_and (pt_cmp (pc_dnotin (hu1 hr) (pv 6) (pv 3))) (pw_and1 (pt_cmp (pc_notN (pe_ix ix_list (pv 1) (pv 6) (fun _ _ => rfl))))))) (pss_one (ps_if (pt_cmpR op_in_seq (pv 5) (pe_lc (own := [("target", 7), ("odds", 8)]) (g := gTup K 2 (gCons (gName 7) (gCons (gName 8) (gNil)))) (by rfl) sc_led_to.nd (pi_list (C8.pe_c (c_targets_of T) hr (by decide) (by rfl) (pa_cons (pv 0) (pa_cons (pe_ix ix_list (pv 1) (pv 6) (fun _ _ => rfl)) pa_nil)))) (blkOk_by (own := [("target", 7), ("odds", 8)]) (N := N_led_to) (sc := defScope s_led_to) (by decide +kernel)) (fun _ _ _ _ _ => (pg_tup rfl (pgs_cons (pg_name (i := 7) sc_led_to.nd rfl (Or.inl rfl)) (pgs_cons (pg_name (i := 8) sc_led_to.nd rfl (Or.inl rfl)) pgs_nil)))) (fun _ _ _ _ _ => pts_nil) (fun _ _ _ _ _ => (pv 7))) (by rfl)) (pss_cons (ps_dput (hu1 hr) (pv 3) (pv 6) (pe_op op_add (pe_dget (hu1 hr) (pv 3) (pv 5) (fun _ _ => rfl)) pe_int) rfl)
      (pss_one (ps_expr (pe_bm PySem.F.plainAttrs_list PySem.F.slot_list_append PySem.F.type_list_append mt_append (pv 4) (pa_cons (pv 6) pa_nil))))) pss_nil)) pss_nil))))))
      (pss_one (ps_ret (pv 3)))))), ?_⟩
  have kl : kvs.length = g.length := by have := congrArg List.length ek; simpa using this
  have kg : ∀ (i : Nat) k v, kvs[i]? = some (k, v) → ∃ s, g[i]? = some s ∧ k = keyN s := fun i k v e => by
    have h1 : (kvs.map (·.1))[i]? = some k := by rw [List.getElem?_map, e]; rfl
    rw [ek, List.getElem?_map] at h1
    obtain ⟨s, h2, h3⟩ := Option.map_eq_some_iff.mp h1
    exact ⟨s, h2, h3.symm⟩
  refine ⟨d, _, ed, trivial, fun od => ?_⟩
  generalize hHl : upd H d (.frz od (.dK kvs)) = Hl
  have edl : Hl d = some (.frz od (.dK kvs)) := hHl ▸ upd_same
  have kl2 : ∀ b o, b ≠ d → H b = some o → Hl b = some o := fun b o hb e => by rw [← hHl, upd_ne hb]; exact e
  have apd : ap ≠ d := fun z => by subst z; rw [eap] at ed; cases ed
  refine ⟨_, rfl, d, od, rfl, .inl ⟨kvs, edl, fun D hD => ?_⟩⟩
  have Dd : D ≠ d := fun z => by subst z; rw [edl] at hD; cases hD
  refine dc_it walk_keys (fun i H' => Same Hl H' ∧ ∃ fk, H' D = some (.dK fk) ∧ KeysOk n fk ∧ FarD fk (farOf (g.take i) (pk p)) ∧ fk.map (·.1) = ((g.take i).filter fun s => (pk p s).isNone).map keyN)
    ⟨same_upd hD, [], upd_same, ⟨List.nodup_nil, fun k h => by simp at h⟩, fun s => by rw [farOf_no (by simp)]; rfl, by simp⟩ (fun i H' _ p => p.1 _ _ edl) ?_ ?_
  · rintro i x H3 H4 hi ⟨s3, fk, ef, kok, fd, efk⟩ ⟨rfl, kx, vx, hx, rfl⟩
    obtain ⟨s0, hs0, rfl⟩ := kg i kx vx hx
    have hsn := gn s0 (List.mem_of_getElem? hs0)
    have tk : g.take (i + 1) = g.take i ++ [s0] := by rw [List.take_add_one, hs0]; rfl
    refine ⟨rfl, ⟨_, rfl, _, rfl, ap, _, _, _, rfl, rfl, .inl (.inl (s3 _ _ (kl2 _ _ apd eap))), atI_nat (pk_at (by omega)), _, rfl, ite2 (fun h0 => ?_) (fun h0 => ?_)⟩⟩
    · rw [pick_non] at h0
      have h1 : pk p s0 = none := by cases e : pk p s0 with
        | none => rfl
        | some a => rw [e] at h0; cases h0
      refine ⟨_, rfl, fk, keyN s0, rfl, ef, Nat.lt_of_le_of_lt (keys_le kok) ?_, ?_⟩
      · have := ok.n2
        exact Nat.lt_of_le_of_lt this (by decide)
      · refine ⟨fun b o hb => by rw [upd_ne (ne_of_none hb hD)]; exact s3 _ _ hb, _, upd_same, keys_put' kok hsn, fun s => ?_, ?_⟩
        rotate_left
        · have nm : s0 ∉ g.take i := fun hm => by
            have nd : (g.take (i + 1)).Nodup := gd.sublist (List.take_sublist _ _)
            rw [tk, List.nodup_append] at nd
            exact nd.2.2 s0 hm s0 (by simp) rfl
          have vn : valV fk (keyN s0) = none := by rw [fd s0, farOf_no (fun z => nm z.1)]; rfl
          have e1 : putK fk (keyN s0) (.int 0) = fk ++ [(keyN s0, .int 0)] := by
            unfold putK
            rw [valV_any, vn]
            rfl
          show (putK fk (keyN s0) (.int 0)).map (·.1) = _
          rw [e1, tk, List.map_append, efk, List.filter_append, List.map_append]
          simp [h1]
        rw [valV_put, tk]
        by_cases e : s = s0
        · subst e
          rw [if_pos rfl, farOf_yes (by simp) h1]
          rfl
        · rw [if_neg (fun z => e (keyN_inj z)), fd s]
          unfold farOf
          simp [e]
    · rw [pick_non] at h0
      have h1 : pk p s0 ≠ none := fun e => h0 (by rw [e]; rfl)
      refine ⟨s3, fk, ef, kok, fun s => ?_, ?_⟩
      rotate_left
      · rw [efk, tk, List.filter_append]
        cases e : pk p s0 with
        | none => exact absurd e h1
        | some a => simp [e]
      rw [fd s, tk]
      by_cases e : s = s0
      · subst e
        rw [farOf_no (fun z => h1 z.2), farOf_no (fun z => h1 z.2)]
      · unfold farOf
        simp [e]
  rintro H3 ⟨s3, fk, ef, kok, fd, efk⟩
  refine ⟨s3 _ _ edl, ?_⟩
  have s4 : Same H (upd H3 d (.dK kvs)) := fun b o hb => by
    by_cases e : b = d
    · subst e; rw [upd_same, ← ed]; exact hb
    · rw [upd_ne e]; exact s3 _ _ (kl2 _ _ e hb)
  have ef4 : upd H3 d (.dK kvs) D = some (.dK fk) := by rw [upd_ne Dd]; exact ef
  have hDH : H D = none := by
    cases e : H D with
    | none => rfl
    | some o => rw [kl2 _ _ Dd e] at hD; cases hD
  generalize upd H3 d (.dK kvs) = H4 at s4 ef4
  refine ⟨_, rfl, D, fk, rfl, .inl ef4, fun L hL => ?_⟩
  have hLH := none_back s4 hL
  have LD : D ≠ L := fun z => by subst z; rw [ef4] at hL; cases hL
  rw [kl, List.take_length] at efk fd
  obtain ⟨ls, hls⟩ : ∃ ls : List Nat, (g.filter fun s => (pk p s).isNone) = ls := ⟨_, rfl⟩
  rw [hls] at efk k
  have els : fk.map (·.1) = ls.map keyN := efk
  have ev : (fk.map fun kv => kV kv.1) = ls.map fun t : Nat => V.int (t : Int) := by
    have : (fk.map fun kv => kV kv.1) = (fk.map (·.1)).map kV := by rw [List.map_map]; rfl
    rw [this, els, List.map_map]
    rfl
  rw [ev]
  have s5 : Same H (upd H4 L (.lst (ls.map fun t : Nat => V.int (t : Int)))) := s4.trans (same_upd hL)
  have ef5 : upd H4 L (.lst (ls.map fun t : Nat => V.int (t : Int))) D = some (.dK fk) := by rw [upd_ne LD]; exact ef4
  have eL5 : upd H4 L (.lst (ls.map fun t : Nat => V.int (t : Int))) L = some (.lst (ls.map fun t : Nat => V.int (t : Int))) := upd_same
  generalize upd H4 L (.lst (ls.map fun t : Nat => V.int (t : Int))) = H5 at s5 ef5 eL5
  have L0 : Led (hsOf n l) g (pk p) (farOf g (pk p)) ls none 0 := by
    refine ⟨fun s => ?_, fun s m e => ?_, fun s hs => ?_, fun s hs => ?_, fun u hu hn _ => ?_, fun v e => by cases e⟩
    · by_cases c : s ∈ g ∧ pk p s = none
      · simp [farOf, c]
      · simp [farOf, c]
    · by_cases c : s ∈ g ∧ pk p s = none
      · simp [farOf, c] at e
      · simp [farOf, c] at e
    · by_cases c : s ∈ g ∧ pk p s = none
      · exact gn s c.1
      · simp [farOf, c] at hs
    · have h1 : keyN s ∈ fk.map (·.1) := by rw [els]; exact List.mem_map.mpr ⟨s, hs, rfl⟩
      obtain ⟨kv, h2, h3⟩ := List.mem_map.mp h1
      have h4 : (valV fk (keyN s)).isSome = true := by
        rw [← valV_any, List.any_eq_true]
        exact ⟨kv, h2, decide_eq_true h3⟩
      rw [fd s] at h4
      intro e
      rw [e] at h4
      cases h4
    · exfalso
      apply hn
      have h4 : (valV fk (keyN u)).isSome = true := by
        rw [fd u]
        cases e : farOf g (pk p) u with
        | none => exact absurd e hu
        | some x => rfl
      have h5 := mem_keys h4
      rw [els] at h5
      obtain ⟨s, hs, e⟩ := List.mem_map.mp h5
      rw [← keyN_inj e]
      exact hs
  generalize farOf g (pk p) = far0 at fd L0 k
  have lb : 2 * (n - fk.length) + ls.length ≤ 100 := by
    have h1 := keys_le kok
    have h2 := congrArg List.length els
    rw [List.length_map, List.length_map] at h2
    have := ok.n2
    omega
  clear s3 s4 ef4 ef hD els ev efk
  obtain ⟨ls0, hl0⟩ : ∃ ls0, ls0 = ls := ⟨_, rfl⟩
  rw [← hl0] at k
  have pn : ∀ s a, pk p s = some a → s < (hsOf n l).n := fun s a e => by have := pk_lt e; show s < n; omega
  obtain ⟨xh, dxh, mh, vah, vsh, lkh, voh, rfl, eh, hh1, hh2, hh3⟩ := id hv
  refine ⟨fun m σ H6 => (∃ x y, σ = [some (.ref xh), some (.ref ap), some (.ref d), some (.ref D), some (.ref L), x, y, none, none]) ∧ ∃ fk far ls, Same H H6 ∧ H6 D = some (.dK fk) ∧ H6 L = some (.lst (ls.map fun t : Nat => V.int (t : Int))) ∧ KeysOk n fk ∧ FarD fk far ∧ Led (hsOf n l) g (pk p) far ls none 0 ∧ (∀ f, LedRun n l p (far, ls) f → LedRun n l p (far0, ls0) f) ∧ m = 2 * (n - fk.length) + ls.length ∧ m ≤ 100,
    ⟨_, ⟨none, none, rfl⟩, fk, far0, ls, s5, ef5, eL5, kok, fd, L0, by rw [hl0]; exact fun _ h => h, rfl, lb⟩, ?_⟩
  rintro m σ H6 ⟨⟨z1, z2, rfl⟩, fk, far, ls, s6, ef, eL, kok, fd, L1, R1, rfl, mb⟩
  refine ⟨_, rfl, Nat.zero_le _, fun Z hZ => ?_⟩
  have hZL : L ≠ Z := fun z => by subst z; rw [eL] at hZ; cases hZ
  have hZD : D ≠ Z := fun z => by subst z; rw [ef] at hZ; cases hZ
  have s7 := s6.trans (same_upd (o := .lst []) hZ)
  have ef7 : upd H6 Z (.lst []) D = some (.dK fk) := by rw [upd_ne hZD]; exact ef
  have eL7 : upd H6 Z (.lst []) L = some (.lst (ls.map fun t : Nat => V.int (t : Int))) := by rw [upd_ne hZL]; exact eL
  refine ⟨L, Z, _, rfl, rfl, .inl (.inl eL7), .inl (.inl upd_same), _, rfl, ite2 (fun h0 => ?_) (fun h0 => ?_)⟩
  · generalize upd H6 Z (.lst []) = H7 at s7 ef7 eL7
    cases ls with
    | nil => cases h0
    | cons u r =>
    refine ⟨fun σ' H' => (∃ x y, σ' = [some (.ref xh), some (.ref ap), some (.ref d), some (.ref D), some (.ref L), x, y, none, none]) ∧ ∃ fk' far' ls', Same H H' ∧ H' D = some (.dK fk') ∧ H' L = some (.lst (ls'.map fun t : Nat => V.int (t : Int))) ∧ KeysOk n fk' ∧ FarD fk' far' ∧ Led (hsOf n l) g (pk p) far' ls' none 0 ∧ (∀ f, LedRun n l p (far', ls') f → LedRun n l p (far0, ls0) f) ∧ 2 * (n - fk'.length) + ls'.length < 2 * (n - fk.length) + (u :: r).length,
      fun σ' H' ⟨a1, fk', far', ls', b1, b2, b3, b4, b5, b6, b6r, b7⟩ => ⟨_, b7, a1, fk', far', ls', b1, b2, b3, b4, b5, b6, b6r, rfl, by omega⟩, ?_⟩
    refine ⟨_, rfl, .inl ⟨rfl, _, .inl (.inl eL7)⟩, L, _, 0, 0, .int (u : Int), rfl, rfl, eL7, by decide, by decide, by simp [seqIndex?], rfl, ?_⟩
    have s8 : Same H (upd H7 L (.lst ((List.map (fun t : Nat => V.int (t : Int)) (u :: r)).eraseIdx 0))) := same_at s7 hLH
    have ef8 : upd H7 L (.lst ((List.map (fun t : Nat => V.int (t : Int)) (u :: r)).eraseIdx 0)) D = some (.dK fk) := by rw [upd_ne LD]; exact ef7
    have eL8 : upd H7 L (.lst ((List.map (fun t : Nat => V.int (t : Int)) (u :: r)).eraseIdx 0)) L = some (.lst (r.map fun t : Nat => V.int (t : Int))) := by rw [upd_same]; rfl
    generalize upd H7 L (.lst ((List.map (fun t : Nat => V.int (t : Int)) (u :: r)).eraseIdx 0)) = H8 at s8 ef8 eL8
    refine ⟨_, rfl, xh, _, dxh, _, _, rfl, s8 _ _ eh, T.cl_House, T.na_House_states, rfl, (n : Int), rfl, ?_, ?_, ?_⟩
    · have := ok.n2; omega
    · have := ok.n2; omega
    rw [Int.toNat_natCast]
    refine for_it walk_range (fun i σ H9 => (∃ y, σ = [some (.ref xh), some (.ref ap), some (.ref d), some (.ref D), some (.ref L), some (.int (u : Int)), y, none, none]) ∧ ∃ fk' far' ls', Same H H9 ∧ H9 D = some (.dK fk') ∧ H9 L = some (.lst (ls'.map fun t : Nat => V.int (t : Int))) ∧ KeysOk n fk' ∧ FarD fk' far' ∧ Led (hsOf n l) g (pk p) far' ls' (some u) i ∧ (∀ f, LedRun n l p (((List.range n).drop i).foldl (ledStep l p u) (far', ls')) f → LedRun n l p (far0, ls0) f) ∧ 2 * (n - fk'.length) + ls'.length ≤ 2 * (n - fk.length) + r.length)
      ⟨⟨z2, rfl⟩, fk, far, r, s8, ef8, eL8, kok, fd, L1.pop, fun f hf => R1 f (.cons hf), Nat.le_refl _⟩ (fun i σ H2 _ p => trivial) ?_ ?_
    · rintro i x σ H9 H10 hi ⟨⟨y1, rfl⟩, fk', far', ls', s9, ef9, eL9, kok9, fd9, L9, R9, m9⟩ ⟨rfl, ex⟩
      obtain rfl : x = V.int ((i : Nat) : Int) := ex.trans (congrArg V.int (Int.zero_add _))
      have hin : i < p.length := by omega
      rw [drop_range hi] at R9
      simp only [List.foldl_cons] at R9
      have Rno : ¬ (far' i = none ∧ ∃ a d, pk p i = some a ∧ l[a]? = some d ∧ u ∈ (prs d).map (·.1)) → ∀ f, LedRun n l p (((List.range n).drop (i + 1)).foldl (ledStep l p u) (far', ls')) f → LedRun n l p (far0, ls0) f := fun hno => by
        rw [ledStep_no hno] at R9
        exact R9
      have Sap : ∀ {H1 : Hp}, Same H H1 → SqL K H1 ap (p.map pickV) := fun s => .inl (.inl (s _ _ eap))
      refine ⟨_, rfl, _, rfl, D, _, rfl, .inl ⟨fk', keyN i, .inl ef9, rfl, rfl⟩, _, rfl, ite2 (fun h1 => ?_) (fun h1 => iteF ?_)⟩
      · have fi : far' i = none := by
          rw [fd9 i] at h1
          cases e : far' i with
          | none => rfl
          | some k => rw [e] at h1; cases h1
        refine ⟨_, rfl, _, rfl, ap, _, _, _, rfl, rfl, Sap s9, atI_nat (pk_at hin), _, rfl, ite2 (fun h2 => ?_) (fun h2 => ?_)⟩
        · rw [pick_non] at h2
          obtain ⟨a, ea⟩ : ∃ a, pk p i = some a := by
            cases e : pk p i with
            | none => rw [e] at h2; cases h2
            | some a => exact ⟨a, rfl⟩
          obtain ⟨dd, hdd⟩ : ∃ dd, l[a]? = some dd := ⟨_, List.getElem?_eq_getElem (pa i a ea)⟩
          refine ⟨_, rfl, _, rfl, _, rfl, _, rfl, ap, _, _, _, rfl, rfl, Sap s9, atI_nat (pk_at hin), ?_⟩
          rw [ea]
          refine ⟨.ref xh, n, l, a, dd, rfl, hv.n (same_n s9), ok, hdd, fun H11 pp us s11 epp app => ?_⟩
          have okd := ok.acts dd (List.mem_of_getElem? hdd)
          have ul : us.length = dd.2.length := app.1.trans (List.length_map _)
          have dl := okd.len
          have out := out_of (n := n) hdd
          refine ⟨pp, rfl, ⟨us, .inl (.inl epp)⟩, fun D3 hD3 => ?_⟩
          refine lcm walk_list hD3 (Nat.le_trans (by omega : us.length ≤ 4) (by decide)) (fun _ => true) (fun j y _ => ∃ z, (prs dd)[j]? = some z ∧ y = V.int (z.1 : Int)) (fun _ _ _ _ _ h => h) (fun H1 s => .inl (.inl (s _ _ epp))) (fun j x H12 H1 kN' kY hj s y kn ky => ?_) (fun H12 ys s12 e12 kp => ?_)
          · obtain ⟨rfl, hx⟩ := y
            obtain ⟨z, hz, q, rfl, eq⟩ := app.get' hx
            exact ⟨q, _, rfl, .inl (.inl (s _ _ eq)), rfl, _, _, rfl, _, _, rfl, rfl, rfl, yes ⟨_, rfl, ky _ _ (Same.refl _) rfl ⟨z, hz, rfl⟩⟩⟩
          obtain ⟨l1, l2⟩ := kp.all
          have eys : ys = ((prs dd).map (·.1)).map fun t : Nat => V.int (t : Int) := by
            apply List.ext_getElem?
            intro j
            rw [List.map_map, List.getElem?_map]
            by_cases hj : j < ys.length
            · obtain ⟨z, hz, e⟩ := l2 j _ (List.getElem?_eq_getElem hj)
              rw [List.getElem?_eq_getElem hj, hz, e]
              rfl
            · rw [List.getElem?_eq_none (by omega), List.getElem?_eq_none (by rw [← app.1]; omega)]
              rfl
          have sA := s9.trans (s11.trans s12)
          have efA := (s11.trans s12) _ _ ef9
          have eLA := (s11.trans s12) _ _ eL9
          refine ⟨D3, ys, rfl, .inl (.inl (.inl e12)), rfl, by rw [eys]; exact all_flat _, _, rfl, ite2 (fun h3 => ?_) (fun h3 => ?_)⟩
          · have h3 : inV (V.int (u : Int)) ys = true := h3
            rw [eys, inV_ints] at h3
            have h4 := of_decide_eq_true h3
            obtain ⟨z, hz1, hz2⟩ := List.mem_map.mp h4
            have ht : ∃ t ∈ (hsOf n l).out a, t.1 = u := ⟨z, by rw [out]; exact hz1, hz2⟩
            obtain ⟨kf, hkf⟩ : ∃ kf, far' u = some kf := by
              cases e : far' u with
              | none => exact absurd e (L9.cn u rfl).1
              | some k => exact ⟨k, rfl⟩
            have vu : some (V.int (kf : Int)) = valV fk' (keyN u) := by rw [fd9 u, hkf]; rfl
            have fl := keys_le kok9
            have n2 := ok.n2
            have lt : fk'.length < sizeLine := Nat.lt_of_le_of_lt (Nat.le_trans fl n2) (by decide)
            refine ⟨_, rfl, _, rfl, D, _, rfl, .inl ⟨fk', keyN u, .inl efA, rfl, vu⟩, _, _, rfl, rfl, ?_⟩
            refine ⟨_, rfl, _, rfl, D, _, rfl, .inl ⟨fk', keyN i, efA, rfl, lt, rfl⟩, ?_⟩
            have sB : Same H (upd H12 D (.dK (putK fk' (keyN i) (.int ((kf : Int) + 1))))) := same_at sA hDH
            have eLB : upd H12 D (.dK (putK fk' (keyN i) (.int ((kf : Int) + 1)))) L = some (.lst (ls'.map fun t : Nat => V.int (t : Int))) := by rw [upd_ne LD.symm]; exact eLA
            have lls : ls'.length < sizeLine := Nat.lt_of_le_of_lt (by
              rw [List.length_cons] at mb
              omega : ls'.length ≤ 100) (by decide)
            refine ⟨_, rfl, .inl ⟨rfl, _, .inl (.inl eLB)⟩, _, rfl, L, _, _, rfl, rfl, eLB, by rw [List.length_map]; exact lls, ?_⟩
            refine ⟨⟨_, rfl⟩, putK fk' (keyN i) (.int ((kf : Int) + 1)), LC.put far' i (kf + 1), ls' ++ [i], same_at sB hLH, ?_, ?_, keys_put' kok9 hi, farD_put fd9, L9.add hi fi ea ht hkf, by rw [ledStep_yes fi ea hdd h4 hkf] at R9; exact R9, ?_⟩
            · rw [upd_ne LD]; exact upd_same
            · rw [upd_same, List.map_append]; rfl
            · have h5 : valV fk' (keyN i) = none := by rw [fd9 i, fi]; rfl
              have h6 := keys_le (keys_put' (v := .int ((kf : Int) + 1)) kok9 hi)
              rw [put_len h5] at h6 ⊢
              simp only [List.length_append, List.length_cons, List.length_nil]
              omega
          · have h3 : ¬ inV (V.int (u : Int)) ys = true := h3
            rw [eys, inV_ints] at h3
            refine ⟨⟨_, rfl⟩, fk', far', ls', sA, efA, eLA, kok9, fd9, L9.skip fun b eb ⟨t, ht, e⟩ => absurd ?_ h3, Rno ?_, m9⟩
            · rw [ea] at eb
              cases eb
              rw [out] at ht
              exact decide_eq_true (List.mem_map.mpr ⟨t, ht, e⟩)
            · rintro ⟨_, b, d', hb, hd', hm⟩
              rw [ea] at hb
              cases hb
              rw [hdd] at hd'
              cases hd'
              exact h3 (decide_eq_true hm)
        · rw [pick_non] at h2
          have ea : pk p i = none := by
            cases e : pk p i with
            | none => rfl
            | some a => rw [e] at h2; exact absurd rfl h2
          exact ⟨⟨_, rfl⟩, fk', far', ls', s9, ef9, eL9, kok9, fd9, L9.skip (fun b eb _ => by rw [ea] at eb; cases eb), Rno (fun ⟨_, b, _, hb, _⟩ => by rw [ea] at hb; cases hb), m9⟩
      · have fi : far' i ≠ none := fun e => by rw [fd9 i, e] at h1; exact h1 rfl
        exact ⟨⟨_, rfl⟩, fk', far', ls', s9, ef9, eL9, kok9, fd9, L9.skip (fun _ _ _ => fi), Rno (fun z => fi z.1), m9⟩
    · rintro σ H9 ⟨⟨y1, rfl⟩, fk', far', ls', s9, ef9, eL9, kok9, fd9, L9, R9, m9⟩
      rw [List.drop_of_length_le (by rw [List.length_range]; exact Nat.le_refl _)] at R9
      exact ⟨⟨_, _, rfl⟩, fk', far', ls', s9, ef9, eL9, kok9, fd9, L9.fin pn, R9, by simp only [List.length_cons]; omega⟩
  · cases ls with
    | cons u r => exact absurd rfl h0
    | nil =>
      refine ⟨_, rfl, ?_⟩
      exact k _ D fk far s7 ef7 kok fd L1.done (R1 far .nil)
end
end Lc
set_option linter.all false
namespace LC
/-! ### the rows of had_by -/
section
variable {h : Hs} {g : List Nat} {p : Pk} {far : Nat → Option Nat} {os : List Nat}
/-- what stands for a state under the numbers x of the places -/
def X (os : List Nat) (far : Nat → Option Nat) (x : Nat → Rat) (t : Nat) : Rat := if t ∈ os then x (os.idxOf t) else if far t ≠ none then - x os.length else 0
theorem dot_set (x : Nat → Rat) : ∀ (r : Row) (k j : Nat) (a b : Rat), r[j]? = some a → dot (r.set j b) k x = dot r k x + (b - a) * x (k + j)
  | [], _, _, _, _, h => by simp at h
  | c :: r, k, 0, a, b, h => by
    have e : c = a := by simpa using h
    simp only [List.set_cons_zero, dot, Nat.add_zero, e]
    grind
  | c :: r, k, j + 1, a, b, h => by
    have ih := dot_set x r (k + 1) j a b (by simpa using h)
    simp only [List.set_cons_succ, dot, ih]
    rw [show k + 1 + j = k + (j + 1) by omega]
    grind
theorem dot_zeros (x : Nat → Rat) : ∀ (m k : Nat), dot (List.replicate m 0) k x = 0
  | 0, _ => rfl
  | m + 1, k => by
    simp only [List.replicate_succ, dot, dot_zeros x m (k + 1)]
    grind
/-- the state s's row -/
def RowOk (h : Hs) (p : Pk) (os : List Nat) (far : Nat → Option Nat) (s : Nat) (r : Row) : Prop := ∀ x a, p s = some a → dot r 0 x = X os far x s * (wsum (h.out a) : Rat) - psum (X os far x) (h.out a)
structure Sys (h : Hs) (g : List Nat) (p : Pk) (far : Nat → Option Nat) (os : List Nat) (rs : List Row) : Prop where
  fo : FarOk h g p far
  nd : os.Nodup
  om : ∀ s, s ∈ os ↔ ∃ k, far s = some (k + 1)
  sh : Shape os.length rs
  row : ∀ (i : Nat) s r, os[i]? = some s → rs[i]? = some r → RowOk h p os far s r
theorem idx_at (nd : os.Nodup) {i s : Nat} (e : os[i]? = some s) : os.idxOf s = i := by
  have hi := (List.getElem?_eq_some_iff.mp e)
  obtain ⟨hi, rfl⟩ := hi
  exact List.Nodup.idxOf_getElem nd i hi
theorem X_at (nd : os.Nodup) {i s : Nat} (x : Nat → Rat) (e : os[i]? = some s) : X os far x s = x i := by
  unfold X
  rw [if_pos (List.mem_of_getElem? e), idx_at nd e]
theorem sys_pick (S : Sys h g p far os rs) {s : Nat} (hs : s ∈ os) : ∃ a, p s = some a := by
  obtain ⟨k, e⟩ := (S.om s).mp hs
  obtain ⟨a, ea, _⟩ := S.fo.fS s k e
  exact ⟨a, ea⟩
theorem sys_eq (S : Sys h g p far os rs) (hp : ∀ s a, p s = some a → h.At s a) (ok : h.Ok) {x : Nat → Rat} (sol : Sol rs x) {s a : Nat} (hs : s ∈ os) (ea : p s = some a) : X os far x s = mean (X os far x) (h.out a) := by
  obtain ⟨i, hi, e⟩ := List.getElem_of_mem hs
  have ei : os[i]? = some s := by rw [List.getElem?_eq_getElem hi, e]
  have hr : i < rs.length := by rw [S.sh.1]; exact hi
  have d := sol _ (List.getElem_mem hr)
  rw [S.row i s _ ei (List.getElem?_eq_getElem hr) x a ea] at d
  obtain ⟨oko, _⟩ := (hp s a ea).ok ok
  have m := mean_mul (v := X os far x) oko
  have w := wsumQ_pos oko
  have : (X os far x s - mean (X os far x) (h.out a)) * (wsum (h.out a) : Rat) = 0 := by grind
  rcases Rat.mul_eq_zero.mp this with z | z
  · grind
  · grind
theorem sys_closed (S : Sys h g p far os rs) {D : Nat → Prop} (hD : ∀ s, D s → s ∈ os) (hc : ∀ s a, D s → p s = some a → ∀ t ∈ h.out a, D t.1) : ∀ s, ¬ D s := by
  have key : ∀ k s, far s = some k → ¬ D s := by
    intro k
    induction k with
    | zero =>
      intro s e d
      obtain ⟨k, e2⟩ := (S.om s).mp (hD s d)
      rw [e] at e2
      cases e2
    | succ k ih =>
      intro s e d
      obtain ⟨a, ea, t, ht, et⟩ := S.fo.fS s k e
      exact ih t.1 et (hc s a d ea t ht)
  intro s d
  obtain ⟨k, e⟩ := (S.om s).mp (hD s d)
  exact key _ s e d
theorem sys_le (S : Sys h g p far os rs) (hp : ∀ s a, p s = some a → h.At s a) (ok : h.Ok) {x : Nat → Rat} (hx : x os.length = 0) (sol : Sol rs x) : ∀ t, X os far x t ≤ 0 := by
  have off : ∀ t, t ∉ os → X os far x t = 0 := fun t ht => by
    unfold X
    rw [if_neg ht, hx]
    split <;> grind
  by_cases h0 : os.length = 0
  · intro t
    rw [off t (by rw [List.length_eq_zero_iff.mp h0]; simp)]
    exact Rat.le_refl
  obtain ⟨j, hj, hmax⟩ := max_of (fun i => x i) os.length (by omega)
  intro t
  apply Classical.byContradiction
  intro hc
  have ht : t ∈ os := Classical.byContradiction fun z => hc (by rw [off t z]; exact Rat.le_refl)
  have top : ∀ u, X os far x u ≤ x j ∨ u ∉ os := fun u => by
    by_cases hu : u ∈ os
    · left
      obtain ⟨i, hi, e⟩ := List.getElem_of_mem hu
      rw [X_at S.nd x (by rw [List.getElem?_eq_getElem hi, e])]
      exact hmax i hi
    · exact .inr hu
  have pos : 0 < x j := by
    rcases top t with z | z
    · grind
    · exact absurd ht z
  have le : ∀ u, X os far x u ≤ x j := fun u => by
    rcases top u with z | z
    · exact z
    · rw [off u z]; grind
  refine sys_closed S (D := fun u => u ∈ os ∧ X os far x u = x j) (fun u d => d.1) (fun s a d ea q hq => ?_) os[j] ⟨List.getElem_mem hj, X_at S.nd x (List.getElem?_eq_getElem hj)⟩
  obtain ⟨oko, _⟩ := (hp s a ea).ok ok
  have e := sys_eq S hp ok sol d.1 ea
  have := mean_max (u := X os far x) (m := x j) oko (fun q _ => le q.1) (by rw [← e, d.2]; exact Rat.le_refl) q hq
  refine ⟨Classical.byContradiction fun z => ?_, this⟩
  rw [off q.1 z] at this
  grind
theorem X_neg (x : Nat → Rat) (t : Nat) : X os far (fun j => - x j) t = - X os far x t := by
  unfold X
  split
  · rfl
  · split <;> grind
theorem dot_neg (x : Nat → Rat) : ∀ (r : Row) (k : Nat), dot r k (fun j => - x j) = - dot r k x
  | [], _ => by simp only [dot]; grind
  | a :: r, k => by simp only [dot, dot_neg x r (k + 1)]; grind
theorem sys_triv (S : Sys h g p far os rs) (hp : ∀ s a, p s = some a → h.At s a) (ok : h.Ok) : Triv os.length rs := by
  intro x hx sol j hj
  have a := sys_le S hp ok hx sol os[j]
  have b := sys_le S hp ok (x := fun j => - x j) (by rw [hx]; grind) (fun r hr => by rw [dot_neg, sol r hr]; grind) os[j]
  rw [X_neg] at b
  rw [X_at S.nd x (List.getElem?_eq_getElem hj)] at a b
  grind
/-- what a solution tells -/
theorem sys_had (S : Sys h g p far os rs) (hp : p.Ok h g) (ok : h.Ok) {x : Nat → Rat} (hx : x os.length = -1) (sol : Sol rs x) {v : Nat → Rat} (hv : ∀ t, v t = X os far x t) : Had h g p v far := by
  have e : v = X os far x := funext hv
  have no : ∀ s k, far s = some k → (s ∈ os ↔ k ≠ 0) := fun s k e => by
    rw [S.om s, e]
    constructor
    · rintro ⟨m, z⟩; cases z; simp
    · intro z; exact ⟨k - 1, by congr 1; omega⟩
  refine ⟨fun s => ?_, S.fo.fS, S.fo.fC, fun s es => ?_, fun s k a es ea => ?_, fun s es => ?_⟩
  · rw [S.fo.f0 s]
    exact ⟨fun z => z.1, fun z => ⟨z, hp.gn s z⟩⟩
  · rw [hv]
    unfold X
    rw [if_neg (fun z => (no s 0 es).mp z rfl), if_pos (by rw [es]; simp), hx]
    grind
  · rw [e]
    exact sys_eq S hp.at_ ok sol ((S.om s).mpr ⟨k, es⟩) ea
  · rw [hv]
    unfold X
    rw [if_neg (fun z => by obtain ⟨k, q⟩ := (S.om s).mp z; rw [es] at q; cases q), if_neg (by rw [es]; simp)]
/-! ### a row while it is built -/
structure RowI (N : Nat) (W : Nat) (r : Row) : Prop where
  len : r.length = N + 1
  ent : ∀ (j : Nat) q, r[j]? = some q → ∃ i : Int, q = (i : Rat) ∧ -(W : Int) ≤ i ∧ i ≤ W ∧ (j < N → i ≤ 0)
theorem rowI_zero (N : Nat) : RowI N 0 (List.replicate (N + 1) 0) := by
  refine ⟨List.length_replicate, fun j q e => ⟨0, ?_, by omega, by omega, fun _ => by omega⟩⟩
  have := List.mem_of_getElem? e
  rw [List.mem_replicate] at this
  rw [this.2]
  rfl
theorem RowI.sub {N W : Nat} {r : Row} {j od : Nat} {q : Rat} (R : RowI N W r) (e : r[j]? = some q) : RowI N (W + od) (r.set j (q - (od : Rat))) := by
  refine ⟨by rw [List.length_set]; exact R.len, fun k c ek => ?_⟩
  by_cases z : k = j
  · subst z
    have hk := (List.getElem?_eq_some_iff.mp e).1
    rw [List.getElem?_set_self hk] at ek
    cases ek
    obtain ⟨i, rfl, h1, h2, h3⟩ := R.ent k q e
    refine ⟨i - od, by rw [Rat.intCast_sub]; rfl, by omega, by omega, fun z => by have := h3 z; omega⟩
  · rw [List.getElem?_set_ne (Ne.symm z)] at ek
    obtain ⟨i, h0, h1, h2, h3⟩ := R.ent k c ek
    exact ⟨i, h0, by omega, by omega, h3⟩
theorem RowI.last {N W : Nat} {r : Row} {od : Nat} {q : Rat} (R : RowI N W r) (e : r[N]? = some q) : RowI N (W + od) (r.set N (q + 1 * (od : Rat))) := by
  refine ⟨by rw [List.length_set]; exact R.len, fun k c ek => ?_⟩
  by_cases z : k = N
  · subst z
    have hk := (List.getElem?_eq_some_iff.mp e).1
    rw [List.getElem?_set_self hk] at ek
    cases ek
    obtain ⟨i, rfl, h1, h2, h3⟩ := R.ent k q e
    refine ⟨i + od, by rw [Rat.intCast_add, Rat.one_mul]; rfl, by omega, by omega, fun z => by omega⟩
  · rw [List.getElem?_set_ne (Ne.symm z)] at ek
    obtain ⟨i, h0, h1, h2, h3⟩ := R.ent k c ek
    exact ⟨i, h0, by omega, by omega, h3⟩
theorem RowI.more {N W : Nat} {r : Row} {od : Nat} (R : RowI N W r) : RowI N (W + od) r :=
  ⟨R.len, fun k c ek => by
    obtain ⟨i, h0, h1, h2, h3⟩ := R.ent k c ek
    exact ⟨i, h0, by omega, by omega, h3⟩⟩
/-- all of a row's numbers -/
theorem RowI.sz {N W t : Nat} {r : Row} (R : RowI N W r) (hW : W ≤ 2 ^ t) {j : Nat} {q : Rat} (e : r[j]? = some q) : Sz t 0 q := by
  obtain ⟨i, rfl, h1, h2, _⟩ := R.ent j q e
  exact sz_int (by omega)
theorem RowI.fin {N W : Nat} {r : Row} {j : Nat} {q : Rat} (R : RowI N W r) (hj : j < N) (e : r[j]? = some q) (hW : W ≤ 40) : ∀ a ∈ r.set j (q + (W : Rat)), Sz 6 0 a := by
  intro a ha
  obtain ⟨k, hk, rfl⟩ := List.getElem_of_mem ha
  have ek := List.getElem?_eq_getElem hk
  by_cases z : k = j
  · subst z
    have hk2 := (List.getElem?_eq_some_iff.mp e).1
    rw [List.getElem?_set_self hk2] at ek
    obtain ⟨i, h0, h1, h2, h3⟩ := R.ent k q e
    have := h3 hj
    rw [← Option.some.inj ek, h0, show (i : Rat) + (W : Rat) = ((i + (W : Int) : Int) : Rat) by rw [Rat.intCast_add]; rfl]
    exact sz_int (by omega)
  · rw [List.getElem?_set_ne (Ne.symm z)] at ek
    exact R.sz (by omega) ek
/-- what a row tells, after the outcomes o -/
def Part (os : List Nat) (far : Nat → Option Nat) (o : Outs) (r : Row) : Prop := ∀ x, dot r 0 x = - psum (X os far x) o
theorem part_zero (N : Nat) : Part os far [] (List.replicate N 0) := fun x => by rw [dot_zeros]; simp only [psum]; grind
theorem psum_snoc' (v : Nat → Rat) (o : Outs) (q : Nat × Nat) : psum v (o ++ [q]) = psum v o + v q.1 * (q.2 : Rat) := by
  rw [psum_append]
  simp only [psum, Rat.add_zero]
theorem Part.open_ {o : Outs} {r : Row} {t od j : Nat} {q : Rat} (P : Part os far o r) (ht : t ∈ os) (hj : os.idxOf t = j) (e : r[j]? = some q) : Part os far (o ++ [(t, od)]) (r.set j (q - (od : Rat))) := fun x => by
  have hx : X os far x t = x j := by unfold X; rw [if_pos ht, hj]
  rw [dot_set x r 0 j q _ e, P x, psum_snoc', hx, Nat.zero_add]
  grind
theorem Part.far_ {o : Outs} {r : Row} {t od : Nat} {q : Rat} (P : Part os far o r) (ht : t ∉ os) (hf : far t ≠ none) (e : r[os.length]? = some q) : Part os far (o ++ [(t, od)]) (r.set os.length (q + 1 * (od : Rat))) := fun x => by
  have hx : X os far x t = - x os.length := by unfold X; rw [if_neg ht, if_pos hf]
  rw [dot_set x r 0 _ q _ e, P x, psum_snoc', hx, Nat.zero_add]
  grind
theorem Part.none_ {o : Outs} {r : Row} {t od : Nat} (P : Part os far o r) (ht : t ∉ os) (hf : far t = none) : Part os far (o ++ [(t, od)]) r := fun x => by
  have hx : X os far x t = 0 := by unfold X; rw [if_neg ht, if_neg (by rw [hf]; simp)]
  rw [P x, psum_snoc', hx]
  grind
theorem Part.own {o : Outs} {r : Row} {s j : Nat} {q : Rat} (P : Part os far o r) (hs : s ∈ os) (hj : os.idxOf s = j) (e : r[j]? = some q) (ho : ∀ b, p s = some b → h.out b = o) : RowOk h p os far s (r.set j (q + (wsum o : Rat))) := fun x b eb => by
  have hx : X os far x s = x j := by unfold X; rw [if_pos hs, hj]
  rw [dot_set x r 0 j q _ e, P x, ho b eb, hx, Nat.zero_add]
  grind
end
end LC
set_option Elab.async false
set_option linter.all false
set_option maxRecDepth 100000
set_option maxHeartbeats 4000000
namespace Lc
open PySem PySem.Spec PyProof.Rows L2 LcR
open LC (Sz FarOk Had psum wsum Part RowI RowOk)
abbrev intV (os : List Nat) : List V := os.map fun t : Nat => V.int (t : Int)
theorem intV_get {os : List Nat} {i s : Nat} (h : os[i]? = some s) : (intV os)[i]? = some (.int (s : Int)) := by
  unfold intV
  rw [List.getElem?_map, h]
  rfl
theorem idx_f {os : List Nat} {t : Nat} (ht : t ∈ os) : (intV os)[os.idxOf t]? = some (.int (t : Int)) ∧ eqV (.int (t : Int)) (.int (t : Int)) = true ∧ ∀ (m : Nat) z, m < os.idxOf t → (intV os)[m]? = some z → eqV z (.int (t : Int)) = false := by
  have hl : os.idxOf t < os.length := List.idxOf_lt_length_of_mem ht
  have e : os[os.idxOf t]? = some t := by rw [List.getElem?_eq_getElem hl, List.getElem_idxOf hl]
  refine ⟨intV_get e, by simp [eqV], fun m z hm hz => ?_⟩
  unfold intV at hz
  rw [List.getElem?_map] at hz
  obtain ⟨s, hs, rfl⟩ := Option.map_eq_some_iff.mp hz
  have ne : s ≠ t := by
    rintro rfl
    obtain ⟨hm2, e2⟩ := List.getElem?_eq_some_iff.mp hs
    have := List.not_of_lt_findIdx (p := (· == s)) (xs := os) hm
    simp [e2] at this
  simp [eqV]
  omega
theorem perm_ints {ns : List Int} {ls : List Nat} (h : ns.Perm (ls.map fun s : Nat => (s : Int))) : ∃ ls' : List Nat, ns = ls'.map (fun s : Nat => (s : Int)) ∧ ls'.Perm ls := by
  refine ⟨ns.map Int.toNat, ?_, ?_⟩
  · rw [List.map_map]
    have : ∀ x ∈ ns, ((fun s : Nat => (s : Int)) ∘ Int.toNat) x = x := fun x hx => by
      obtain ⟨s, _, rfl⟩ := List.mem_map.mp (h.mem_iff.mp hx)
      simp
    rw [List.map_congr_left this, List.map_id']
  · have := h.map Int.toNat
    rw [List.map_map] at this
    have e : (Int.toNat ∘ fun s : Nat => (s : Int)) = id := by funext s; simp
    rw [e, List.map_id] at this
    exact this
theorem merge_get (k : DKey) : ∀ (more acc : List (DKey × V)), (more.map (·.1)).Nodup → valV (mergeK acc more) k = (valV more k).or (valV acc k)
  | [], acc, _ => by simp [mergeK, valV]
  | kv :: r, acc, h => by
    rw [List.map_cons, List.nodup_cons] at h
    have ih := merge_get k r (putK acc kv.1 kv.2) h.2
    show valV (mergeK (putK acc kv.1 kv.2) r) k = _
    rw [ih, valV_put]
    by_cases e : k = kv.1
    · rw [if_pos e]
      have h1 : valV r k = none := by
        cases q : valV r k with
        | none => rfl
        | some v => exact absurd (by rw [← e]; exact valV_in q) h.1
      rw [h1]
      have h2 : valV (kv :: r) k = some kv.2 := by unfold valV; rw [List.find?_cons_of_pos (by simp [e])]; rfl
      rw [h2]
      rfl
    · rw [if_neg e]
      have h2 : valV (kv :: r) k = valV r k := by unfold valV; rw [List.find?_cons_of_neg (by simp; exact fun z => e z.symm)]
      rw [h2]
theorem zip_get : ∀ (os : List Nat) (us : List V) (j s : Nat), os.Nodup → os[j]? = some s → us.length = os.length → valV ((os.map keyN).zip us) (keyN s) = us[j]?
  | [], _, _, _, _, h, _ => by simp at h
  | _ :: _, [], _, _, _, _, h => by simp at h
  | o :: os, u :: us, 0, s, _, h, _ => by
    have e : o = s := by simpa using h
    subst e
    unfold valV
    rw [List.map_cons, List.zip_cons_cons, List.find?_cons_of_pos (by simp)]
    rfl
  | o :: os, u :: us, j + 1, s, nd, h, hl => by
    rw [List.nodup_cons] at nd
    have h' : os[j]? = some s := by simpa using h
    have ne : keyN o ≠ keyN s := fun e => nd.1 (by rw [keyN_inj e]; exact List.mem_of_getElem? h')
    have ih := zip_get os us j s nd.2 h' (by simpa using hl)
    unfold valV at ih ⊢
    rw [List.map_cons, List.zip_cons_cons, List.find?_cons_of_neg (by simpa using ne), ih]
    simp
theorem zip_none {os : List Nat} {us : List V} {s : Nat} (h : s ∉ os) : valV ((os.map keyN).zip us) (keyN s) = none := by
  cases e : valV ((os.map keyN).zip us) (keyN s) with
  | none => rfl
  | some v =>
    have := valV_in e
    obtain ⟨kv, h1, h2⟩ := List.mem_map.mp this
    have := (List.of_mem_zip h1).1
    obtain ⟨t, ht, e2⟩ := List.mem_map.mp this
    rw [h2] at e2
    exact absurd (by rw [← keyN_inj e2]; exact ht) h
theorem zip_fst (os : List Nat) (us : List V) (h : us.length = os.length) : ((os.map keyN).zip us).map (·.1) = os.map keyN := List.map_fst_zip (by simp [h])
theorem zip_snd (os : List Nat) (us : List V) (h : us.length = os.length) : ((os.map keyN).zip us).map (·.2) = us := List.map_snd_zip (by simp [h])
theorem filter_getD (l : List Nat) (q : Nat → Bool) : ((List.range l.length).filter fun j => q (l.getD j 0)).map (fun j => l.getD j 0) = l.filter q := by
  have e : (List.range l.length).map (fun j => l.getD j 0) = l := by
    apply List.ext_getElem?
    intro i
    rw [List.getElem?_map]
    by_cases h : i < l.length
    · rw [List.getElem?_range h, List.getElem?_eq_getElem h]
      simp [List.getD_eq_getElem?_getD, List.getElem?_eq_getElem h]
    · rw [List.getElem?_eq_none (by simp; omega), List.getElem?_eq_none (by omega)]
      rfl
  conv => rhs; rw [← e]
  rw [List.filter_map]
  rfl
section
variable {P : Program} {w : World} {K : PySem.W.Frag} {mg : Str → Option Value} {base : Heap}
/-- picks that fit a house and a goal -/
structure PkOk (n : Nat) (l : List ActD) (g : List Nat) (p : List (Option Nat)) : Prop where
  len : p.length = n
  at_ : ∀ s a, pk p s = some a → ∃ d, l[a]? = some d ∧ d.1 = s
  gn : ∀ s ∈ g, pk p s = none
theorem PkOk.lt {n : Nat} {l : List ActD} {g : List Nat} {p : List (Option Nat)} (h : PkOk n l g p) : ∀ s a, pk p s = some a → a < l.length := fun s a e => by
  obtain ⟨d, hd, _⟩ := h.at_ s a e
  exact (List.getElem?_eq_some_iff.mp hd).1
theorem PkOk.ok {n : Nat} {l : List ActD} {g : List Nat} {p : List (Option Nat)} (h : PkOk n l g p) : LC.Pk.Ok (hsOf n l) g (pk p) :=
  ⟨fun s a e => by
    obtain ⟨d, hd, rfl⟩ := h.at_ s a e
    refine ⟨prs d, ?_⟩
    unfold hsOf
    rw [List.getElem?_map, hd]
    rfl, h.gn⟩
theorem outsOk {n : Nat} {d : ActD} (h : OkAct n d) : LC.OutsOk n (prs d) :=
  ⟨fun e => h.ne (List.map_eq_nil_iff.mp e), fun q hq => by
    obtain ⟨o, ho, e⟩ := List.mem_map.mp hq
    have := h.outs o ho
    cases e
    exact ⟨this.t, this.o1⟩⟩
theorem hs_ok {n : Nat} {l : List ActD} (h : OkActs n l) : (hsOf n l).Ok := by
  refine ⟨fun a s o e => ?_, fun s hs => ?_⟩
  · unfold hsOf at e
    rw [List.getElem?_map] at e
    obtain ⟨d, hd, e2⟩ := Option.map_eq_some_iff.mp e
    cases e2
    have okd := h.acts d (List.mem_of_getElem? hd)
    exact ⟨outsOk okd, okd.s⟩
  · obtain ⟨d, hd, rfl⟩ := h.all s hs
    obtain ⟨a, ha, e⟩ := List.getElem_of_mem hd
    refine ⟨a, prs d, ?_⟩
    unfold hsOf
    rw [List.getElem?_map, List.getElem?_eq_getElem ha, e]
    rfl
def sp_had_by (K : PySem.W.Frag) : Sp := fun vs H Q _ => ∃ (v : V) (n : Nat) (l : List ActD) (u : V) (p : List (Option Nat)) (y : V) (g : List Nat), vs = [v, u, y] ∧ HouseV K H v n l ∧ OkActs n l ∧ n ≤ 6 ∧ PicksL H u p ∧ PkOk n l g p ∧ WorthsV K H y g ∧ (∀ s ∈ g, s < n) ∧ g.Nodup ∧
  ∀ H' t a q D fk far, Same H H' → H' t = some (.tup [.ref a, .ref D]) → NumsL K H' (.ref a) q → q.length = n → H' D = some (.dK fk) → KeysOk n fk → FarD fk far → Had (hsOf n l) g (pk p) (numN q) far → (∀ x ∈ q, Sz 2169 2158 x) → Q (.ref t) H'
theorem c_had_by (T : Tx K mg) : C8.Cal P w K mg base 7 "had_by" (sp_had_by K) [] := by
  obtain ⟨fd, F⟩ := T.f_had_by
  refine calD F T.g_had_by sc_had_by (fun _ _ _ _ _ _ us hl => match us, hl with | [_, _, _], _ => rfl) (fun vs H Q E h => ?_) (fun cdv A outer s H vs Q E hr h => ?_)
  · obtain ⟨_, _, _, _, _, _, _, rfl, _⟩ := h; rfl
  obtain ⟨v, n, l, u, p, y, g, rfl, hv, ok, n6, hp, pok, hy, gn, gd, k⟩ := h
  refine ⟨_, (pss_cons (ps_set (i := 3) sc_had_by.nd rfl (Or.inr rfl) (C8.pe_c (c_led_to T) hr (by decide) (by rfl) (pa_cons (pv 0) (pa_cons (pv 1) (pa_cons (pv 2) pa_nil)))))
      (pss_cons (ps_setLc (i := 4) (own := [("state", 6)]) (g := gName 6) (by rfl) sc_had_by.nd rfl rfl (sw_true rfl rfl rfl (by decide +kernel)) (pi_list (pe_callB (LcD.cr_sortedDK rfl) (by rfl) T.b_sorted (by decide +kernel) (pa_cons (pv 3) pa_nil))) (blkOk_by (own := [("state", 6)]) (N := N_had_by) (sc := defScope s_had_by) (by decide +kernel)) (fun _ _ _ _ _ => (pg_name (i := 6) sc_had_by.nd rfl (Or.inl rfl))) (fun _ _ _ _ _ => (pts_one (pt_cmpR op_gt (pe_dget (hu1 hr) (pv 3) (pv 6) (fun _ _ => rfl)) pe_int (nomark _)))) (fun _ _ _ _ _ => (pv 6)))
      (pss_cons (ps_set (i := 5) sc_had_by.nd rfl (Or.inl rfl) (pe_lst pa_nil))
      (pss_cons (ps_for PassesOwn.never rfl (pi_list (pv 4)) (pg_name (i := 6) sc_had_by.nd rfl (Or.inl rfl))
      (pss_cons (ps_par (i := 7) (j := 8) (by rfl) sc_had_by.nd rfl rfl (by decide) rfl rfl (pa_cons (pe_op op_rep (pe_lst (pa_cons (C8.pe_mk (c_Ratio_1 T) hr (by decide) (by rfl) (pa_cons pe_int pa_nil)) pa_nil)) (pe_op op_add (pe_callB call_len (by rfl) T.b_len (by decide +kernel) (pa_cons (pv 4) pa_nil)) pe_int)) (pa_cons pe_int pa_nil)) (by rfl))
      (pss_cons (ps_for PassesOwn.never rfl (pi_list (C8.pe_c (c_targets_of T) hr (by decide) (by rfl) (pa_cons (pv 0) (pa_cons (pe_ix ix_list (pv 1) (pv 6) (fun _ _ => rfl)) pa_nil)))) (pg_tup rfl (pgs_cons (pg_name (i := 9) sc_had_by.nd rfl (Or.inl rfl)) (pgs_cons (pg_name (i := 10) sc_had_by.nd rfl (Or.inl rfl)) pgs_nil)))
      (pss_cons (ps_set (i := 8) sc_had_by.nd rfl (Or.inl rfl) (pe_op op_add (pv 8) (pv 10)))
      (pss_one (ps_if (pt_cmpR op_in_seq (pv 9) (pv 4) (by rfl)) (pss_one (ps_asg (pe_op (op_Rsub T hr (by decide)) (pe_ix ix_list (pv 7) (pe_bm PySem.F.plainAttrs_list PySem.F.slot_list_index PySem.F.type_list_index mt_index (pv 4) (pa_cons (pv 9) pa_nil)) (fun _ _ => rfl)) (pv 10)) (pg_sub (pv 7) (pe_bm PySem.F.plainAttrs_list PySem.F.slot_list_index PySem.F.type_list_index mt_index (pv 4) (pa_cons (pv 9) pa_nil)) set_list))) (pss_one (ps_if (pt_cmp (pc_din (hu1 hr) (pv 9) (pv 3))) (pss_one (ps_asg (pe_op (op_Radd T hr (by decide)) (pe_ix ix_list (pv 7) (pe_un un_neg pe_int) (fun _ _ => rfl)) (pe_op (op_Rmul T hr (by decide)) (pe_dget (hu1 hr) (pv 2) (pv 9) (fun _ _ => rfl)) (pv 10))) (pg_sub (pv 7) (pe_un un_neg pe_int) set_list))) pss_nil))))))
      (pss_cons (ps_set (i := 11) sc_had_by.nd rfl (Or.inl rfl) (pe_bm PySem.F.plainAttrs_list PySem.F.slot_list_index PySem.F.type_list_index mt_index (pv 4) (pa_cons (pv 6) pa_nil)))
      (pss_cons (ps_asg (pe_op (op_Radd T hr (by decide)) (pe_ix ix_list (pv 7) (pv 11) (fun _ _ => rfl)) (pv 8)) (pg_sub (pv 7) (pv 11) set_list))
      (pss_one (ps_expr (pe_bm PySem.F.plainAttrs_list PySem.F.slot_list_append PySem.F.type_list_append mt_append (pv 5) (pa_cons (pv 7) pa_nil)))))))))
      (pss_cons (ps_set (i := 12) sc_had_by.nd rfl (Or.inr rfl) (LcD.pe_dictZip rfl (by rfl) T.b_dict (by rfl) T.b_zip (pa_cons (pv 4) (pa_cons (C8.pe_c (c_solved T) hr (by decide) (by rfl) (pa_cons (pv 5) pa_nil)) pa_nil))))
      (pss_cons (ps_setLc (i := 13) (own := [("state", 6)]) (g := gName 6) (te := (tIf (tB (tOp rEq (tDGet1 (tVar 3) (tVar 6)) (tC (.int 0)))) (tDGet (tVar 2) (tVar 6)) (tDGet2 (tVar 12) (tVar 6) (tMake (CRatio K) (sp_Ratio_init K) [.int 1] C8.E0 (tCons (tC (.int 0)) tNil))))) (by rfl) sc_had_by.nd rfl rfl (sw_true rfl rfl rfl (by decide +kernel)) (pi_range1 (by rfl) T.b_range (pa_cons (pe_fld (pv 0) rfl) pa_nil)) (blkOk_by (own := [("state", 6)]) (N := N_had_by) (sc := defScope s_had_by) (by decide +kernel)) (fun _ _ _ _ _ => (pg_name (i := 6) sc_had_by.nd rfl (Or.inl rfl))) (fun _ _ _ _ _ => pts_nil) (fun _ _ _ _ _ => (pe_ifExp (pt_cmpR op_eq (pe_dget1 (hu1 hr) (pv 3) (pv 6) ⟨rfl, rfl, rfl, rfl⟩) pe_int (nomark _)) (pe_dget (hu1 hr) (pv 2) (pv 6) (fun _ _ => rfl)) (pe_dget2 (hu1 hr) (pv 12) (pv 6) (C8.pe_mk (c_Ratio_1 T) hr (by decide) (by rfl) (pa_cons pe_int pa_nil)) ⟨rfl, rfl, rfl, rfl⟩))))
      (pss_one (ps_ret (pe_tup (pa_cons (pv 13) (pa_cons (pv 3) pa_nil))))))))))), ?_⟩
  refine ⟨_, rfl, _, rfl, _, rfl, v, n, l, u, p, y, g, rfl, hv, ok, hp, pok.len, pok.lt, hy, gn, gd, fun H1 D fk far s1 ef kok fd fo _ => ?_⟩
  obtain ⟨ap, rfl, eap⟩ := hp
  obtain ⟨d, kvs, rfl, ed, ek, ew⟩ := hy
  obtain ⟨ls, els⟩ : ∃ ls : List Nat, fk.map (·.1) = ls.map keyN := by
    have : ∀ ks : List DKey, (∀ k ∈ ks, ∃ s : Nat, s < n ∧ k = keyN s) → ∃ ls : List Nat, ks = ls.map keyN := by
      intro ks
      induction ks with
      | nil => exact fun _ => ⟨[], rfl⟩
      | cons k r ih =>
        intro h
        obtain ⟨s, _, rfl⟩ := h k List.mem_cons_self
        obtain ⟨ls, e⟩ := ih fun x hx => h x (List.mem_cons_of_mem _ hx)
        exact ⟨s :: ls, by rw [e]; rfl⟩
    exact this _ kok.2
  have ev : (fk.map fun kv => kV kv.1) = (ls.map fun t : Nat => (t : Int)).map V.int := by
    have : (fk.map fun kv => kV kv.1) = (fk.map (·.1)).map kV := by rw [List.map_map]; rfl
    rw [this, els, List.map_map, List.map_map]
    rfl
  have lnd : ls.Nodup := by
    have := kok.1
    rw [els] at this
    exact (List.pairwise_map.mp this).imp fun h e => h (by rw [e])
  have lmem : ∀ s, s ∈ ls ↔ far s ≠ none := fun s => by
    constructor
    · intro hs
      have h1 : keyN s ∈ fk.map (·.1) := by rw [els]; exact List.mem_map.mpr ⟨s, hs, rfl⟩
      obtain ⟨kv, h2, h3⟩ := List.mem_map.mp h1
      have h4 : (valV fk (keyN s)).isSome = true := by
        rw [← valV_any, List.any_eq_true]
        exact ⟨kv, h2, decide_eq_true h3⟩
      rw [fd s] at h4
      intro e
      rw [e] at h4
      cases h4
    · intro hs
      have h4 : (valV fk (keyN s)).isSome = true := by
        rw [fd s]
        cases e : far s with
        | none => exact absurd e hs
        | some x => rfl
      have h5 := mem_keys h4
      rw [els] at h5
      obtain ⟨t, ht, e⟩ := List.mem_map.mp h5
      rw [← keyN_inj e]
      exact ht
  refine ⟨_, rfl, D, fk, _, rfl, .inl ef, ev, fun ns po perm pw hpo => ?_⟩
  obtain ⟨ls', rfl, perm'⟩ := perm_ints perm
  have lnd' : ls'.Nodup := perm'.nodup_iff.mpr lnd
  have lmem' : ∀ s, s ∈ ls' ↔ far s ≠ none := fun s => by rw [perm'.mem_iff]; exact lmem s
  have ll : ls'.length ≤ 10 := by
    have h1 := keys_le kok
    have h2 := congrArg List.length els
    rw [List.length_map, List.length_map] at h2
    have := perm'.length_eq
    omega
  rw [show (ls'.map fun s : Nat => (s : Int)).map V.int = intV ls' by unfold intV; rw [List.map_map]; rfl]
  have s2 := s1.trans (same_upd (o := .lst (intV ls')) hpo)
  have ef2 : upd H1 po (.lst (intV ls')) D = some (.dK fk) := same_upd hpo _ _ ef
  have ep2 : upd H1 po (.lst (intV ls')) po = some (.lst (intV ls')) := upd_same
  generalize upd H1 po (.lst (intV ls')) = H2 at s2 ef2 ep2
  have il : (intV ls').length = ls'.length := List.length_map _
  refine ⟨po, rfl, ⟨_, .inl (.inl ep2)⟩, fun O hO => ?_⟩
  refine lcm walk_list hO (Nat.le_trans (by omega : (intV ls').length ≤ 10) (by decide)) (fun j => decide (far (ls'.getD j 0) ≠ some 0)) (fun j y _ => y = .int (ls'.getD j 0 : Nat)) (fun _ _ _ _ _ h => h) (fun H1 s => .inl (.inl (s _ _ ep2))) (fun j x H5 H' kN' kY hj s y kn ky => ?_) (fun H3 ys s3 e3 kp => ?_)
  · obtain ⟨rfl, hx⟩ := y
    unfold intV at hx
    rw [List.getElem?_map] at hx
    obtain ⟨s0, hs0, rfl⟩ := Option.map_eq_some_iff.mp hx
    have gd : ls'.getD j 0 = s0 := by rw [List.getD_eq_getElem?_getD, hs0]; rfl
    obtain ⟨kf, hkf⟩ : ∃ kf, far s0 = some kf := by
      cases e : far s0 with
      | none => exact absurd e ((lmem' s0).mp (List.mem_of_getElem? hs0))
      | some k => exact ⟨k, rfl⟩
    have vu : some (V.int (kf : Int)) = valV fk (keyN s0) := by rw [fd s0, hkf]; rfl
    refine ⟨rfl, ⟨_, rfl, _, rfl, D, _, rfl, .inl ⟨fk, keyN s0, .inl (s _ _ ef2), rfl, vu⟩, _, _, rfl, rfl, _, rfl, ite2 (fun h0 => ?_) (fun h0 => ?_)⟩⟩
    · refine ⟨_, rfl, ky _ _ (Same.refl _) ?_ (by rw [gd])⟩
      rw [gd, hkf]
      have := of_decide_eq_true h0
      simp
      omega
    · refine kn _ (Same.refl _) ?_
      rw [gd, hkf]
      have : ¬ (0 : Int) < (kf : Int) := fun z => h0 (decide_eq_true z)
      simp
      omega
  have eys := kept_map (f := fun j => V.int (ls'.getD j 0 : Nat)) kp
  have eos : ys = intV (ls'.filter fun s => decide (far s ≠ some 0)) := by
    rw [eys, il, ← filter_getD ls' fun s => decide (far s ≠ some 0)]
    unfold intV
    rw [List.map_map]
    rfl
  have ond : (ls'.filter fun s => decide (far s ≠ some 0)).Nodup := lnd'.filter _
  have om : ∀ s, s ∈ (ls'.filter fun s => decide (far s ≠ some 0)) ↔ ∃ k, far s = some (k + 1) := fun s => by
    rw [List.mem_filter, lmem' s]
    constructor
    · rintro ⟨h1, h2⟩
      have h2 := of_decide_eq_true h2
      cases e : far s with
      | none => exact absurd e h1
      | some m =>
        cases m with
        | zero => exact absurd e h2
        | succ m => exact ⟨m, rfl⟩
    · rintro ⟨m, e⟩
      rw [e]
      simp
  generalize (ls'.filter fun s => decide (far s ≠ some 0)) = os at eos ond om
  subst eos
  clear eys kp perm perm' pw
  have s23 := s2.trans s3
  have ef3 := s3 _ _ ef2
  have osn : ∀ s ∈ os, s < n := fun s hs => by
    obtain ⟨m, e⟩ := (om s).mp hs
    exact fo.lt s (by rw [e]; simp)
  -- there are five at most
  have N5 : os.length ≤ 5 := by
    by_cases h0 : os = []
    · rw [h0]; decide
    · obtain ⟨s0, hs0⟩ := List.exists_mem_of_ne_nil _ h0
      have zero : ∀ m s, far s = some m → ∃ t, far t = some 0 := by
        intro m
        induction m with
        | zero => exact fun s e => ⟨s, e⟩
        | succ m ih =>
          intro s e
          obtain ⟨a, _, t, _, et⟩ := fo.fS s m e
          exact ih t.1 et
      obtain ⟨m, em⟩ := (om s0).mp hs0
      obtain ⟨t, et⟩ := zero _ _ em
      have tn : t < n := fo.lt t (by rw [et]; simp)
      have to : t ∉ os := fun z => by obtain ⟨m, e⟩ := (om t).mp z; rw [et] at e; cases e
      have := nodup_len (l := t :: os) (m := List.range n) (List.nodup_cons.mpr ⟨to, ond⟩) fun x hx => by
        rcases List.mem_cons.mp hx with rfl | hx
        · exact List.mem_range.mpr tn
        · exact List.mem_range.mpr (osn x hx)
      simp at this
      omega
  have ol : (intV os).length = os.length := List.length_map _
  refine ⟨Nat.zero_le _, fun Rw hRw => ?_⟩
  have SO : ∀ {H1 : Hp}, Same H3 H1 → SqL K H1 O (intV os) := fun s => .inl (.inl (s _ _ e3))
  have hRwH := none_back s23 hRw
  refine ⟨_, rfl, O, rfl, ⟨intV os, SO (same_upd hRw)⟩, ?_⟩
  refine for_it walk_list (fun i σ H4 => (∃ x1 x2 x3 x4 x5 x6, σ = [some v, some (.ref ap), some (.ref d), some (.ref D), some (.ref O), some (.ref Rw), x1, x2, x3, x4, x5, x6, none, none]) ∧ Same H3 H4 ∧ ∃ rws rs, H4 Rw = some (.lst rws) ∧ All2 (fun u r => NumsL K H4 u r ∧ u ≠ .ref Rw) rws rs ∧ rs.length = i ∧ (∀ r ∈ rs, r.length = os.length + 1) ∧ LC.SzR 6 0 rs ∧ ∀ (j : Nat) s r, os[j]? = some s → rs[j]? = some r → RowOk (hsOf n l) (pk p) os far s r)
    ⟨⟨none, none, none, none, none, none, rfl⟩, same_upd hRw, [], [], upd_same, All2.nil, rfl, fun _ h => by simp at h, fun _ h => by simp at h, fun j s r _ h => by simp at h⟩ (fun i σ H4 _ p => SO p.2.1) ?_ ?_
  · rintro i x σ H4 H5 hi ⟨⟨x1, x2, x3, x4, x5, x6, rfl⟩, s4, rws, rs, eRw, aR, rl, rlen, rsz, rok⟩ ⟨rfl, hx⟩
    unfold intV at hx
    rw [List.getElem?_map] at hx
    obtain ⟨s0, hs0, rfl⟩ := Option.map_eq_some_iff.mp hx
    have so : s0 ∈ os := List.mem_of_getElem? hs0
    have ix0 : os.idxOf s0 = i := LC.idx_at ond hs0
    have hiN : i < os.length := (List.getElem?_eq_some_iff.mp hs0).1
    obtain ⟨m0, em0⟩ := (om s0).mp so
    obtain ⟨a0, ea0, _⟩ := fo.fS s0 m0 em0
    obtain ⟨dd, hdd, _⟩ := pok.at_ s0 a0 ea0
    have okd := ok.acts dd (List.mem_of_getElem? hdd)
    have out := out_of (n := n) hdd
    have sn0 := osn s0 so
    refine fun x dx hx hdx ne => mR1 hx hdx ne fun H6 s6 hz => ⟨rfl, by show 1 ≤ sizeLine; decide, fun Lz hLz => ?_⟩
    have s7 := s6.trans (same_upd (o := .lst [.ref x]) hLz)
    have s47 := s4.trans s7
    refine ⟨_, rfl, _, os.length, rfl, .inl ⟨_, SO s47, ol.symm⟩, _, _, rfl, rfl, ?_⟩
    have kn1 : ((os.length : Int) + 1).toNat = os.length + 1 := by omega
    refine ⟨Lz, (os.length : Int) + 1, [.ref x], rfl, rfl, upd_same, by omega, by omega, ?_, fun RW hRW => ?_⟩
    · rw [kn1]
      exact Nat.le_trans (by simp; omega : [V.ref x].length * (os.length + 1) ≤ 6) (by decide)
    rw [kn1]
    have fl : (List.replicate (os.length + 1) [V.ref x]).flatten = List.replicate (os.length + 1) (V.ref x) := by simp
    rw [fl]
    refine ⟨_, _, rfl, ?_⟩
    have hx7 : IsR K (upd (upd H6 Lz (.lst [.ref x])) RW (.lst (List.replicate (os.length + 1) (V.ref x)))) (.ref x) 0 := (show IsR K H6 (.ref x) 0 from hz).n ((sameN_new hLz).trans (sameN_new hRW))
    have s48 : Same H3 (upd (upd H6 Lz (.lst [.ref x])) RW (.lst (List.replicate (os.length + 1) (V.ref x)))) := s47.trans (same_upd hRW)
    have s78 : Same H5 (upd (upd H6 Lz (.lst [.ref x])) RW (.lst (List.replicate (os.length + 1) (V.ref x)))) := s7.trans (same_upd hRW)
    have eR8 : upd (upd H6 Lz (.lst [.ref x])) RW (.lst (List.replicate (os.length + 1) (V.ref x))) RW = some (.lst (List.replicate (os.length + 1) (V.ref x))) := upd_same
    have nRW : H5 RW = none := none_back s7 hRW
    generalize upd (upd H6 Lz (.lst [.ref x])) RW (.lst (List.replicate (os.length + 1) (V.ref x))) = H8 at hx7 s48 s78 eR8
    have a8 : All2 (IsR K H8) (List.replicate (os.length + 1) (V.ref x)) (List.replicate (os.length + 1) 0) := ⟨by simp, fun j u q h1 h2 => by
      rw [(List.mem_replicate.mp (List.mem_of_getElem? h1)).2, (List.mem_replicate.mp (List.mem_of_getElem? h2)).2]
      exact hx7⟩
    have sH8 := s23.trans s48
    refine ⟨_, rfl, _, rfl, _, rfl, ap, _, _, _, rfl, rfl, .inl (.inl (sH8 _ _ eap)), atI_nat (pk_at (by rw [pok.len]; exact sn0)), ?_⟩
    rw [ea0]
    refine ⟨v, n, l, a0, dd, rfl, hv.n (same_n sH8), ok, hdd, fun H9 pp us s9 epp app => ?_⟩
    have ul : us.length = (prs dd).length := app.1
    have pl4 : (prs dd).length ≤ 4 := by have := okd.len; unfold prs; rw [List.length_map]; exact this
    refine ⟨pp, rfl, ⟨us, .inl (.inl epp)⟩, ?_⟩
    have nR5 : RW ≠ Rw := fun z => by subst z; rw [eRw] at nRW; cases nRW
    have eR9 := s9 _ _ eR8
    have nRpp : RW ≠ pp := fun z => by
      subst z
      rw [eR9] at epp
      cases epp
      have hp0 : 0 < (prs dd).length := by
        have := outsOk okd
        exact List.length_pos_iff.mpr this.1
      obtain ⟨u0, hu0, b0, eb0, hb0⟩ := app.get (List.getElem?_eq_getElem hp0)
      have := (List.mem_replicate.mp (List.mem_of_getElem? hu0)).2
      rw [eb0] at this
      cases this
      obtain ⟨c0, d0, ec0, hc0⟩ := hx7
      cases ec0
      rw [s9 _ _ hc0] at hb0
      cases hb0
    refine for_it walk_list (fun j σ H10 => (∃ x4 x5 x6, σ = [some v, some (.ref ap), some (.ref d), some (.ref D), some (.ref O), some (.ref Rw), some (.int (s0 : Int)), some (.ref RW), some (.int (wsum ((prs dd).take j) : Nat)), x4, x5, x6, none, none]) ∧ Same H5 H10 ∧ (∀ b o, b ≠ RW → H9 b = some o → H10 b = some o) ∧ ∃ ws r, H10 RW = some (.lst ws) ∧ All2 (IsR K H10) ws r ∧ RowI os.length (wsum ((prs dd).take j)) r ∧ Part os far ((prs dd).take j) r)
      ⟨⟨x4, x5, x6, rfl⟩, s78.trans s9, fun _ _ _ h => h, _, _, eR9, a8.imp fun x y z => z.n (same_n s9), LC.rowI_zero _, LC.part_zero _⟩ (fun j σ H10 _ p => .inl (.inl (p.2.2.1 _ _ nRpp.symm epp))) ?_ ?_
    · rintro j x' σ H10 H11 hj ⟨⟨y4, y5, y6, rfl⟩, s10, sx, ws, r, eRW, aw, RI, PT⟩ ⟨rfl, hx'⟩
      obtain ⟨⟨t, od⟩, hp, b, rfl, eb⟩ := app.get' hx'
      have okt : od ≤ 10 := by
        obtain ⟨o, ho, e⟩ := List.mem_map.mp (List.mem_of_getElem? hp)
        have := okd.outs o ho
        cases e
        exact this.o2
      have bRW : b ≠ RW := fun z => by subst z; rw [eR9] at eb; cases eb
      have tk : (prs dd).take (j + 1) = (prs dd).take j ++ [(t, od)] := by rw [List.take_add_one, hp]; rfl
      have wj := wsum_le okd j
      have wj1 : wsum ((prs dd).take j) ≤ 40 := by
        have := wsum_le okd 4
        rw [List.take_of_length_le (by omega)] at this
        have h2 : wsum ((prs dd).take j) ≤ 10 * j := wj
        omega
      have od4 : Sz 4 0 ((od : Int) : Rat) := LC.sz_int (by show od ≤ 2 ^ 4; omega)
      have SRW : SqL K H11 RW ws := .inl (.inl eRW)
      have wl : ws.length = os.length + 1 := aw.1.trans RI.len
      have s311 : Same H3 H11 := s4.trans s10
      have sH11 := s23.trans s311
      -- the heap behind a turn
      have nxt : ∀ {H12 : Hp} {q' : Rat} {v' : V} {jj : Nat}, Same H11 H12 → IsR K H12 v' q' → RowI os.length (wsum ((prs dd).take j) + od) (r.set jj q') → Part os far ((prs dd).take j ++ [(t, od)]) (r.set jj q') →
          Same H5 (upd H12 RW (.lst (ws.set jj v'))) ∧ (∀ b o, b ≠ RW → H9 b = some o → upd H12 RW (.lst (ws.set jj v')) b = some o) ∧ ∃ ws2 r2, upd H12 RW (.lst (ws.set jj v')) RW = some (.lst ws2) ∧ All2 (IsR K (upd H12 RW (.lst (ws.set jj v')))) ws2 r2 ∧ RowI os.length (wsum ((prs dd).take (j + 1))) r2 ∧ Part os far ((prs dd).take (j + 1)) r2 := fun {H12 q' v' jj} s12 hv' hR hP => by
        have sn : SameN H12 (upd H12 RW (.lst (ws.set jj v'))) := sameN_upd (s12 _ _ eRW) (fun z => z)
        refine ⟨same_at (s10.trans s12) nRW, fun b o hb e => by rw [upd_ne hb]; exact s12 _ _ (sx b o hb e), ws.set jj v', r.set jj q', upd_same, all2_set (aw.imp fun x y z => z.n ((same_n s12).trans sn)) jj (hv'.n sn), ?_, ?_⟩
        · rw [tk, wsum_snoc]; exact hR
        · rw [tk]; exact hP
      have sg : (V.int ((wsum ((prs dd).take j) : Nat) + (od : Int))) = V.int (wsum ((prs dd).take (j + 1)) : Nat) := by rw [tk, wsum_snoc, Int.natCast_add]
      refine ⟨b, _, rfl, .inl (.inl (sx b _ bRW eb)), rfl, _, _, rfl, _, _, rfl, rfl, ?_⟩
      refine ⟨_, rfl, _, rfl, _, _, rfl, rfl, ?_⟩
      refine ⟨_, rfl, _, rfl, O, intV os, rfl, .inl (SO s311), rfl, all_flat _, _, rfl, ite2 (fun h0 => ?_) (fun h0 => ?_)⟩
      · have h0 : inV (V.int (t : Int)) (intV os) = true := h0
        rw [inV_ints] at h0
        have to := of_decide_eq_true h0
        have il : os.idxOf t < os.length := List.idxOf_lt_length_of_mem to
        obtain ⟨q1, hq1⟩ : ∃ q1, r[os.idxOf t]? = some q1 := ⟨_, List.getElem?_eq_getElem (by rw [RI.len]; omega)⟩
        obtain ⟨y, hy, ry⟩ := aw.get hq1
        refine ⟨_, rfl, _, rfl, .inl ⟨rfl, _, SO s311⟩, _, rfl, O, intV os, .int (t : Int), os.idxOf t, .int (t : Int), rfl, rfl, SO s311, rfl, all_flat os, (idx_f to).1, (idx_f to).2.1, (idx_f to).2.2, ⟨RW, ws, _, y, rfl, rfl, SRW, atI_nat hy, _, rfl, ?_⟩⟩
        refine ⟨q1, (od : Int), 6, 0, 4, 0, ry, .inr ⟨_, rfl, rfl⟩, RI.sz (t := 6) (by omega) hq1, od4, by omega, by omega, fun H12 v' s12 hv' => ?_⟩
        refine ⟨_, rfl, _, rfl, .inl ⟨rfl, _, SO (s311.trans s12)⟩, _, rfl, O, intV os, .int (t : Int), os.idxOf t, .int (t : Int), rfl, rfl, SO (s311.trans s12), rfl, all_flat os, (idx_f to).1, (idx_f to).2.1, (idx_f to).2.2, ⟨RW, ws, _, os.idxOf t, rfl, rfl, s12 _ _ eRW, ix_nat (by omega), ?_⟩⟩
        exact ⟨⟨_, _, _, by rw [← sg]; rfl⟩, nxt s12 hv' (RI.sub hq1) (PT.open_ to rfl hq1)⟩
      · have h0 : ¬ inV (V.int (t : Int)) (intV os) = true := h0
        rw [inV_ints] at h0
        have to : t ∉ os := fun z => h0 (decide_eq_true z)
        have efB := (s311) _ _ ef3
        refine ⟨_, rfl, _, rfl, D, _, rfl, .inl ⟨fk, keyN t, .inl efB, rfl, rfl⟩, _, rfl, ite2 (fun h1 => ?_) (fun h1 => ?_)⟩
        · have ft : far t ≠ none := fun e => by rw [fd t, e] at h1; cases h1
          have ft0 : far t = some 0 := by
            cases e : far t with
            | none => exact absurd e ft
            | some m =>
              cases m with
              | zero => rfl
              | succ m => exact absurd ((om t).mpr ⟨m, e⟩) to
          obtain ⟨tg, _⟩ := (fo.f0 t).mp ft0
          obtain ⟨uw, hw1, hw2⟩ := ew t tg
          obtain ⟨q1, hq1⟩ : ∃ q1, r[os.length]? = some q1 := ⟨_, List.getElem?_eq_getElem (by rw [RI.len]; omega)⟩
          obtain ⟨y, hy, ry⟩ := aw.get hq1
          refine ⟨_, rfl, _, rfl, RW, ws, _, y, rfl, rfl, SRW, atI_last' wl hy, ?_⟩
          refine ⟨_, rfl, _, rfl, d, uw, rfl, .inl ⟨kvs, keyN t, .inl (sH11 _ _ ed), rfl, hw1.symm⟩, _, rfl, ?_⟩
          refine ⟨1, (od : Int), 0, 0, 4, 0, hw2.n (same_n sH11), .inr ⟨_, rfl, rfl⟩, LC.sz_int (i := 1) (t := 0) (by decide), od4, by omega, by omega, fun H12 m s12 hm => ?_⟩
          refine ⟨q1, 1 * (od : Rat), 6, 0, 4, 0, ry.n (same_n s12), .inl hm, RI.sz (t := 6) (by omega) hq1, by rw [Rat.one_mul]; exact od4, by omega, by omega, fun H13 v' s13 hv' => ?_⟩
          refine ⟨_, rfl, _, rfl, RW, ws, _, os.length, rfl, rfl, (s12.trans s13) _ _ eRW, ?_, ?_⟩
          · unfold ixN
            rw [if_neg (by omega), if_pos (by omega), wl]
            congr 1
            omega
          · exact ⟨⟨_, _, _, by rw [← sg]; rfl⟩, nxt (s12.trans s13) hv' (RI.last hq1) (PT.far_ to ft hq1)⟩
        · have ft : far t = none := by
            cases e : far t with
            | none => rfl
            | some m => rw [fd t, e] at h1; exact absurd rfl h1
          refine ⟨⟨_, _, _, by rw [← sg]; rfl⟩, s10, sx, ws, r, eRW, aw, ?_, ?_⟩
          · rw [tk, wsum_snoc]; exact RI.more
          · rw [tk]; exact PT.none_ to ft
    · rintro σ H10 ⟨⟨y4, y5, y6, rfl⟩, s10, sx, ws, r, eRW, aw, RI, PT⟩
      rw [ul, List.take_length] at RI PT
      rw [ul, List.take_length]
      have s310 : Same H3 H10 := s4.trans s10
      have W40 : wsum (prs dd) ≤ 40 := by
        have := wsum_le okd 4
        rw [List.take_of_length_le pl4] at this
        exact this
      obtain ⟨q1, hq1⟩ : ∃ q1, r[i]? = some q1 := ⟨_, List.getElem?_eq_getElem (by rw [RI.len]; omega)⟩
      obtain ⟨y, hy, ry⟩ := aw.get hq1
      have wl : ws.length = os.length + 1 := aw.1.trans RI.len
      refine ⟨_, rfl, .inl ⟨rfl, _, SO s310⟩, _, rfl, O, intV os, .int (s0 : Int), os.idxOf s0, .int (s0 : Int), rfl, rfl, SO s310, rfl, all_flat os, (idx_f so).1, (idx_f so).2.1, (idx_f so).2.2, ?_⟩
      rw [ix0]
      refine ⟨_, rfl, _, rfl, RW, ws, _, y, rfl, rfl, .inl (.inl eRW), atI_nat hy, _, rfl, ?_⟩
      refine ⟨q1, ((wsum (prs dd) : Nat) : Int), 6, 0, 6, 0, ry, .inr ⟨_, rfl, rfl⟩, RI.sz (t := 6) (by omega) hq1, LC.sz_int (by show wsum (prs dd) ≤ 2 ^ 6; omega), by omega, by omega, fun H12 v' s12 hv' => ?_⟩
      refine ⟨_, rfl, _, rfl, RW, ws, _, i, rfl, rfl, s12 _ _ eRW, ix_nat (by omega), ?_⟩
      have sn : SameN H12 (upd H12 RW (.lst (ws.set i v'))) := sameN_upd (s12 _ _ eRW) (fun z => z)
      have s13 : Same H5 (upd H12 RW (.lst (ws.set i v'))) := same_at (s10.trans s12) nRW
      have n13 : NumsL K (upd H12 RW (.lst (ws.set i v'))) (.ref RW) (r.set i (q1 + (wsum (prs dd) : Rat))) := ⟨RW, _, rfl, upd_same, all2_set (aw.imp fun x y z => z.n ((same_n s12).trans sn)) i (hv'.n sn)⟩
      have eRw13 := s13 _ _ eRw
      generalize upd H12 RW (.lst (ws.set i v')) = H13 at s13 n13 eRw13
      have rwl : rws.length ≤ 5 := by have := aR.1; omega
      refine ⟨_, rfl, .inl ⟨rfl, _, .inl (.inl eRw13)⟩, _, rfl, Rw, rws, _, rfl, rfl, eRw13, Nat.lt_of_le_of_lt rwl (by decide), ?_⟩
      have neR : V.ref RW ≠ .ref Rw := fun z => nR5 (by cases z; rfl)
      refine ⟨⟨_, _, _, _, _, _, rfl⟩, same_at (s4.trans s13) hRw, rws ++ [.ref RW], rs ++ [r.set i (q1 + (wsum (prs dd) : Rat))], upd_same, ?_, by rw [List.length_append, rl]; rfl, fun r' hr' => ?_, fun r' hr' => ?_, fun jj s r' hs hr' => ?_⟩
      · exact (aR.imp fun x y z => ⟨(z.1.s s13).upd_ z.2 eRw13, z.2⟩).snoc ⟨n13.upd_ neR eRw13, neR⟩
      · rcases List.mem_append.mp hr' with z | z
        · exact rlen r' z
        · rw [List.mem_singleton.mp z, List.length_set]
          exact RI.len
      · rcases List.mem_append.mp hr' with z | z
        · exact rsz r' z
        · rw [List.mem_singleton.mp z]
          exact RI.fin hiN hq1 W40
      · by_cases hj : jj < rs.length
        · rw [List.getElem?_append_left hj] at hr'
          exact rok jj s r' hs hr'
        · have ej : jj = rs.length := by
            have := (List.getElem?_eq_some_iff.mp hr').1
            rw [List.length_append] at this
            have h1 : [r.set i (q1 + (wsum (prs dd) : Rat))].length = 1 := rfl
            omega
          subst ej
          rw [List.getElem?_append_right (Nat.le_refl _), Nat.sub_self] at hr'
          cases hr'
          rw [rl, hs0] at hs
          cases hs
          exact PT.own so ix0 hq1 fun b eb => by
            rw [ea0] at eb
            cases eb
            exact out
  · rintro σ H4 ⟨⟨x1, x2, x3, x4, x5, x6, rfl⟩, s4, rws, rs, eRw, aR, rl, rlen, rsz, rok⟩
    have s24 := s23.trans s4
    have S : LC.Sys (hsOf n l) g (pk p) far os rs := ⟨fo, ond, om, ⟨by rw [rl, ol], rlen⟩, rok⟩
    have tr := LC.sys_triv S pok.ok.at_ (hs_ok ok)
    refine ⟨_, rfl, _, rfl, .ref Rw, os.length, rs, rfl, ⟨Rw, rws, rfl, eRw, aR.imp fun x y z => z.1⟩, S.sh, N5, tr, rsz, fun H5 a5 us q s5 e5 aq ql sol qz => ?_⟩
    have ul : us.length = os.length := aq.1.trans ql
    refine ⟨O, a5, (os.map keyN).zip us, rfl, ?_, ?_, fun pf hpf => ?_⟩
    · have e1 : (((os.map keyN).zip us).map fun kv => kV kv.1) = intV os := by
        have : (((os.map keyN).zip us).map fun kv => kV kv.1) = (((os.map keyN).zip us).map (·.1)).map kV := by rw [List.map_map]; rfl
        rw [this, zip_fst os us ul, List.map_map]
        rfl
      rw [e1]
      exact SO (s4.trans s5)
    · rw [zip_snd os us ul]
      exact .inl (.inl e5)
    have fg : ∀ t, valV (mergeK [] ((os.map keyN).zip us)) (keyN t) = valV ((os.map keyN).zip us) (keyN t) := fun t => by
      rw [merge_get _ _ _ (by rw [zip_fst os us ul]; exact List.pairwise_map.mpr (ond.imp fun h e => h (keyN_inj e)))]
      cases valV ((os.map keyN).zip us) (keyN t) <;> rfl
    generalize mergeK [] ((os.map keyN).zip us) = FD at fg
    have s6 := (s24.trans s5).trans (same_upd (o := .dK FD) hpf)
    have s36 := (s4.trans s5).trans (same_upd (o := .dK FD) hpf)
    have s56 := same_upd (o := .dK FD) hpf
    have e6 : upd H5 pf (.dK FD) pf = some (.dK FD) := upd_same
    generalize upd H5 pf (.dK FD) = H6 at s6 s36 s56 e6
    obtain ⟨xh, dxh, mh, vah, vsh, lkh, voh, rfl, eh, hh1, hh2, hh3⟩ := id hv
    refine ⟨_, rfl, xh, _, dxh, _, _, rfl, s6 _ _ eh, T.cl_House, T.na_House_states, rfl, (n : Int), rfl, by omega, by omega, fun To hTo => ?_⟩
    rw [Int.toNat_natCast]
    have xN : solV os.length q os.length = -1 := by unfold solV; rw [if_neg (by omega), if_pos rfl]; grind
    refine lcm walk_range hTo (Nat.le_trans n6 (by decide)) (fun _ => true) (fun i y H1 => IsR K H1 y (LC.X os far (solV os.length q) i)) (fun i y H1 H2 s z => z.n s) (fun H1 s => trivial) (fun i x H8 H1 kN' kY hi s y kn ky => ?_) (fun H7 ys s7 e7 kp => ?_)
    · obtain ⟨rfl, ex⟩ := y
      obtain rfl : x = V.int ((i : Nat) : Int) := ex.trans (congrArg V.int (Int.zero_add _))
      have s68 := s6.trans s
      have ef8 := (s36.trans s) _ _ ef3
      refine ⟨rfl, yes ⟨_, rfl, D, rfl, .inl ⟨fk, .inl ef8⟩, _, rfl, _, .inl ⟨fk, keyN i, .inl ef8, rfl, rfl⟩, ?_⟩⟩
      rw [fd i]
      cases ef : far i with
      | none =>
        refine ⟨rfl, false, rfl, iteF ?_⟩
        have no : i ∉ os := fun z => by obtain ⟨m, e⟩ := (om i).mp z; rw [ef] at e; cases e
        refine ⟨_, rfl, pf, rfl, .inl ⟨FD, .inl (s _ _ e6)⟩, _, rfl, fun x dx hx hdx ne => mR1 hx hdx ne fun H9 s9 hz => ⟨rfl, ?_⟩⟩
        refine ⟨none, .inl ⟨FD, keyN i, .inl ((s.trans s9) _ _ e6), rfl, by rw [fg i, zip_none no]⟩, ky _ _ s9 rfl ?_⟩
        have e : LC.X os far (solV os.length q) i = 0 := by unfold LC.X; rw [if_neg no, if_neg (by rw [ef]; simp)]
        rw [e]
        exact hz
      | some m =>
        cases m with
        | zero =>
          refine ⟨rfl, true, by rfl, iteT ?_⟩
          obtain ⟨ig, _⟩ := (fo.f0 i).mp ef
          obtain ⟨uw, hw1, hw2⟩ := ew i ig
          have no : i ∉ os := fun z => by obtain ⟨m, e⟩ := (om i).mp z; rw [ef] at e; cases e
          refine ⟨_, rfl, _, rfl, d, uw, rfl, .inl ⟨kvs, keyN i, .inl (s68 _ _ ed), rfl, hw1.symm⟩, ky _ _ (Same.refl _) rfl ?_⟩
          have e : LC.X os far (solV os.length q) i = 1 := by unfold LC.X; rw [if_neg no, if_pos (by rw [ef]; simp), xN]; grind
          rw [e]
          exact hw2.n (same_n s68)
        | succ m =>
          refine ⟨rfl, false, ?_, iteF ?_⟩
          · show V.bl (decide (V.int ((m + 1 : Nat) : Int) = V.int 0)) = V.bl false
            rw [decide_eq_false (fun e => by have := V.int.inj e; omega)]
          have io : i ∈ os := (om i).mpr ⟨m, ef⟩
          have il : os.idxOf i < os.length := List.idxOf_lt_length_of_mem io
          have ie : os[os.idxOf i]? = some i := by rw [List.getElem?_eq_getElem il, List.getElem_idxOf il]
          obtain ⟨g1, hg1⟩ : ∃ g1, q[os.idxOf i]? = some g1 := ⟨_, List.getElem?_eq_getElem (by omega)⟩
          obtain ⟨y1, hy1, ry1⟩ := aq.get hg1
          refine ⟨_, rfl, pf, rfl, .inl ⟨FD, .inl (s _ _ e6)⟩, _, rfl, fun x dx hx hdx ne => mR1 hx hdx ne fun H9 s9 hz => ⟨rfl, ?_⟩⟩
          refine ⟨some y1, .inl ⟨FD, keyN i, .inl ((s.trans s9) _ _ e6), rfl, by rw [fg i, zip_get os us _ i ond ie ul, hy1]⟩, ky _ _ s9 rfl ?_⟩
          have e : LC.X os far (solV os.length q) i = g1 := by
            unfold LC.X solV numN
            rw [if_pos io, if_pos il, if_neg (by omega), hg1, Rat.add_zero]
            rfl
          rw [e]
          exact ry1.n (same_n (s56.trans (s.trans s9)))
    · obtain ⟨l1, l2⟩ := kp.all
      have tl : ((List.range n).map fun i => LC.X os far (solV os.length q) i).length = n := by simp
      have nv : ∀ t, numN ((List.range n).map fun i => LC.X os far (solV os.length q) i) t = LC.X os far (solV os.length q) t := fun t => by
        unfold numN
        by_cases ht : t < n
        · rw [List.getElem?_map, List.getElem?_range ht]
          rfl
        · rw [List.getElem?_eq_none (by rw [tl]; omega)]
          have no : t ∉ os := fun z => ht (osn t z)
          have nf : far t = none := by
            cases e : far t with
            | none => rfl
            | some m => exact absurd (fo.lt t (by rw [e]; simp)) ht
          unfold LC.X
          rw [if_neg no, if_neg (by rw [nf]; simp)]
          rfl
      have aT : All2 (IsR K H7) ys ((List.range n).map fun i => LC.X os far (solV os.length q) i) := all2_of (by rw [l1, tl]) fun i y hy => by
        have hi : i < n := by have := (List.getElem?_eq_some_iff.mp hy).1; omega
        exact ⟨_, by rw [List.getElem?_map, List.getElem?_range hi]; rfl, l2 i y hy⟩
      refine ⟨_, rfl, _, rfl, by show 2 ≤ sizeLine; decide, fun t ht => ?_⟩
      have s8 := s7.trans (same_upd (o := .tup [.ref To, .ref D]) ht)
      refine k _ t To _ D fk far (s6.trans s8) upd_same ⟨To, ys, rfl, same_upd ht _ _ e7, aT.imp fun x y z => z.n (sameN_new ht)⟩ tl ((s36.trans s8) _ _ ef3) kok fd (LC.sys_had S pok.ok (hs_ok ok) xN sol nv) fun x hx => ?_
      obtain ⟨i, hi, rfl⟩ := List.mem_map.mp hx
      unfold LC.X
      split
      · rename_i io
        have il : os.idxOf i < os.length := List.idxOf_lt_length_of_mem io
        unfold solV numN
        rw [if_pos il, if_neg (by omega), List.getElem?_eq_getElem (by omega), Rat.add_zero]
        exact qz _ (List.getElem_mem _)
      · split
        · rw [xN]
          rw [show -(-1 : Rat) = ((1 : Int) : Rat) by grind]
          exact (LC.sz_int (i := 1) (t := 0) (by decide)).mono (by omega) (by omega)
        · exact LC.sz_zero _ _
end
end Lc
set_option Elab.async false
set_option linter.all false
set_option maxRecDepth 100000
set_option maxHeartbeats 4000000
namespace Lc
open PySem PySem.Spec PyProof.Rows L2 LcR
section
variable {X : Cx}
/-- == of two lists of flat things, of one length -/
def rEqFlat (K : PySem.W.Frag) : R2 := fun x y H Q => ∃ a b xs ys, x = .ref a ∧ y = .ref b ∧ SqL K H a xs ∧ SqL K H b ys ∧ xs.length = ys.length ∧ xs.all flatV = true ∧ ys.all flatV = true ∧
  Q (.bl ((List.range xs.length).all fun j => eqV (xs.getD j .non) (ys.getD j .non))) H
theorem op_eqFlat (hu : X.A.units < cLine) : OpR X (compareOp .Eq) (rEqFlat X.K) := by
  intro pins s σ H x y v u Q I rx ry h
  obtain ⟨a, b, xs, ys, rfl, rfl, ha, hb, hl, fx, fy, q⟩ := h
  cases rx
  cases ry
  obtain ⟨us, r1, p1, _⟩ := I.list ha
  obtain ⟨ws, r2, p2, _⟩ := I.list hb
  have hsz : us.toArray.size = ws.toArray.size := by
    rw [List.size_toArray, List.size_toArray, ← r1.length, ← r2.length, hl]
  show wpAny (model X.prog X.w) X.A (richCompare .Eq (.ref a) (.ref b)) (EP X pins σ Q) X.xe s
  refine SeqAt.rcP_lists (e := fun j => eqV (xs.getD j .non) (ys.getD j .non)) p1.isList p2.isList hsz hu (fun j h1 h2 => ?_) X.xe _ ?_
  · have k1 : j < us.length := by simpa using h1
    have k2 : j < ws.length := by simpa using h2
    have k3 : j < xs.length := by rw [r1.length]; exact k1
    have k4 : j < ys.length := by rw [r2.length]; exact k2
    obtain ⟨u1, hu1, g1⟩ := r1.get (List.getElem?_eq_getElem k3)
    obtain ⟨u2, hu2, g2⟩ := r2.get (List.getElem?_eq_getElem k4)
    rw [List.getElem?_eq_getElem k1] at hu1
    rw [List.getElem?_eq_getElem k2] at hu2
    cases hu1
    cases hu2
    rw [List.getD_eq_getElem?_getD, List.getD_eq_getElem?_getD, List.getElem?_eq_getElem k3, List.getElem?_eq_getElem k4]
    have := eqAt_V (A := X.A.in1) (s := s) g1 g2 (List.all_eq_true.mp fx _ (List.getElem_mem k3)) (List.all_eq_true.mp fy _ (List.getElem_mem k4))
    simpa using this.eqP
  · rw [List.size_toArray, ← r1.length]
    exact ⟨.bl _, H, I, rfl, q⟩
end
theorem eqV_pick (a b : Option Nat) : eqV (pickV a) (pickV b) = decide (a = b) := by
  cases a <;> cases b <;> simp [pickV, eqV]
  rename_i x y
  rw [Bool.eq_iff_iff]
  simp
  omega
theorem flat_picks (p : List (Option Nat)) : (p.map pickV).all flatV = true := by
  rw [List.all_eq_true]
  intro x hx
  obtain ⟨t, _, rfl⟩ := List.mem_map.mp hx
  cases t <;> rfl
theorem eq_picks {p q : List (Option Nat)} (h : p.length = q.length) : ((List.range (p.map pickV).length).all fun j => eqV ((p.map pickV).getD j .non) ((q.map pickV).getD j .non)) = decide (p = q) := by
  rw [Bool.eq_iff_iff, List.all_eq_true, decide_eq_true_iff]
  have key : ∀ j, j < p.length → eqV ((p.map pickV).getD j .non) ((q.map pickV).getD j .non) = decide (p[j]? = q[j]?) := fun j hj => by
    rw [List.getD_eq_getElem?_getD, List.getD_eq_getElem?_getD, List.getElem?_map, List.getElem?_map, List.getElem?_eq_getElem hj, List.getElem?_eq_getElem (by omega : j < q.length)]
    show eqV (pickV p[j]) (pickV q[j]) = _
    rw [eqV_pick]
    simp
  constructor
  · intro z
    apply List.ext_getElem?
    intro j
    by_cases hj : j < p.length
    · have := z j (List.mem_range.mpr (by simpa using hj))
      rw [key j hj] at this
      exact of_decide_eq_true this
    · rw [List.getElem?_eq_none (by omega), List.getElem?_eq_none (by omega)]
  · rintro rfl j hj
    rw [key j (by simpa using List.mem_range.mp hj)]
    simp
end Lc
set_option Elab.async false
set_option linter.all false
set_option maxRecDepth 100000
set_option maxHeartbeats 4000000
namespace Lc
open PySem PySem.Spec PyProof.Rows L2 LcR
theorem pk_set {p : List (Option Nat)} {s0 : Nat} {x : Option Nat} (h : s0 < p.length) (s : Nat) : pk (p.set s0 x) s = if s = s0 then x else pk p s := by
  unfold pk
  by_cases e : s = s0
  · subst e
    rw [List.getElem?_set_self h, if_pos rfl]
    rfl
  · rw [List.getElem?_set_ne (Ne.symm e), if_neg e]
/-! ### what it comes to, turn by turn -/
open Classical in
noncomputable def firstStep (l : List ActD) (u : Nat) (st : List (Option Nat) × List Nat × List Nat) (a : Nat) : List (Option Nat) × List Nat × List Nat :=
  match l[a]? with
  | some d => if d.1 ∉ st.2.1 ∧ u ∈ (prs d).map (·.1) then (st.1.set d.1 (some a), st.2.1 ++ [d.1], st.2.2 ++ [d.1]) else st
  | none => st
inductive FirstRun (l : List ActD) : List (Option Nat) × List Nat × List Nat → List (Option Nat) → Prop where
  | nil {p : List (Option Nat)} {kn : List Nat} : FirstRun l (p, kn, []) p
  | cons {p f : List (Option Nat)} {kn r : List Nat} {u : Nat} : FirstRun l ((List.range l.length).foldl (firstStep l u) (p, kn, r)) f → FirstRun l (p, kn, u :: r) f
theorem FirstRun.det {l : List ActD} {st : List (Option Nat) × List Nat × List Nat} {f1 f2 : List (Option Nat)} (h1 : FirstRun l st f1) (h2 : FirstRun l st f2) : f1 = f2 := by
  induction h1 with
  | nil => cases h2; rfl
  | cons _ ih => cases h2 with | cons h => exact ih h
theorem firstStep_no {l : List ActD} {u a : Nat} {d : ActD} {p : List (Option Nat)} {kn ls : List Nat} (hd : l[a]? = some d) (h : ¬ (d.1 ∉ kn ∧ u ∈ (prs d).map (·.1))) : firstStep l u (p, kn, ls) a = (p, kn, ls) := by
  unfold firstStep
  rw [hd]
  exact if_neg h
theorem firstStep_yes {l : List ActD} {u a : Nat} {d : ActD} {p : List (Option Nat)} {kn ls : List Nat} (hd : l[a]? = some d) (h1 : d.1 ∉ kn) (h2 : u ∈ (prs d).map (·.1)) : firstStep l u (p, kn, ls) a = (p.set d.1 (some a), kn ++ [d.1], ls ++ [d.1]) := by
  unfold firstStep
  rw [hd]
  exact if_pos ⟨h1, h2⟩
section
variable {P : Program} {w : World} {K : PySem.W.Frag} {mg : Str → Option Value} {base : Heap}
def sp_first_picks (K : PySem.W.Frag) : Sp := fun vs H Q _ => ∃ (v : V) (n : Nat) (l : List ActD) (y : V) (g : List Nat), vs = [v, y] ∧ HouseV K H v n l ∧ OkActs n l ∧ WorthsV K H y g ∧ (∀ s ∈ g, s < n) ∧ g.Nodup ∧
  ∀ H' a p, Same H H' → H' a = some (.lst (p.map pickV)) → PkOk n l g p → FirstRun l (List.replicate n none, g, g) p → Q (.ref a) H'
theorem c_first_picks (T : Tx K mg) : C8.Cal P w K mg base 6 "first_picks" (sp_first_picks K) [] := by
  obtain ⟨fd, F⟩ := T.f_first_picks
  refine calD F T.g_first_picks sc_first_picks (fun _ _ _ _ _ _ us hl => match us, hl with | [_, _], _ => rfl) (fun vs H Q E h => ?_) (fun cdv A outer s H vs Q E hr h => ?_)
  · obtain ⟨_, _, _, _, _, rfl, _⟩ := h; rfl
  obtain ⟨v, n, l, y, g, rfl, hv, ok, ⟨d, kvs, rfl, ed, ek, ew⟩, gn, gd, k⟩ := h
  refine ⟨_, (pss_cons (ps_set (i := 2) sc_first_picks.nd rfl (Or.inl rfl) (pe_op op_rep (pe_lst (pa_cons pe_non pa_nil)) (pe_fld (pv 0) rfl)))
      (pss_cons (ps_par (i := 3) (j := 4) (by rfl) sc_first_picks.nd rfl rfl (by decide) rfl rfl (pa_cons (pe_callTy (call_listD rfl) (by rfl) T.b_list (by decide +kernel) (pa_cons (pv 1) pa_nil)) (pa_cons (pe_callTy (call_listD rfl) (by rfl) T.b_list (by decide +kernel) (pa_cons (pv 1) pa_nil)) pa_nil)) (by rfl))
      (pss_cons (ps_while PassesOwn.never (pt_cmpR (op_neNil hr.units0) (pv 4) (pe_lst pa_nil) (nomark _))
      (pss_cons (ps_set (i := 5) sc_first_picks.nd rfl (Or.inl rfl) (pe_bm PySem.F.plainAttrs_list PySem.F.slot_list_pop PySem.F.type_list_pop mt_popAt (pv 4) (pa_cons pe_int pa_nil)))
      (pss_one (ps_for PassesOwn.never rfl (pi_range1 (by rfl) T.b_range (pa_cons (pe_callB call_len (by rfl) T.b_len (by decide +kernel) (pa_cons (pe_fld (pv 0) rfl) pa_nil)) pa_nil)) (pg_name (i := 6) sc_first_picks.nd rfl (Or.inl rfl))
      (pss_cons (ps_set (i := 7) sc_first_picks.nd rfl (Or.inl rfl) (pe_fld (pe_ix ix_tup (pe_fld (pv 0) rfl) (pe_ix ix_tup (C8.pe_mt (m_steps_of T) hr (by decide) (pv 0) (pa_cons (pv 6) pa_nil)) pe_int (fun _ _ => rfl)) (fun _ _ => rfl)) rfl))
      (pss_one (ps_if (PW.pt (pw_and (pt_cmpR op_notIn_seq (pv 7) (pv 3) (by rfl)) (pw_and1 (pt_cmpR op_in_seq (pv 5) (pe_lc (own := [("target", 8), ("odds", 9)]) (g := gTup K 2 (gCons (gName 8) (gCons (gName 9) (gNil)))) (by rfl) sc_first_picks.nd (pi_list (C8.pe_c (c_targets_of T) hr (by decide) (by rfl) (pa_cons (pv 0) (pa_cons (pv 6) pa_nil)))) (blkOk_by (own := [("target", 8), ("odds", 9)]) (N := N_first_picks) (sc := defScope s_first_picks) (by decide +kernel)) (fun _ _ _ _ _ => (pg_tup rfl (pgs_cons (pg_name (i := 8) sc_first_picks.nd rfl (Or.inl rfl)) (pgs_cons (pg_name (i := 9) sc_first_picks.nd rfl (Or.inl rfl)) pgs_nil)))) (fun _ _ _ _ _ => pts_nil) (fun _ _ _ _ _ => (pv 8))) (by rfl))))) (pss_cons (ps_asg (pv 6) (pg_sub (pv 2) (pv 7) set_list))
      (pss_cons (ps_expr (pe_bm PySem.F.plainAttrs_list PySem.F.slot_list_append PySem.F.type_list_append mt_append (pv 3) (pa_cons (pv 7) pa_nil)))
      (pss_one (ps_expr (pe_bm PySem.F.plainAttrs_list PySem.F.slot_list_append PySem.F.type_list_append mt_append (pv 4) (pa_cons (pv 7) pa_nil)))))) pss_nil)))))))
      (pss_one (ps_ret (pv 2)))))), ?_⟩
  obtain ⟨xh, dxh, mh, vah, vsh, lkh, voh, rfl, eh, ⟨aa, us, rfl, ea, al⟩, ⟨ps, ss, rfl, es, as⟩, hh3⟩ := id hv
  have n2 := ok.n2
  have ul : us.length = l.length := al.1
  have ll := ok.len
  refine ⟨by show 1 ≤ sizeLine; decide, fun Z hZ => ?_⟩
  have s1 := same_upd (o := .lst [.non]) hZ
  refine ⟨_, rfl, xh, _, dxh, _, _, rfl, s1 _ _ eh, T.cl_House, T.na_House_states, rfl, Z, (n : Int), [.non], rfl, rfl, upd_same, by omega, by omega, ?_, fun Pk hPk => ?_⟩
  · rw [Int.toNat_natCast]
    exact Nat.le_trans (by simp; omega : [V.non].length * n ≤ 10) (by decide)
  rw [Int.toNat_natCast]
  have fl : (List.replicate n [V.non]).flatten = (List.replicate n (none : Option Nat)).map pickV := by simp [pickV]
  rw [fl]
  have s2 := s1.trans (same_upd (o := .lst ((List.replicate n (none : Option Nat)).map pickV)) hPk)
  have eP : upd (upd H Z (.lst [.non])) Pk (.lst ((List.replicate n (none : Option Nat)).map pickV)) Pk = some (.lst ((List.replicate n (none : Option Nat)).map pickV)) := upd_same
  have hPkH : H Pk = none := none_back s1 hPk
  generalize upd (upd H Z (.lst [.non])) Pk (.lst ((List.replicate n (none : Option Nat)).map pickV)) = H2 at s2 eP
  have ev : (kvs.map fun kv => kV kv.1) = intV g := by
    have : (kvs.map fun kv => kV kv.1) = (kvs.map (·.1)).map kV := by rw [List.map_map]; rfl
    rw [this, ek, List.map_map]
    rfl
  refine ⟨_, rfl, d, kvs, rfl, .inl (s2 _ _ ed), fun Kn hKn => ?_⟩
  rw [ev]
  have s3 := s2.trans (same_upd (o := .lst (intV g)) hKn)
  have nPK : Pk ≠ Kn := fun z => by subst z; rw [eP] at hKn; cases hKn
  refine ⟨_, rfl, d, kvs, rfl, .inl (s3 _ _ ed), fun L hL => ?_⟩
  rw [ev]
  have s4 := s3.trans (same_upd (o := .lst (intV g)) hL)
  have nKL : Kn ≠ L := fun z => by subst z; rw [upd_same] at hL; cases hL
  have nPL : Pk ≠ L := fun z => by subst z; rw [upd_ne nPK, eP] at hL; cases hL
  have hKnH : H Kn = none := none_back s2 hKn
  have hLH : H L = none := none_back s3 hL
  have eP4 : upd (upd H2 Kn (.lst (intV g))) L (.lst (intV g)) Pk = some (.lst ((List.replicate n (none : Option Nat)).map pickV)) := by rw [upd_ne nPL, upd_ne nPK]; exact eP
  have eK4 : upd (upd H2 Kn (.lst (intV g))) L (.lst (intV g)) Kn = some (.lst (intV g)) := by rw [upd_ne nKL]; exact upd_same
  have eL4 : upd (upd H2 Kn (.lst (intV g))) L (.lst (intV g)) L = some (.lst (intV g)) := upd_same
  generalize upd (upd H2 Kn (.lst (intV g))) L (.lst (intV g)) = H4 at s4 eP4 eK4 eL4
  refine ⟨_, _, rfl, ?_⟩
  have pk0 : ∀ s, pk (List.replicate n none) s = none := fun s => by
    unfold pk
    cases e : (List.replicate n (none : Option Nat))[s]? with
    | none => rfl
    | some x =>
      rw [(List.mem_replicate.mp (List.mem_of_getElem? e)).2]
      rfl
  refine ⟨fun m σ H6 => (∃ x1 x2 x3, σ = [some (.ref xh), some (.ref d), some (.ref Pk), some (.ref Kn), some (.ref L), x1, x2, x3, none, none]) ∧ ∃ p kn ls, Same H H6 ∧ H6 Pk = some (.lst (p.map pickV)) ∧ H6 Kn = some (.lst (intV kn)) ∧ H6 L = some (.lst (intV ls)) ∧ PkOk n l g p ∧ kn.Nodup ∧ (∀ s ∈ kn, s < n) ∧ (∀ s ∈ g, s ∈ kn) ∧ (∀ f, FirstRun l (p, kn, ls) f → FirstRun l (List.replicate n none, g, g) f) ∧ m = 2 * (n - kn.length) + ls.length ∧ m ≤ 100,
    ⟨_, ⟨none, none, none, rfl⟩, _, g, g, s4, eP4, eK4, eL4, ⟨List.length_replicate, fun s a e => by (rw [pk0 s] at e; cases e), fun s _ => pk0 s⟩, gd, gn, fun _ h => h, fun _ h => h, rfl, ?_⟩, ?_⟩
  · have := nodup_len gd (m := List.range n) fun x hx => List.mem_range.mpr (gn x hx)
    rw [List.length_range] at this
    omega
  rintro m σ H6 ⟨⟨z1, z2, z3, rfl⟩, p, kn, ls, s6, eP6, eK6, eL6, pok, kd, kl, gk, R1, rfl, mb⟩
  refine ⟨_, rfl, Nat.zero_le _, fun Z2 hZ2 => ?_⟩
  have b1 : Pk ≠ Z2 := fun z => by subst z; rw [eP6] at hZ2; cases hZ2
  have b2 : Kn ≠ Z2 := fun z => by subst z; rw [eK6] at hZ2; cases hZ2
  have b3 : L ≠ Z2 := fun z => by subst z; rw [eL6] at hZ2; cases hZ2
  have s7 := s6.trans (same_upd (o := .lst []) hZ2)
  have eP7 : upd H6 Z2 (.lst []) Pk = some (.lst (p.map pickV)) := by rw [upd_ne b1]; exact eP6
  have eK7 : upd H6 Z2 (.lst []) Kn = some (.lst (intV kn)) := by rw [upd_ne b2]; exact eK6
  have eL7 : upd H6 Z2 (.lst []) L = some (.lst (intV ls)) := by rw [upd_ne b3]; exact eL6
  refine ⟨L, Z2, _, rfl, rfl, .inl (.inl eL7), .inl (.inl upd_same), _, rfl, ite2 (fun h0 => ?_) (fun h0 => ?_)⟩
  · generalize upd H6 Z2 (.lst []) = H7 at s7 eP7 eK7 eL7
    cases ls with
    | nil => cases h0
    | cons u r =>
    refine ⟨fun σ' H' => (∃ x1 x2 x3, σ' = [some (.ref xh), some (.ref d), some (.ref Pk), some (.ref Kn), some (.ref L), x1, x2, x3, none, none]) ∧ ∃ p kn' ls', Same H H' ∧ H' Pk = some (.lst (p.map pickV)) ∧ H' Kn = some (.lst (intV kn')) ∧ H' L = some (.lst (intV ls')) ∧ PkOk n l g p ∧ kn'.Nodup ∧ (∀ s ∈ kn', s < n) ∧ (∀ s ∈ g, s ∈ kn') ∧ (∀ f, FirstRun l (p, kn', ls') f → FirstRun l (List.replicate n none, g, g) f) ∧ 2 * (n - kn'.length) + ls'.length < 2 * (n - kn.length) + (u :: r).length,
      fun σ' H' ⟨a1, p', kn', ls', b1, b2, b3, b4, b5, b6, b7, b8, b8r, b9⟩ => ⟨_, b9, a1, p', kn', ls', b1, b2, b3, b4, b5, b6, b7, b8, b8r, rfl, by omega⟩, ?_⟩
    refine ⟨_, rfl, .inl ⟨rfl, _, .inl (.inl eL7)⟩, L, _, 0, 0, .int (u : Int), rfl, rfl, eL7, by decide, by decide, by simp [seqIndex?, intV], rfl, ?_⟩
    have s8 : Same H (upd H7 L (.lst ((intV (u :: r)).eraseIdx 0))) := same_at s7 hLH
    have eP8 : upd H7 L (.lst ((intV (u :: r)).eraseIdx 0)) Pk = some (.lst (p.map pickV)) := by rw [upd_ne nPL]; exact eP7
    have eK8 : upd H7 L (.lst ((intV (u :: r)).eraseIdx 0)) Kn = some (.lst (intV kn)) := by rw [upd_ne nKL]; exact eK7
    have eL8 : upd H7 L (.lst ((intV (u :: r)).eraseIdx 0)) L = some (.lst (intV r)) := by rw [upd_same]; rfl
    generalize upd H7 L (.lst ((intV (u :: r)).eraseIdx 0)) = H8 at s8 eP8 eK8 eL8
    refine ⟨_, rfl, xh, _, dxh, _, _, rfl, s8 _ _ eh, T.cl_House, T.na_House_acts, rfl, _, us.length, rfl, .inr ⟨us, .inl (.inl (s8 _ _ ea)), rfl⟩, (us.length : Int), rfl, by omega, by omega, ?_⟩
    rw [Int.toNat_natCast]
    refine for_it walk_range (fun i σ H9 => (∃ x2 x3, σ = [some (.ref xh), some (.ref d), some (.ref Pk), some (.ref Kn), some (.ref L), some (.int (u : Int)), x2, x3, none, none]) ∧ ∃ p kn' ls', Same H H9 ∧ H9 Pk = some (.lst (p.map pickV)) ∧ H9 Kn = some (.lst (intV kn')) ∧ H9 L = some (.lst (intV ls')) ∧ PkOk n l g p ∧ kn'.Nodup ∧ (∀ s ∈ kn', s < n) ∧ (∀ s ∈ g, s ∈ kn') ∧ (∀ f, FirstRun l (((List.range l.length).drop i).foldl (firstStep l u) (p, kn', ls')) f → FirstRun l (List.replicate n none, g, g) f) ∧ 2 * (n - kn'.length) + ls'.length ≤ 2 * (n - kn.length) + r.length)
      ⟨⟨z2, z3, rfl⟩, p, kn, r, s8, eP8, eK8, eL8, pok, kd, kl, gk, fun f hf => R1 f (.cons hf), Nat.le_refl _⟩ (fun i σ H2 _ p => trivial) ?_ ?_
    · rintro i x σ H9 H10 hi ⟨⟨y2, y3, rfl⟩, p, kn', ls', s9, eP9, eK9, eL9, pok, kd, kl, gk, R9, m9⟩ ⟨rfl, ex⟩
      obtain rfl : x = V.int ((i : Nat) : Int) := ex.trans (congrArg V.int (Int.zero_add _))
      obtain ⟨dd, hdd⟩ : ∃ dd, l[i]? = some dd := ⟨_, List.getElem?_eq_getElem (by omega)⟩
      have okd := ok.acts dd (List.mem_of_getElem? hdd)
      rw [drop_range (by omega : i < l.length)] at R9
      simp only [List.foldl_cons] at R9
      have Rno : ¬ (dd.1 ∉ kn' ∧ u ∈ (prs dd).map (·.1)) → ∀ f, FirstRun l (((List.range l.length).drop (i + 1)).foldl (firstStep l u) (p, kn', ls')) f → FirstRun l (List.replicate n none, g, g) f := fun hno => by
        rw [firstStep_no hdd hno] at R9
        exact R9
      have dl : 0 < dd.2.length := List.length_pos_iff.mpr okd.ne
      have d4 := okd.len
      have ho := List.getElem?_eq_getElem dl
      obtain ⟨uu, hu, yy, dyy, pw, rfl, eyy⟩ := as.get (flat_get hdd ho)
      refine ⟨_, rfl, xh, _, dxh, _, _, rfl, s9 _ _ eh, T.cl_House, T.na_House_steps, rfl, ?_⟩
      refine ⟨_, rfl, xh, dxh, _, rfl, s9 _ _ eh, rfl, _, rfl, .ref xh, n, l, i, dd, rfl, hv.n (same_n s9), hdd, fun q hq => ?_⟩
      refine ⟨q, _, 0, .int ((off l i : Nat) : Int), rfl, rfl, .inl (.inl hq), ?_, ?_⟩
      · refine atI_nat (j := 0) ?_
        unfold rgV
        rw [List.getElem?_map, List.getElem?_range (by omega)]
        simp
      refine ⟨ps, ss, _, .ref yy, rfl, rfl, .inl (.inl (s9 _ _ es)), atI_nat (by simpa using hu), ?_⟩
      refine ⟨yy, _, dyy, _, _, rfl, s9 _ _ eyy, T.cl_Step, T.na_Step_source, rfl, ?_⟩
      refine ⟨_, rfl, _, rfl, Kn, _, rfl, .inl (.inl (.inl eK9)), rfl, all_flat _, _, rfl, ite2 (fun h1 => ?_) (fun h1 => iteF ?_)⟩
      · refine ⟨_, rfl, _, rfl, _, rfl, .ref xh, n, l, i, dd, rfl, hv.n (same_n s9), ok, hdd, fun H11 pp us' s11 epp app => ?_⟩
        have ul' : us'.length = dd.2.length := app.1.trans (List.length_map _)
        refine ⟨pp, rfl, ⟨us', .inl (.inl epp)⟩, fun D3 hD3 => ?_⟩
        refine lcm walk_list hD3 (Nat.le_trans (by omega : us'.length ≤ 4) (by decide)) (fun _ => true) (fun j y _ => ∃ z, (prs dd)[j]? = some z ∧ y = V.int (z.1 : Int)) (fun _ _ _ _ _ h => h) (fun H1 s => .inl (.inl (s _ _ epp))) (fun j x H12 H1 kN' kY hj s y kn ky => ?_) (fun H12 ys s12 e12 kp => ?_)
        · obtain ⟨rfl, hx⟩ := y
          obtain ⟨z, hz, q, rfl, eq⟩ := app.get' hx
          exact ⟨q, _, rfl, .inl (.inl (s _ _ eq)), rfl, _, _, rfl, _, _, rfl, rfl, rfl, yes ⟨_, rfl, ky _ _ (Same.refl _) rfl ⟨z, hz, rfl⟩⟩⟩
        obtain ⟨l1, l2⟩ := kp.all
        have eys : ys = intV ((prs dd).map (·.1)) := by
          apply List.ext_getElem?
          intro j
          unfold intV
          rw [List.map_map, List.getElem?_map]
          by_cases hj : j < ys.length
          · obtain ⟨z, hz, e⟩ := l2 j _ (List.getElem?_eq_getElem hj)
            rw [List.getElem?_eq_getElem hj, hz, e]
            rfl
          · rw [List.getElem?_eq_none (by omega), List.getElem?_eq_none (by rw [← app.1]; omega)]
            rfl
        have sA := s9.trans (s11.trans s12)
        have ePA := (s11.trans s12) _ _ eP9
        have eKA := (s11.trans s12) _ _ eK9
        have eLA := (s11.trans s12) _ _ eL9
        refine ⟨D3, ys, rfl, .inl (.inl (.inl e12)), rfl, by rw [eys]; exact all_flat _, _, rfl, ite2 (fun h3 => ?_) (fun h3 => ?_)⟩
        · have h1 : (!inV (V.int (dd.1 : Int)) (intV kn')) = true := h1
          rw [inV_ints] at h1
          have nk : dd.1 ∉ kn' := by simpa using h1
          have dn : dd.1 < n := okd.s
          have pl := pok.len
          have kl5 := nodup_len (l := dd.1 :: kn') (m := List.range n) (List.nodup_cons.mpr ⟨nk, kd⟩) fun x hx => by
            rcases List.mem_cons.mp hx with rfl | hx
            · exact List.mem_range.mpr dn
            · exact List.mem_range.mpr (kl x hx)
          rw [List.length_range, List.length_cons] at kl5
          rw [List.length_cons] at mb
          refine ⟨_, rfl, _, rfl, _, rfl, Pk, _, (dd.1 : Int), dd.1, rfl, rfl, ePA, ix_nat (by rw [List.length_map]; omega), ?_⟩
          have sB : Same H (upd H12 Pk (.lst ((p.map pickV).set dd.1 (.int (i : Int))))) := same_at sA hPkH
          have ePB : upd H12 Pk (.lst ((p.map pickV).set dd.1 (.int (i : Int)))) Pk = some (.lst ((p.set dd.1 (some i)).map pickV)) := by rw [upd_same, List.map_set]; rfl
          have eKB : upd H12 Pk (.lst ((p.map pickV).set dd.1 (.int (i : Int)))) Kn = some (.lst (intV kn')) := by rw [upd_ne nPK.symm]; exact eKA
          have eLB : upd H12 Pk (.lst ((p.map pickV).set dd.1 (.int (i : Int)))) L = some (.lst (intV ls')) := by rw [upd_ne nPL.symm]; exact eLA
          generalize upd H12 Pk (.lst ((p.map pickV).set dd.1 (.int (i : Int)))) = HB at sB ePB eKB eLB
          refine ⟨_, rfl, .inl ⟨rfl, _, .inl (.inl eKB)⟩, _, rfl, Kn, _, _, rfl, rfl, eKB, Nat.lt_of_le_of_lt (by simp; omega : (intV kn').length ≤ 10) (by decide), ?_⟩
          have eLC : upd HB Kn (.lst (intV kn' ++ [.int (dd.1 : Int)])) L = some (.lst (intV ls')) := by rw [upd_ne nKL.symm]; exact eLB
          refine ⟨_, rfl, .inl ⟨rfl, _, .inl (.inl eLC)⟩, _, rfl, L, _, _, rfl, rfl, eLC, Nat.lt_of_le_of_lt (by simp; omega : (intV ls').length ≤ 100) (by decide), ?_⟩
          refine ⟨⟨_, _, rfl⟩, p.set dd.1 (some i), kn' ++ [dd.1], ls' ++ [dd.1], same_at (same_at sB hKnH) hLH, ?_, ?_, ?_, ⟨by rw [List.length_set]; exact pl, fun s a e => ?_, fun s hs => ?_⟩, ?_, fun s hs => ?_, fun s hs => List.mem_append_left _ (gk s hs), ?_, ?_⟩
          · rw [upd_ne nPL, upd_ne nPK]; exact ePB
          · rw [upd_ne nKL, upd_same]; unfold intV; rw [List.map_append]; rfl
          · rw [upd_same]; unfold intV; rw [List.map_append]; rfl
          · rw [pk_set (by omega)] at e
            by_cases q : s = dd.1
            · rw [if_pos q] at e
              cases e
              exact ⟨dd, hdd, q.symm⟩
            · rw [if_neg q] at e
              exact pok.at_ s a e
          · rw [pk_set (by omega), if_neg (fun z => nk (by rw [← z]; exact gk s hs))]
            exact pok.gn s hs
          · rw [List.nodup_append]
            exact ⟨kd, by simp, fun a ha b hb => by rw [List.mem_singleton.mp hb]; exact fun z => nk (by rw [← z]; exact ha)⟩
          · rcases List.mem_append.mp hs with z | z
            · exact kl s z
            · rw [List.mem_singleton.mp z]; exact dn
          · have h3 : inV (V.int (u : Int)) ys = true := h3
            rw [eys] at h3
            unfold intV at h3
            rw [inV_ints] at h3
            rw [firstStep_yes hdd nk (of_decide_eq_true h3)] at R9
            exact R9
          · simp only [List.length_append, List.length_cons, List.length_nil]
            omega
        · refine ⟨⟨_, _, rfl⟩, p, kn', ls', sA, ePA, eKA, eLA, pok, kd, kl, gk, Rno fun z => h3 ?_, m9⟩
          show inV (V.int (u : Int)) ys = true
          rw [eys]
          unfold intV
          rw [inV_ints]
          exact decide_eq_true z.2
      · refine ⟨⟨_, _, rfl⟩, p, kn', ls', s9, eP9, eK9, eL9, pok, kd, kl, gk, Rno fun z => h1 ?_, m9⟩
        show (!inV (V.int (dd.1 : Int)) (intV kn')) = true
        unfold intV
        rw [inV_ints]
        simpa using z.1
    · rintro σ H9 ⟨⟨y2, y3, rfl⟩, p, kn', ls', s9, eP9, eK9, eL9, pok, kd, kl, gk, R9, m9⟩
      rw [List.drop_of_length_le (by rw [List.length_range]; omega)] at R9
      exact ⟨⟨_, _, _, rfl⟩, p, kn', ls', s9, eP9, eK9, eL9, pok, kd, kl, gk, R9, by simp only [List.length_cons]; omega⟩
  · have e0 : ls = [] := by
      cases ls with
      | nil => rfl
      | cons a b => exact absurd rfl h0
    subst e0
    exact ⟨_, rfl, k _ Pk p s7 eP7 pok (R1 p .nil)⟩
end
end Lc
set_option Elab.async false
set_option linter.all false
set_option maxRecDepth 100000
set_option maxHeartbeats 4000000
namespace Lc
open PySem PySem.Spec PyProof.Rows L2 LcR
open LC (Sz mean psum wsum)
def pb : Nat → Nat × Nat
  | 0 => (0, 0)
  | i + 1 => (max ((pb i).1 + 2158) (2173 + (pb i).2) + 1, (pb i).2 + 2158)
theorem psum_sz {q : List Rat} (h : ∀ x ∈ q, Sz 2169 2158 x) {d : ActD} {n : Nat} (ok : OkAct n d) : ∀ i, Sz (pb i).1 (pb i).2 (psum (numN q) ((prs d).take i)) := by
  have nz : ∀ t, Sz 2169 2158 (numN q t) := fun t => by
    unfold numN
    cases e : q[t]? with
    | none => exact LC.sz_zero _ _
    | some x => exact h x (List.mem_of_getElem? e)
  intro i
  induction i with
  | zero => exact LC.sz_zero _ _
  | succ i ih =>
    by_cases hi : i < (prs d).length
    · have e : (prs d).take (i + 1) = (prs d).take i ++ [(prs d)[i]] := by rw [List.take_add_one, List.getElem?_eq_getElem hi]; rfl
      rw [e, psum_snoc]
      have od : (prs d)[i].2 ≤ 10 := by
        obtain ⟨o, ho, e⟩ := List.mem_map.mp (List.getElem_mem hi)
        have := (ok.outs o ho).o2
        rw [← e]
        exact this
      have so : Sz 4 0 (((prs d)[i].2 : Nat) : Rat) := LC.sz_int (i := (((prs d)[i].2 : Nat) : Int)) (by show (prs d)[i].2 ≤ 2 ^ 4; omega)
      exact ih.add ((nz _).mul so)
    · rw [List.take_of_length_le (by omega)] at ih ⊢
      exact ih.mono (by show _ ≤ max _ _ + 1; omega) (by show _ ≤ (pb i).2 + 2158; omega)
theorem pb_le : ∀ i, i ≤ 4 → (pb i).1 ≤ 8651 ∧ (pb i).2 ≤ 8632 := by decide
theorem pb_le3 : ∀ i, i ≤ 3 → (pb i).1 ≤ 6492 ∧ (pb i).2 ≤ 6474 := by decide
theorem meanOk_of {q : List Rat} (h : ∀ x ∈ q, Sz 2169 2158 x) {d : ActD} {n : Nat} (ok : OkAct n d) : MeanOk (numN q) (prs d) := by
  have pl : (prs d).length ≤ 4 := by have := ok.len; unfold prs; rw [List.length_map]; exact this
  refine ⟨fun i p hp => ?_, ?_⟩
  · have hi : i ≤ 3 := by have := (List.getElem?_eq_some_iff.mp hp).1; omega
    have b := pb_le3 i hi
    have nz : Sz 2169 2158 (numN q p.1) := by
      unfold numN
      cases e : q[p.1]? with
      | none => exact LC.sz_zero _ _
      | some x => exact h x (List.mem_of_getElem? e)
    exact ⟨_, _, 2169, 2158, psum_sz h ok i, nz, by omega, by omega⟩
  · have b := pb_le _ pl
    have := psum_sz h ok (prs d).length
    rw [List.take_length] at this
    exact ⟨_, _, this, by omega, by omega⟩
theorem mean_sz {q : List Rat} (h : ∀ x ∈ q, Sz 2169 2158 x) {d : ActD} {n : Nat} (ok : OkAct n d) : Sz 8651 8638 (mean (numN q) (prs d)) := by
  have pl : (prs d).length ≤ 4 := by have := ok.len; unfold prs; rw [List.length_map]; exact this
  have b := pb_le _ pl
  have h1 := psum_sz h ok (prs d).length
  rw [List.take_length] at h1
  have w4 := wsum_le ok 4
  rw [List.take_of_length_le pl] at w4
  have h2 : Sz 6 0 ((wsum (prs d) : Nat) : Rat) := LC.sz_int (i := ((wsum (prs d) : Nat) : Int)) (by show wsum (prs d) ≤ 2 ^ 6; omega)
  have wp := LC.wsumQ_pos (outsOk ok)
  exact (h1.div h2 (by grind)).mono (by omega) (by omega)
section
variable {P : Program} {w : World} {K : PySem.W.Frag} {mg : Str → Option Value} {base : Heap}
/-- what better_pick finds -/
def Bet (l : List ActD) (q : List Rat) (s : Nat) (x0 x : Option Nat) : Prop :=
  (x = x0 ∧ ∀ (a : Nat) (d : ActD), l[a]? = some d → d.1 = s → mean (numN q) (prs d) ≤ numN q s) ∨ ∃ (a : Nat) (d : ActD), x = some a ∧ l[a]? = some d ∧ d.1 = s ∧ numN q s < mean (numN q) (prs d)
def betS (l : List ActD) (q : List Rat) (st : Rat × Option Nat) (a : Nat) : Rat × Option Nat := match l[a]? with
  | some d => if st.1 < mean (numN q) (prs d) then (mean (numN q) (prs d), some a) else st
  | none => st
def betF (l : List ActD) (q : List Rat) (s : Nat) (x0 : Option Nat) : Option Nat := ((actsAt l s).foldl (betS l q) (numN q s, x0)).2
theorem bet_snoc {l : List ActD} {q : List Rat} {as : List Nat} {i a : Nat} {d : ActD} {z : Rat × Option Nat} (h : as[i]? = some a) (hd : l[a]? = some d) : (as.take (i + 1)).foldl (betS l q) z = if ((as.take i).foldl (betS l q) z).1 < mean (numN q) (prs d) then (mean (numN q) (prs d), some a) else (as.take i).foldl (betS l q) z := by
  rw [List.take_add_one, h, List.foldl_append]
  show betS l q _ a = _
  unfold betS
  rw [hd]
def sp_better_pick (K : PySem.W.Frag) : Sp := fun vs H Q _ => ∃ (v : V) (n : Nat) (l : List ActD) (s : Nat) (x0 : Option Nat) (u : V) (q : List Rat) (y : V) (g : List Nat), vs = [v, .int (s : Int), pickV x0, u, y] ∧ HouseV K H v n l ∧ OkActs n l ∧ s < n ∧ NumsL K H u q ∧ q.length = n ∧ (∀ x ∈ q, Sz 2169 2158 x) ∧ WorthsV K H y g ∧ (s ∈ g → numN q s = 1) ∧
  ∀ x H', Same H H' → Bet l q s x0 x → x = betF l q s x0 → Q (pickV x) H'
theorem mem_actsAt {l : List ActD} {s a : Nat} : a ∈ actsAt l s ↔ ∃ d, l[a]? = some d ∧ d.1 = s := by
  unfold actsAt
  rw [List.mem_filter, List.mem_range]
  constructor
  · rintro ⟨h1, h2⟩
    have h2 := of_decide_eq_true h2
    rw [List.getElem?_eq_getElem h1] at h2
    exact ⟨l[a], List.getElem?_eq_getElem h1, by simpa using h2⟩
  · rintro ⟨d, h1, h2⟩
    exact ⟨(List.getElem?_eq_some_iff.mp h1).1, decide_eq_true (by rw [h1]; simp [h2])⟩
theorem c_better_pick (T : Tx K mg) : C8.Cal P w K mg base 7 "better_pick" (sp_better_pick K) [] := by
  obtain ⟨fd, F⟩ := T.f_better_pick
  refine calD F T.g_better_pick sc_better_pick (fun _ _ _ _ _ _ us hl => match us, hl with | [_, _, _, _, _], _ => rfl) (fun vs H Q E h => ?_) (fun cdv A outer s H vs Q E hr h => ?_)
  · obtain ⟨_, _, _, _, _, _, _, _, _, rfl, _⟩ := h; rfl
  obtain ⟨v, n, l, st, x0, u, q, y, g, rfl, hv, ok, sn, hu, ql, qz, hy, g1, k⟩ := h
  refine ⟨_, (pss_cons (ps_par (i := 5) (j := 6) (by rfl) sc_better_pick.nd rfl rfl (by decide) rfl rfl (pa_cons (pe_ix ix_list (pv 3) (pv 1) (fun _ _ => rfl)) (pa_cons (pv 2) pa_nil)) (by rfl))
      (pss_cons (ps_if (PW.pt (pw_and (pt_cmp (pc_din (hu1 hr) (pv 1) (pv 4))) (pw_and1 (pt_val (C8.pe_mt (m_is_below T) hr (by decide) (pv 5) (pa_cons (pe_dget (hu1 hr) (pv 4) (pv 1) (fun _ _ => rfl)) pa_nil)))))) (pss_one (ps_par (i := 5) (j := 6) (by rfl) sc_better_pick.nd rfl rfl (by decide) rfl rfl (pa_cons (pe_dget (hu1 hr) (pv 4) (pv 1) (fun _ _ => rfl)) (pa_cons pe_non pa_nil)) (by rfl))) pss_nil)
      (pss_cons (ps_for PassesOwn.never rfl (pi_tup (C8.pe_mt (m_acts_at T) hr (by decide) (pv 0) (pa_cons (pv 1) pa_nil))) (pg_name (i := 7) sc_better_pick.nd rfl (Or.inl rfl))
      (pss_cons (ps_set (i := 8) sc_better_pick.nd rfl (Or.inl rfl) (C8.pe_c (c_mean_at T) hr (by decide) (by rfl) (pa_cons (pv 0) (pa_cons (pv 7) (pa_cons (pv 3) pa_nil)))))
      (pss_one (ps_if (pt_val (C8.pe_mt (m_is_below T) hr (by decide) (pv 5) (pa_cons (pv 8) pa_nil))) (pss_one (ps_par (i := 5) (j := 6) (by rfl) sc_better_pick.nd rfl rfl (by decide) rfl rfl (pa_cons (pv 8) (pa_cons (pv 7) pa_nil)) (by rfl))) pss_nil))))
      (pss_one (ps_ret (pv 6)))))), ?_⟩
  obtain ⟨au, us, rfl, eu, aq⟩ := id hu
  obtain ⟨d, kvs, rfl, ed, ek, ew⟩ := id hy
  obtain ⟨q0, hq0⟩ : ∃ q0, q[st]? = some q0 := ⟨_, List.getElem?_eq_getElem (by omega)⟩
  have e0 : numN q st = q0 := by unfold numN; rw [hq0]; rfl
  have z0 := qz q0 (List.mem_of_getElem? hq0)
  obtain ⟨y0, hy0, ry0⟩ := aq.get hq0
  refine ⟨_, rfl, _, rfl, au, us, _, y0, rfl, rfl, .inl (.inl eu), atI_nat hy0, ?_⟩
  refine ⟨_, rfl, ?_⟩
  refine ⟨_, _, rfl, ?_⟩
  refine ⟨_, rfl, _, rfl, d, _, rfl, .inl ⟨kvs, keyN st, .inl ed, rfl, rfl⟩, _, rfl, ?_⟩
  obtain ⟨xh, dxh, mh, vah, vsh, lkh, voh, rfl, eh, hh1, hh2, hh3⟩ := id hv
  -- the loop
  have loop : ∀ D : Ends, (∀ σ H2 b, (∃ z0 z1 z2 x, σ = [some (.ref xh), some (.int (st : Int)), z0, some (.ref au), some (.ref d), some b, some (pickV x), z1, z2] ∧ Bet l q st x0 x ∧ x = betF l q st x0) → Same H H2 → D.nx σ H2) →
      tFor (iTup K (tMeth (CHouse K) "acts_at" (sp_acts_at K) [] C8.E0 (tVar 0) (tCons (tVar 1) tNil))) (gName 7) (tSeq (tAsg (tCall (sp_mean_at K) [] C8.E0 (tCons (tVar 0) (tCons (tVar 7) (tCons (tVar 3) tNil)))) (gName 8))
        (tIfS (tTest (tMeth (CRatio K) "is_below" (sp_is_below K) [] C8.E0 (tVar 5) (tCons (tVar 8) tNil))) (tPar 5 6 (tCons (tVar 8) (tCons (tVar 7) tNil))) tNext)) D [some (.ref xh), some (.int (st : Int)), some (pickV x0), some (.ref au), some (.ref d), some y0, some (pickV x0), none, none] H := by
    intro D hD
    refine ⟨_, rfl, xh, dxh, _, rfl, eh, rfl, _, rfl, .ref xh, n, l, st, rfl, hv, ok, sn, fun H1 pa s1 epa => ?_⟩
    refine ⟨pa, rfl, ⟨_, .inl (.inl epa)⟩, ?_⟩
    refine for_it walk_tup (fun i σ H2 => (∃ b x z1 z2 bq, σ = [some (.ref xh), some (.int (st : Int)), some (pickV x0), some (.ref au), some (.ref d), some b, some (pickV x), z1, z2] ∧ IsR K H2 b bq ∧ Sz 8651 8638 bq ∧ ((x = x0 ∧ bq = q0 ∧ ∀ (j a : Nat) (dd : ActD), j < i → (actsAt l st)[j]? = some a → l[a]? = some dd → mean (numN q) (prs dd) ≤ q0) ∨ ∃ (a : Nat) (dd : ActD), x = some a ∧ l[a]? = some dd ∧ dd.1 = st ∧ bq = mean (numN q) (prs dd) ∧ q0 < bq) ∧ ((actsAt l st).take i).foldl (betS l q) (q0, x0) = (bq, x)) ∧ Same H1 H2)
      ⟨⟨y0, x0, none, none, q0, rfl, ry0.n (same_n s1), z0.mono (by omega) (by omega), .inl ⟨rfl, rfl, fun j a dd hj => absurd hj (Nat.not_lt_zero _)⟩, rfl⟩, Same.refl _⟩ (fun i σ H2 _ p => .inl (.inl (p.2 _ _ epa))) ?_ ?_
    · rintro i x' σ H2 H3 hi ⟨⟨b, x, z1, z2, bq, rfl, rb, zb, hx, hF⟩, s2⟩ ⟨rfl, hx'⟩
      rw [List.getElem?_map] at hx'
      obtain ⟨a, ha, rfl⟩ := Option.map_eq_some_iff.mp hx'
      obtain ⟨dd, hdd, hds⟩ := mem_actsAt.mp (List.mem_of_getElem? ha)
      have okd := ok.acts dd (List.mem_of_getElem? hdd)
      have s12 := s1.trans s2
      have hF1 := bet_snoc (q := q) (z := (q0, x0)) ha hdd
      rw [hF] at hF1
      refine ⟨_, rfl, _, rfl, _, rfl, .ref xh, n, l, a, dd, .ref au, q, rfl, hv.n (same_n s12), ok, hdd, (hu.s s12).toS, ql, meanOk_of qz okd, fun H4 ym s4 rm => ?_⟩
      have zm := mean_sz qz okd
      obtain ⟨bx, bdx, rfl, ebx⟩ := (rb.n (same_n s4))
      refine ⟨_, rfl, bx, bdx, _, rfl, ebx, rfl, _, rfl, _, _, bq, mean (numN q) (prs dd), _, _, _, _, rfl, rb.n (same_n s4), .inl rm, zb, zm, by omega, _, rfl, ite2 (fun h0 => ?_) (fun h0 => ?_)⟩
      · have h0 := of_decide_eq_true h0
        refine ⟨_, rfl, _, rfl, _, _, rfl, ⟨ym, some a, _, _, mean (numN q) (prs dd), rfl, rm, zm, .inr ⟨a, dd, rfl, hdd, hds, rfl, ?_⟩, by rw [hF1, if_pos h0]⟩, s2.trans s4⟩
        rcases hx with ⟨_, e, _⟩ | ⟨_, _, _, _, _, _, e⟩
        · rw [← e]; exact h0
        · grind
      · have h0 : ¬ bq < mean (numN q) (prs dd) := fun z => h0 (decide_eq_true z)
        refine ⟨⟨_, x, _, _, bq, rfl, rb.n (same_n s4), zb, ?_, by rw [hF1, if_neg h0]⟩, s2.trans s4⟩
        rcases hx with ⟨e1, e2, e3⟩ | hx
        · refine .inl ⟨e1, e2, fun j a' d' hj ha' hd' => ?_⟩
          by_cases q1 : j = i
          · subst q1
            rw [ha] at ha'
            cases ha'
            rw [hdd] at hd'
            cases hd'
            grind
          · exact e3 j a' d' (by omega) ha' hd'
        · exact .inr hx
    · rintro σ H2 ⟨⟨b, x, z1, z2, bq, rfl, rb, zb, hx, hF⟩, s2⟩
      refine hD _ H2 b ⟨_, _, _, x, rfl, ?_, ?_⟩ (s1.trans s2)
      rotate_left
      · unfold betF
        rw [List.length_map, List.take_length] at hF
        rw [e0, hF]
      rcases hx with ⟨e1, e2, e3⟩ | ⟨a, dd, e1, e2, e3, e4, e5⟩
      · refine .inl ⟨e1, fun a dd h1 h2 => ?_⟩
        obtain ⟨j, hj, e⟩ := List.getElem_of_mem (mem_actsAt.mpr ⟨dd, h1, h2⟩)
        rw [e0]
        exact e3 j a dd (by rw [List.length_map]; exact hj) (by rw [List.getElem?_eq_getElem hj, e]) h1
      · exact .inr ⟨a, dd, e1, e2, e3, by rw [e0, ← e4]; exact e5⟩
  have fin : ∀ σ H2 b, (∃ z0 z1 z2 x, σ = [some (.ref xh), some (.int (st : Int)), z0, some (.ref au), some (.ref d), some b, some (pickV x), z1, z2] ∧ Bet l q st x0 x ∧ x = betF l q st x0) → Same H H2 → tRet (tVar 6) { nx := fun _ H' => Q .non H', rt := Q } σ H2 := by
    rintro σ H2 b ⟨w0, w1, w2, x, rfl, hb, hb2⟩ s2
    exact ⟨_, rfl, k x H2 s2 hb hb2⟩
  refine ite2 (fun h0 => ?_) (fun h0 => iteF ?_)
  · have sg : st ∈ g := by
      have h5 := mem_keys h0
      rw [ek] at h5
      obtain ⟨t, ht, e⟩ := List.mem_map.mp h5
      rw [← keyN_inj e]
      exact ht
    obtain ⟨uw, hw1, hw2⟩ := ew st sg
    have e1 := g1 sg
    rw [e0] at e1
    obtain ⟨bx, bdx, rfl, ebx⟩ := id ry0
    refine ⟨_, rfl, bx, bdx, _, rfl, ebx, rfl, _, rfl, _, rfl, d, uw, rfl, .inl ⟨kvs, keyN st, .inl ed, rfl, hw1.symm⟩, _, _, q0, 1, _, _, 0, 0, rfl, ry0, .inl hw2, z0, LC.sz_int (i := 1) (t := 0) (by decide), by omega, false, ?_, iteF ?_⟩
    · rw [decide_eq_false (by rw [e1]; grind)]
    · exact loop _ fin
  · exact loop _ fin
end
end Lc
set_option linter.all false
namespace LC
/-! ### there are finitely many picks, so they cannot grow better for ever -/
def pols (m : Nat) : Nat → List (List (Option Nat))
  | 0 => [[]]
  | n + 1 => ((none :: (List.range m).map some).flatMap fun o => (pols m n).map (o :: ·))
theorem mem_pols {m : Nat} : ∀ {n : Nat} {p : List (Option Nat)}, p.length = n → (∀ a, some a ∈ p → a < m) → p ∈ pols m n
  | 0, [], _, _ => by simp [pols]
  | 0, _ :: _, h, _ => by simp at h
  | n + 1, [], h, _ => by simp at h
  | n + 1, o :: p, h, ha => by
    have ih := mem_pols (m := m) (n := n) (p := p) (by simpa using h) fun a q => ha a (List.mem_cons_of_mem _ q)
    unfold pols
    rw [List.mem_flatMap]
    refine ⟨o, ?_, List.mem_map.mpr ⟨p, ih, rfl⟩⟩
    cases o with
    | none => exact List.mem_cons_self
    | some a => exact List.mem_cons_of_mem _ (List.mem_map.mpr ⟨a, List.mem_range.mpr (ha a List.mem_cons_self), rfl⟩)
def total (v : Nat → Rat) : Nat → Rat
  | 0 => 0
  | n + 1 => total v n + v n
theorem total_le {u v : Nat → Rat} : ∀ {n : Nat}, (∀ s, s < n → u s ≤ v s) → total u n ≤ total v n
  | 0, _ => Rat.le_refl
  | n + 1, h => by
    have a := total_le (n := n) fun s hs => h s (by omega)
    have b := h n (by omega)
    simp only [total]
    grind
theorem total_lt {u v : Nat → Rat} : ∀ {n : Nat}, (∀ s, s < n → u s ≤ v s) → (∃ s, s < n ∧ u s < v s) → total u n < total v n
  | 0, _, ⟨s, hs, _⟩ => absurd hs (Nat.not_lt_zero s)
  | n + 1, h, ⟨s, hs, e⟩ => by
    have b := h n (by omega)
    simp only [total]
    by_cases c : s = n
    · subst c
      have a := total_le (n := s) fun t ht => h t (by omega)
      grind
    · have a := total_lt (n := n) (fun t ht => h t (by omega)) ⟨s, by omega, e⟩
      grind
theorem total_congr {u v : Nat → Rat} {n : Nat} (h : ∀ s, s < n → u s = v s) : total u n = total v n := by
  have a := total_le (u := u) (v := v) (n := n) fun s hs => by rw [h s hs]; exact Rat.le_refl
  have b := total_le (u := v) (v := u) (n := n) fun s hs => by rw [h s hs]; exact Rat.le_refl
  grind
open Classical in
/-- the sum of the numbers that picks have -/
noncomputable def valOf (h : Hs) (g : List Nat) (p : Pk) : Rat := if H : ∃ v far, Had h g p v far then total (Classical.choose H) h.n else 0
theorem val_eq {h : Hs} {g : List Nat} {p : Pk} {v : Nat → Rat} {far : Nat → Option Nat} (ok : h.Ok) (hp : p.Ok h g) (H : Had h g p v far) : valOf h g p = total v h.n := by
  have ex : ∃ v far, Had h g p v far := ⟨v, far, H⟩
  unfold valOf
  rw [dif_pos ex]
  obtain ⟨f2, H2⟩ := Classical.choose_spec ex
  exact total_congr (had_unique ok hp H2 H)
open Classical in
noncomputable def rankOf (h : Hs) (g : List Nat) (m : Nat) (pk : List (Option Nat) → Pk) (p : Pk) : Nat := ((pols m h.n).filter fun x => decide (valOf h g p < valOf h g (pk x))).length
theorem filter_lt {α : Type} {f g : α → Bool} : ∀ {l : List α}, (∀ x ∈ l, f x = true → g x = true) → (∃ x ∈ l, g x = true ∧ f x = false) → (l.filter f).length < (l.filter g).length
  | [], _, ⟨_, h, _⟩ => by simp at h
  | a :: l, hs, ⟨x, hx, h1, h2⟩ => by
    have le : ∀ {l : List α}, (∀ x ∈ l, f x = true → g x = true) → (l.filter f).length ≤ (l.filter g).length := by
      intro l
      induction l with
      | nil => intro _; exact Nat.le_refl _
      | cons b l ih =>
        intro hs
        have i := ih fun x hx => hs x (List.mem_cons_of_mem _ hx)
        have hb := hs b List.mem_cons_self
        simp only [List.filter_cons]
        cases e : f b with
        | true => rw [hb e]; simp; exact i
        | false => cases g b <;> simp <;> omega
    have la := le fun x hx => hs x (List.mem_cons_of_mem a hx)
    simp only [List.filter_cons]
    rcases List.mem_cons.mp hx with rfl | hx
    · rw [h1, h2]
      simp
      omega
    · have i := filter_lt (l := l) (fun x hx => hs x (List.mem_cons_of_mem _ hx)) ⟨x, hx, h1, h2⟩
      have ha := hs a List.mem_cons_self
      cases e : f a with
      | true => rw [ha e]; simp; exact i
      | false => cases g a <;> simp <;> omega
theorem rank_lt {h : Hs} {g : List Nat} {m : Nat} {pk : List (Option Nat) → Pk} {p : Pk} {x : List (Option Nat)} (hx : x ∈ pols m h.n) (lt : valOf h g p < valOf h g (pk x)) : rankOf h g m pk (pk x) < rankOf h g m pk p := by
  unfold rankOf
  refine filter_lt (fun y _ hy => ?_) ⟨x, hx, decide_eq_true lt, decide_eq_false (by grind)⟩
  have := of_decide_eq_true hy
  exact decide_eq_true (by grind)
theorem rank_le {h : Hs} {g : List Nat} {m : Nat} {pk : List (Option Nat) → Pk} {p : Pk} : rankOf h g m pk p ≤ (pols m h.n).length := List.length_filter_le _ _
/-- a better one has a lower rank -/
theorem rank_imp {h : Hs} {g : List Nat} {m : Nat} {pk : List (Option Nat) → Pk} {p : Pk} {x : List (Option Nat)} {v v' : Nat → Rat} {far far' : Nat → Option Nat} (ok : h.Ok) (hp : p.Ok h g) (hp' : (pk x).Ok h g) (H : Had h g p v far) (H' : Had h g (pk x) v' far')
    (st : ∀ s, s < h.n → pk x s = p s ∨ ∃ a, pk x s = some a ∧ v s < mean v (h.out a)) (ne : ∃ s, s < h.n ∧ pk x s ≠ p s) (hx : x ∈ pols m h.n) : rankOf h g m pk (pk x) < rankOf h g m pk p := by
  refine rank_lt hx ?_
  rw [val_eq ok hp H, val_eq ok hp' H']
  obtain ⟨s, hs, e⟩ := ne
  exact total_lt (improve ok hp hp' H H' st) ⟨s, hs, improve_lt ok hp hp' H H' st hs e⟩
end LC
set_option Elab.async false
set_option linter.all false
set_option maxRecDepth 100000
set_option maxHeartbeats 4000000
namespace Lc
open PySem PySem.Spec PyProof.Rows L2 LcR
open LC (Sz Had mean)
theorem pol_of {n : Nat} {l : List ActD} {g : List Nat} {p : List (Option Nat)} (h : PkOk n l g p) : p ∈ LC.pols l.length n := by
  refine LC.mem_pols h.len fun a ha => ?_
  obtain ⟨s, hs, e⟩ := List.getElem_of_mem ha
  exact h.lt s a (by unfold pk; rw [List.getElem?_eq_getElem hs, e]; rfl)
theorem had_out {n : Nat} {l : List ActD} {a : Nat} {d : ActD} (v : Nat → Rat) (h : l[a]? = some d) : mean v ((hsOf n l).out a) = mean v (prs d) := by rw [out_of h]
/-- later picks fit as well -/
theorem bet_ok {n : Nat} {l : List ActD} {g : List Nat} {p p' : List (Option Nat)} {q : List Rat} {far : Nat → Option Nat} (ok : OkActs n l) (pok : PkOk n l g p) (hd : Had (hsOf n l) g (pk p) (numN q) far) (hl : p'.length = n)
    (hb : ∀ s, s < n → Bet l q s (pk p s) (pk p' s)) : PkOk n l g p' := by
  have low : ∀ (a : Nat) (d : ActD), l[a]? = some d → mean (numN q) (prs d) ≤ 1 := fun a d hd' => by
    have oko := outsOk (ok.acts d (List.mem_of_getElem? hd'))
    have := LC.mean_mono (u := numN q) (v := fun _ => 1) oko fun t ht => hd.le_one (hs_ok ok) pok.ok t.1 (oko.2 t ht).1
    rw [LC.mean_const 1 oko] at this
    exact this
  refine ⟨hl, fun s a e => ?_, fun s hs => ?_⟩
  · have sn : s < n := by have := pk_lt e; omega
    rcases hb s sn with ⟨h1, _⟩ | ⟨b, d, h1, h2, h3, _⟩
    · exact pok.at_ s a (h1 ▸ e)
    · rw [e] at h1
      cases h1
      exact ⟨d, h2, h3⟩
  · by_cases sn : s < n
    · rcases hb s sn with ⟨h1, _⟩ | ⟨b, d, h1, h2, h3, h4⟩
      · rw [h1]; exact pok.gn s hs
      · have := hd.goal hs
        have := low b d h2
        grind
    · unfold pk
      rw [List.getElem?_eq_none (by omega)]
      rfl
/-- how far the picks may still grow -/
def Left (n : Nat) (l : List ActD) (g : List Nat) (p : List (Option Nat)) (m : Nat) : Prop := m = (LC.pols l.length n).length + 1 ∨ ∃ p0 q0 far0, PkOk n l g p0 ∧ Had (hsOf n l) g (pk p0) (numN q0) far0 ∧
  (∀ s, s < n → pk p s = pk p0 s ∨ ∃ a, pk p s = some a ∧ numN q0 s < mean (numN q0) ((hsOf n l).out a)) ∧ (∃ s, s < n ∧ pk p s ≠ pk p0 s) ∧ m = LC.rankOf (hsOf n l) g l.length pk (pk p0)
theorem left_lt {n : Nat} {l : List ActD} {g : List Nat} {p : List (Option Nat)} {m : Nat} {q : List Rat} {far : Nat → Option Nat} (ok : OkActs n l) (pok : PkOk n l g p) (h : Left n l g p m) (hd : Had (hsOf n l) g (pk p) (numN q) far) : LC.rankOf (hsOf n l) g l.length pk (pk p) < m := by
  rcases h with rfl | ⟨p0, q0, far0, pok0, hd0, st, ne, rfl⟩
  · exact Nat.lt_succ_of_le LC.rank_le
  · exact LC.rank_imp (hs_ok ok) pok0.ok pok.ok hd0 hd st ne (pol_of pok)
def nextP (n : Nat) (l : List ActD) (q : List Rat) (p : List (Option Nat)) : List (Option Nat) := (List.range n).map fun s => betF l q s (pk p s)
theorem num_same {q q' : List Rat} {n : Nat} (h1 : q.length = n) (h2 : q'.length = n) (h : ∀ s, s < n → numN q s = numN q' s) : q = q' := by
  apply List.ext_getElem (h1.trans h2.symm)
  intro i a b
  have := h i (by omega)
  unfold numN at this
  rw [List.getElem?_eq_getElem a, List.getElem?_eq_getElem b] at this
  exact this
theorem had_det {n : Nat} {l : List ActD} {g : List Nat} {p : List (Option Nat)} {q q' : List Rat} {far far' : Nat → Option Nat} (ok : OkActs n l) (pok : PkOk n l g p) (h : Had (hsOf n l) g (pk p) (numN q) far) (h' : Had (hsOf n l) g (pk p) (numN q') far') (e : q.length = n) (e' : q'.length = n) : q = q' := num_same e e' fun s hs => LC.had_unique (hs_ok ok) pok.ok h h' s hs
inductive BestRun (n : Nat) (l : List ActD) (g : List Nat) : List (Option Nat) → List (Option Nat) → Prop where
  | stop {p : List (Option Nat)} {q : List Rat} {far : Nat → Option Nat} : PkOk n l g p → Had (hsOf n l) g (pk p) (numN q) far → q.length = n → nextP n l q p = p → BestRun n l g p p
  | step {p f : List (Option Nat)} {q : List Rat} {far : Nat → Option Nat} : PkOk n l g p → Had (hsOf n l) g (pk p) (numN q) far → q.length = n → nextP n l q p ≠ p → BestRun n l g (nextP n l q p) f → BestRun n l g p f
theorem BestRun.det {n : Nat} {l : List ActD} {g : List Nat} (ok : OkActs n l) {p f1 f2 : List (Option Nat)} (h1 : BestRun n l g p f1) (h2 : BestRun n l g p f2) : f1 = f2 := by
  induction h1 with
  | stop pok had ql e =>
    cases h2 with
    | stop => rfl
    | step pok' had' ql' e' r => rw [had_det ok pok had had' ql ql'] at e; exact absurd e e'
  | step pok had ql e _ ih =>
    cases h2 with
    | stop pok' had' ql' e' => rw [had_det ok pok had had' ql ql'] at e; exact absurd e' e
    | step pok' had' ql' e' r => rw [← had_det ok pok had had' ql ql'] at r; exact ih r
section
variable {P : Program} {w : World} {K : PySem.W.Frag} {mg : Str → Option Value} {base : Heap}
def sp_best_picks (K : PySem.W.Frag) : Sp := fun vs H Q _ => ∃ (v : V) (n : Nat) (l : List ActD) (y : V) (g : List Nat), vs = [v, y] ∧ HouseV K H v n l ∧ OkActs n l ∧ n ≤ 6 ∧ WorthsV K H y g ∧ (∀ s ∈ g, s < n) ∧ g.Nodup ∧
  ∀ H' t a b c q p far p0, Same H H' → H' t = some (.tup [.ref a, .ref b, .ref c]) → NumsL K H' (.ref a) q → q.length = n → H' b = some (.lst (p.map pickV)) → PkOk n l g p → Had (hsOf n l) g (pk p) (numN q) far → (∀ x ∈ q, Sz 2169 2158 x) →
    (∀ (i : Nat) (d : ActD), l[i]? = some d → mean (numN q) (prs d) ≤ numN q d.1) → FirstRun l (List.replicate n none, g, g) p0 → BestRun n l g p0 p → Q (.ref t) H'
theorem c_best_picks (T : Tx K mg) : C8.Cal P w K mg base 8 "best_picks" (sp_best_picks K) [] := by
  obtain ⟨fd, F⟩ := T.f_best_picks
  refine calD F T.g_best_picks sc_best_picks (fun _ _ _ _ _ _ us hl => match us, hl with | [_, _], _ => rfl) (fun vs H Q E h => ?_) (fun cdv A outer s H vs Q E hr h => ?_)
  · obtain ⟨_, _, _, _, _, rfl, _⟩ := h; rfl
  obtain ⟨v, n, l, y, g, rfl, hv, ok, n6, hy, gn, gd, k⟩ := h
  refine ⟨_, (pss_cons (ps_set (i := 2) sc_best_picks.nd rfl (Or.inr rfl) (C8.pe_c (c_first_picks T) hr (by decide) (by rfl) (pa_cons (pv 0) (pa_cons (pv 1) pa_nil))))
      (pss_one (ps_while PassesOwn.never (pt_val pe_bl)
      (pss_cons (ps_asg (C8.pe_c (c_had_by T) hr (by decide) (by rfl) (pa_cons (pv 0) (pa_cons (pv 2) (pa_cons (pv 1) pa_nil)))) (pg_tup rfl (pgs_cons (pg_name (i := 3) sc_best_picks.nd rfl (Or.inr rfl)) (pgs_cons (pg_name (i := 4) sc_best_picks.nd rfl (Or.inl rfl)) pgs_nil))))
      (pss_cons (ps_setLc (i := 5) (own := [("state", 6)]) (g := gName 6) (te := (tCall (sp_better_pick K) [] C8.E0 (tCons (tVar 0) (tCons (tVar 6) (tCons (tOp (rIxL K) (tVar 2) (tVar 6)) (tCons (tVar 3) (tCons (tVar 1) tNil))))))) (by rfl) sc_best_picks.nd rfl rfl (sw_true rfl rfl rfl (by decide +kernel)) (pi_range1 (by rfl) T.b_range (pa_cons (pe_fld (pv 0) rfl) pa_nil)) (blkOk_by (own := [("state", 6)]) (N := N_best_picks) (sc := defScope s_best_picks) (by decide +kernel)) (fun _ _ _ _ _ => (pg_name (i := 6) sc_best_picks.nd rfl (Or.inl rfl))) (fun _ _ _ _ _ => pts_nil) (fun _ _ _ _ _ => (C8.pe_c (c_better_pick T) hr (by decide) (by rfl) (pa_cons (pv 0) (pa_cons (pv 6) (pa_cons (pe_ix ix_list (pv 2) (pv 6) (fun _ _ => rfl)) (pa_cons (pv 3) (pa_cons (pv 1) pa_nil))))))))
      (pss_cons (ps_if (pt_cmpR (op_eqFlat hr.units0) (pv 5) (pv 2) (nomark _)) (pss_one (ps_ret (pe_tup (pa_cons (pv 3) (pa_cons (pv 2) (pa_cons (pv 4) pa_nil)))))) pss_nil)
      (pss_one (ps_set (i := 2) sc_best_picks.nd rfl (Or.inr rfl) (pv 5))))))))), ?_⟩
  refine ⟨_, rfl, _, rfl, v, n, l, y, g, rfl, hv, ok, hy, gn, gd, fun H1 ap p0 s1 eap pok fr => ?_⟩
  obtain ⟨xh, dxh, mh, vah, vsh, lkh, voh, rfl, eh, hh1, hh2, hh3⟩ := id hv
  refine ⟨fun m σ H2 => (∃ b x1 x2 x3 p, σ = [some (.ref xh), some y, some (.ref b), x1, x2, x3, none] ∧ H2 b = some (.lst (p.map pickV)) ∧ PkOk n l g p ∧ Left n l g p m ∧ ∀ f, BestRun n l g p f → BestRun n l g p0 f) ∧ Same H H2,
    ⟨_, ⟨ap, none, none, none, p0, rfl, eap, pok, .inl rfl, fun _ h => h⟩, s1⟩, ?_⟩
  rintro m σ H2 ⟨⟨b, x1, x2, x3, p, rfl, eb, pok, lf, R1⟩, s2⟩
  refine ⟨true, rfl, iteT ?_⟩
  refine ⟨fun σ' H' => (∃ b x1 x2 x3 p', σ' = [some (.ref xh), some y, some (.ref b), x1, x2, x3, none] ∧ H' b = some (.lst (p'.map pickV)) ∧ PkOk n l g p' ∧ ∃ m', m' < m ∧ Left n l g p' m' ∧ ∀ f, BestRun n l g p' f → BestRun n l g p0 f) ∧ Same H H',
    fun σ' H' ⟨⟨b', z1, z2, z3, p', e1, e2, e3, m', e4, e6, e7⟩, e5⟩ => ⟨m', e4, ⟨b', z1, z2, z3, p', e1, e2, e3, e6, e7⟩, e5⟩, ?_⟩
  refine ⟨_, rfl, _, rfl, _, rfl, .ref xh, n, l, .ref b, p, y, g, rfl, hv.n (same_n s2), ok, n6, ⟨b, rfl, eb⟩, pok, hy.s s2, gn, gd, fun H3 t a q D fk far s3 et hq ql eD kok fd had qz => ?_⟩
  have s23 := s2.trans s3
  refine ⟨t, _, rfl, .inl (.inl et), rfl, _, _, rfl, _, _, rfl, rfl, ?_⟩
  refine ⟨_, rfl, xh, _, dxh, _, _, rfl, s23 _ _ eh, T.cl_House, T.na_House_states, rfl, (n : Int), rfl, by omega, by omega, fun Dl hDl => ?_⟩
  rw [Int.toNat_natCast]
  refine lcm walk_range hDl (Nat.le_trans n6 (by decide)) (fun _ => true) (fun i y1 H1 => ∃ x, y1 = pickV x ∧ Bet l q i (pk p i) x ∧ x = betF l q i (pk p i)) (fun i y1 H1 H2 s z => z) (fun H1 s => trivial) (fun i x H8 H1 kN' kY hi s y1 kn ky => ?_) (fun H7 ys s7 e7 kp => ?_)
  · obtain ⟨rfl, ex⟩ := y1
    obtain rfl : x = V.int ((i : Nat) : Int) := ex.trans (congrArg V.int (Int.zero_add _))
    have s38 := s3.trans s
    have s28 := s23.trans s
    refine ⟨rfl, yes ⟨_, rfl, _, rfl, _, rfl, _, rfl, b, _, _, _, rfl, rfl, .inl (.inl (s38 _ _ eb)), atI_nat (pk_at (by rw [pok.len]; exact hi)), _, rfl, _, rfl, ?_⟩⟩
    refine ⟨.ref xh, n, l, i, pk p i, .ref a, q, y, g, rfl, hv.n (same_n s28), ok, hi, hq.s s, ql, qz, hy.s s28, fun hg => had.goal hg, fun x H9 s9 hb hb2 => ?_⟩
    exact ky _ _ s9 rfl ⟨x, rfl, hb, hb2⟩
  obtain ⟨l1, l2⟩ := kp.all
  obtain ⟨p', ep', bet⟩ : ∃ p' : List (Option Nat), ys = p'.map pickV ∧ p'.length = n ∧ ∀ s, s < n → Bet l q s (pk p s) (pk p' s) ∧ pk p' s = betF l q s (pk p s) := by
    have : ∀ m, m ≤ n → ∃ p' : List (Option Nat), ys.take m = p'.map pickV ∧ p'.length = m ∧ ∀ s, s < m → Bet l q s (pk p s) (pk p' s) ∧ pk p' s = betF l q s (pk p s) := by
      intro m
      induction m with
      | zero => exact fun _ => ⟨[], by simp, rfl, fun s hs => absurd hs (Nat.not_lt_zero s)⟩
      | succ m ih =>
        intro hm
        obtain ⟨p', e1, e2, e3⟩ := ih (by omega)
        have hmy : m < ys.length := by omega
        obtain ⟨x, ex, hb⟩ := l2 m _ (List.getElem?_eq_getElem hmy)
        refine ⟨p' ++ [x], ?_, by rw [List.length_append, e2]; rfl, fun s hs => ?_⟩
        · rw [List.take_add_one, List.getElem?_eq_getElem hmy, e1, ex, List.map_append]
          rfl
        · by_cases c : s < m
          · have : pk (p' ++ [x]) s = pk p' s := by unfold pk; rw [List.getElem?_append_left (by omega)]
            rw [this]
            exact e3 s c
          · have c2 : s = m := by omega
            subst c2
            have : pk (p' ++ [x]) s = x := by unfold pk; rw [List.getElem?_append_right (by omega), e2, Nat.sub_self]; rfl
            rw [this]
            exact hb
    obtain ⟨p', e1, e2, e3⟩ := this n (Nat.le_refl n)
    rw [List.take_of_length_le (by omega)] at e1
    exact ⟨p', e1, e2, e3⟩
  obtain ⟨pl', bet⟩ := bet
  subst ep'
  have enx : p' = nextP n l q p := by
    apply List.ext_getElem?
    intro i
    unfold nextP
    rw [List.getElem?_map]
    by_cases hi : i < n
    · have h1 := (bet i hi).2
      rw [List.getElem?_range hi, List.getElem?_eq_getElem (by omega)]
      unfold pk at h1
      rw [List.getElem?_eq_getElem (by omega)] at h1
      exact congrArg some h1
    · rw [List.getElem?_eq_none (by omega), List.getElem?_eq_none (by simp; omega)]
      rfl
  replace bet := fun s hs => (bet s hs).1
  have s27 := s23.trans s7
  have pok' := bet_ok ok pok had pl' bet
  refine ⟨_, rfl, _, rfl, Dl, b, _, _, rfl, rfl, .inl (.inl e7), .inl (.inl ((s3.trans s7) _ _ eb)), by simp [pl', pok.len], flat_picks _, flat_picks _, _, rfl, ?_⟩
  rw [eq_picks (by rw [pl', pok.len])]
  refine ite2 (fun h0 => ?_) (fun h0 => ?_)
  · have h0 := of_decide_eq_true h0
    subst h0
    refine ⟨_, rfl, _, rfl, _, rfl, by show 3 ≤ sizeLine; decide, fun t' ht' => ?_⟩
    have s8 := s7.trans (same_upd (o := .tup [.ref a, .ref b, .ref D]) ht')
    refine k _ t' a b D q p' far p0 (s23.trans s8) upd_same (hq.s s8) ql ((s3.trans s8) _ _ eb) pok had qz (fun i d hd => ?_) fr (R1 _ (.stop pok had ql enx.symm))
    have okd := ok.acts d (List.mem_of_getElem? hd)
    rcases bet d.1 okd.s with ⟨_, h⟩ | ⟨a', d', h1, h2, h3, h4⟩
    · exact h i d hd rfl
    · have := had.pick pok.ok h1
      rw [had_out (numN q) h2] at this
      grind
  · have h0 : p' ≠ p := fun e => h0 (decide_eq_true e)
    refine ⟨_, rfl, ⟨Dl, _, _, _, p', rfl, e7, pok', _, left_lt ok pok lf had, .inr ⟨p, q, far, pok, had, fun s hs => ?_, ?_, rfl⟩, fun f hf => R1 f (.step pok had ql (fun e => h0 (enx.trans e)) (enx ▸ hf))⟩, s27⟩
    · rcases bet s hs with ⟨h1, _⟩ | ⟨a', d', h1, h2, h3, h4⟩
      · exact .inl h1
      · exact .inr ⟨a', h1, by rw [had_out (numN q) h2]; exact h4⟩
    · apply Classical.byContradiction
      intro hc
      apply h0
      apply List.ext_getElem?
      intro i
      by_cases hi : i < n
      · have : pk p' i = pk p i := Classical.byContradiction fun z => hc ⟨i, hi, z⟩
        unfold pk at this
        have i1 : i < p'.length := by omega
        have i2 : i < p.length := by rw [pok.len]; exact hi
        rw [List.getElem?_eq_getElem i1, List.getElem?_eq_getElem i2] at this ⊢
        exact congrArg some this
      · rw [List.getElem?_eq_none (by omega), List.getElem?_eq_none (by rw [pok.len]; omega)]
end
end Lc
set_option Elab.async false
set_option linter.all false
set_option maxRecDepth 100000
set_option maxHeartbeats 4000000
namespace Lc
open PySem PySem.Spec PyProof.Rows L2 LcR
theorem same_unlock {H H3 : Hp} {d : Addr} {od : Obj} {u : HO} (ed : H d = some u) (s : Same (upd H d (.frz od u)) H3) : Same H (upd H3 d u) := fun b o hb => by
  by_cases e : b = d
  · subst e; rw [upd_same, ← ed]; exact hb
  · rw [upd_ne e]; exact s _ _ (by rw [upd_ne e]; exact hb)
/-- the picks at states with a number -/
def keptP (n : Nat) (q : List Rat) (p : List (Option Nat)) : List (Option Nat) := (List.range n).map fun i => if numN q i = 0 then none else pk p i
theorem keptP_len (n : Nat) (q : List Rat) (p : List (Option Nat)) : (keptP n q p).length = n := by unfold keptP; simp
theorem keptP_at {n : Nat} {q : List Rat} {p : List (Option Nat)} {i : Nat} (h : i < n) : pk (keptP n q p) i = if numN q i = 0 then none else pk p i := by
  unfold keptP
  rw [pk, List.getElem?_map, List.getElem?_range h]
  rfl
theorem keptP_some {n : Nat} {q : List Rat} {p : List (Option Nat)} {i a : Nat} (h : pk (keptP n q p) i = some a) : i < n ∧ numN q i ≠ 0 ∧ pk p i = some a := by
  have hi : i < n := by have := pk_lt h; rw [keptP_len] at this; exact this
  rw [keptP_at hi] at h
  split at h
  · cases h
  · exact ⟨hi, by assumption, h⟩
def ranksV (n : Nat) (far : Nat → Option Nat) : List V := (List.range n).map fun i => V.int (((far i).getD 0 : Nat) : Int)
theorem map_of {n : Nat} {ys : List V} {f : Nat → V} (h1 : ys.length = n) (h2 : ∀ (i : Nat) y, ys[i]? = some y → y = f i) : ys = (List.range n).map f := by
  apply List.ext_getElem?
  intro i
  rw [List.getElem?_map]
  by_cases hi : i < n
  · rw [List.getElem?_range hi, List.getElem?_eq_getElem (by omega)]
    exact congrArg some (h2 i _ (List.getElem?_eq_getElem (by omega)))
  · rw [List.getElem?_eq_none (by omega), List.getElem?_eq_none (by simp; omega)]
    rfl
section
variable {P : Program} {w : World} {K : PySem.W.Frag} {mg : Str → Option Value} {base : Heap}
def sp_ranked (K : PySem.W.Frag) : Sp := fun vs H Q _ => ∃ (v : V) (n : Nat) (l : List ActD) (u : V) (q : List Rat) (x : V) (p : List (Option Nat)) (y : V) (g : List Nat), vs = [v, u, x, y] ∧ HouseV K H v n l ∧ OkActs n l ∧ NumsL K H u q ∧ q.length = n ∧ PicksL H x p ∧ PkOk n l g p ∧ WorthsV K H y g ∧ (∀ s ∈ g, s < n) ∧ g.Nodup ∧ (∀ s ∈ g, numN q s = 1) ∧
  ∀ H' a far, Same H H' → H' a = some (.tup (ranksV n far)) → LC.FarOk (hsOf n l) g (pk (keptP n q p)) far → LedRun n l (keptP n q p) (farOf g (pk (keptP n q p)), g.filter fun s => (pk (keptP n q p) s).isNone) far → Q (.ref a) H'
theorem c_ranked (T : Tx K mg) : C8.Cal P w K mg base 7 "ranked" (sp_ranked K) [] := by
  obtain ⟨fd, F⟩ := T.f_ranked
  refine calD F T.g_ranked sc_ranked (fun _ _ _ _ _ _ us hl => match us, hl with | [_, _, _, _], _ => rfl) (fun vs H Q E h => ?_) (fun cdv A outer s H vs Q E hr h => ?_)
  · obtain ⟨_, _, _, _, _, _, _, _, _, rfl, _⟩ := h; rfl
  obtain ⟨v, n, l, u, q, x, p, y, g, rfl, hv, ok, hu, ql, ⟨ap, rfl, eap⟩, pok, ⟨d, kvs, rfl, ed, ek, ew⟩, gn, gd, g1, k⟩ := h
  refine ⟨_, (pss_cons (ps_lock (LcD.ps_setDc (i := 4) (own := [("state", 7)]) (g := gName 7) (tt := (tAnd (tB (tIsN (tOp (rIxL K) (tVar 2) (tVar 7)))) (tB (tOp (rNeR K) (tOp (rIxL K) (tVar 1) (tVar 7)) (tMake (CRatio K) (sp_Ratio_init K) [.int 1] C8.E0 (tCons (tC (.int 0)) tNil)))))) (by rfl) sc_ranked.nd rfl rfl (LcD.sw_trueD rfl rfl rfl (by decide +kernel)) (pi_keys (pv 3)) (blkOk_by (own := [("state", 7)]) (N := N_ranked) (sc := defScope s_ranked) (by decide +kernel)) (fun _ _ _ _ _ => (pg_name (i := 7) sc_ranked.nd rfl (Or.inl rfl))) (fun _ _ _ _ _ => (pts_one (PW.pt (pw_and (pt_cmp (pc_isN (pe_ix ix_list (pv 2) (pv 7) (fun _ _ => rfl)))) (pw_and1 (pt_cmpR (op_Rne T hr (by decide)) (pe_ix ix_list (pv 1) (pv 7) (fun _ _ => rfl)) (C8.pe_mk (c_Ratio_1 T) hr (by decide) (by rfl) (pa_cons pe_int pa_nil)) (nomark _))))))) (fun _ _ _ _ _ => (pv 7)) (fun _ _ _ _ _ => (pe_dget (hu1 hr) (pv 3) (pv 7) (fun _ _ => rfl)))))
      (pss_cons (ps_setLc (i := 5) (own := [("state", 7), ("pick", 8)]) (g := gTup K 2 (gCons (gName 7) (gCons (gName 8) (gNil)))) (te := (tIf (tB (tOp (rNeR K) (tOp (rIxL K) (tVar 1) (tVar 7)) (tMake (CRatio K) (sp_Ratio_init K) [.int 1] C8.E0 (tCons (tC (.int 0)) tNil)))) (tVar 8) (tC .non))) (by rfl) sc_ranked.nd rfl rfl (sw_true rfl rfl rfl (by decide +kernel)) (pi_enum (by rfl) T.b_enumerate (pa_cons (pv 2) pa_nil)) (blkOk_by (own := [("state", 7), ("pick", 8)]) (N := N_ranked) (sc := defScope s_ranked) (by decide +kernel)) (fun _ _ _ _ _ => (pg_tup rfl (pgs_cons (pg_name (i := 7) sc_ranked.nd rfl (Or.inl rfl)) (pgs_cons (pg_name (i := 8) sc_ranked.nd rfl (Or.inl rfl)) pgs_nil)))) (fun _ _ _ _ _ => pts_nil) (fun _ _ _ _ _ => (pe_ifExp (pt_cmpR (op_Rne T hr (by decide)) (pe_ix ix_list (pv 1) (pv 7) (fun _ _ => rfl)) (C8.pe_mk (c_Ratio_1 T) hr (by decide) (by rfl) (pa_cons pe_int pa_nil)) (nomark _)) (pv 8) pe_non)))
      (pss_cons (ps_set (i := 6) sc_ranked.nd rfl (Or.inr rfl) (C8.pe_c (c_led_to T) hr (by decide) (by rfl) (pa_cons (pv 0) (pa_cons (pv 5) (pa_cons (pv 4) pa_nil)))))
      (pss_one (ps_ret (pe_callTy call_tuple_of (by rfl) T.b_tuple (by decide +kernel) (pa_cons (pe_lc (own := [("state", 7)]) (g := gName 7) (by rfl) sc_ranked.nd (pi_range1 (by rfl) T.b_range (pa_cons (pe_fld (pv 0) rfl) pa_nil)) (blkOk_by (own := [("state", 7)]) (N := N_ranked) (sc := defScope s_ranked) (by decide +kernel)) (fun _ _ _ _ _ => (pg_name (i := 7) sc_ranked.nd rfl (Or.inl rfl))) (fun _ _ _ _ _ => pts_nil) (fun _ _ _ _ _ => (pe_dget2 (hu1 hr) (pv 6) (pv 7) pe_int ⟨rfl, rfl, rfl, rfl⟩))) pa_nil))))))), ?_⟩
  obtain ⟨au, us, rfl, eu, aq⟩ := id hu
  have n2 := ok.n2
  have pl := pok.len
  have kl : kvs.length = g.length := by have := congrArg List.length ek; simpa using this
  have gl : g.length ≤ n := by
    have := nodup_len gd (m := List.range n) fun x hx => List.mem_range.mpr (gn x hx)
    rwa [List.length_range] at this
  have kg : ∀ (i : Nat) k v, kvs[i]? = some (k, v) → ∃ s, g[i]? = some s ∧ k = keyN s := fun i k v e => by
    have h1 : (kvs.map (·.1))[i]? = some k := by rw [List.getElem?_map, e]; rfl
    rw [ek, List.getElem?_map] at h1
    obtain ⟨s, h2, h3⟩ := Option.map_eq_some_iff.mp h1
    exact ⟨s, h2, h3.symm⟩
  refine ⟨d, _, ed, trivial, fun od => ?_⟩
  have un := fun {H3} => same_unlock (H3 := H3) (od := od) ed
  generalize hHl : upd H d (.frz od (.dK kvs)) = Hl at un
  have edl : Hl d = some (.frz od (.dK kvs)) := hHl ▸ upd_same
  have kl2 : ∀ b o, b ≠ d → H b = some o → Hl b = some o := fun b o hb e => by rw [← hHl, upd_ne hb]; exact e
  have apd : ap ≠ d := fun z => by subst z; rw [eap] at ed; cases ed
  have aud : au ≠ d := fun z => by subst z; rw [eu] at ed; cases ed
  have fz : SameN H Hl := fun b o hb f => kl2 b o (fun z => by subst z; rw [ed] at hb; cases hb; exact f) hb
  refine ⟨_, rfl, d, od, rfl, .inl ⟨kvs, edl, fun D hD => ?_⟩⟩
  have Dd : D ≠ d := fun z => by subst z; rw [edl] at hD; cases hD
  refine dc_it walk_keys (fun i H' => Same Hl H' ∧ ∃ fk, H' D = some (.dK fk) ∧ fk.map (·.1) = (g.take i).map keyN ∧ ∀ s ∈ g.take i, ∃ u, valV fk (keyN s) = some u ∧ IsR K H' u 1)
    ⟨same_upd hD, [], upd_same, by simp, fun s h => by simp at h⟩ (fun i H' _ p => p.1 _ _ edl) ?_ ?_
  · rintro i x H3 H4 hi ⟨s3, fk, ef, efk, fw⟩ ⟨rfl, kx, vx, hx, rfl⟩
    obtain ⟨s0, hs0, rfl⟩ := kg i kx vx hx
    have sg := List.mem_of_getElem? hs0
    have hsn := gn s0 sg
    have tk : g.take (i + 1) = g.take i ++ [s0] := by rw [List.take_add_one, hs0]; rfl
    obtain ⟨qv, hqv⟩ : ∃ qv, q[s0]? = some qv := ⟨_, List.getElem?_eq_getElem (by omega)⟩
    have q1 : qv = 1 := by have := g1 s0 sg; unfold numN at this; rw [hqv] at this; exact this
    obtain ⟨yq, hyq, rq⟩ := aq.get hqv
    obtain ⟨uw, hw1, hw2⟩ := ew s0 sg
    refine ⟨rfl, ⟨_, rfl, _, rfl, ap, _, _, _, rfl, rfl, .inl (.inl (s3 _ _ (kl2 _ _ apd eap))), atI_nat (pk_at (by omega)), true, by rw [pick_non, pok.gn s0 sg]; rfl, iteT ?_⟩⟩
    refine ⟨_, rfl, _, rfl, au, us, _, yq, rfl, rfl, .inl (.inl (s3 _ _ (kl2 _ _ aud eu))), atI_nat hyq, fun x dx hx hdx ne => mR1 hx hdx ne fun H5 s5 hz => ⟨rfl, ?_⟩⟩
    have fz5 := fz.trans ((same_n s3).trans (same_n s5))
    refine ⟨qv, 0, rq.n fz5, hz, true, ?_, iteT ?_⟩
    · rw [q1, decide_eq_false (by grind)]; rfl
    have ef5 := s5 _ _ ef
    have nk : s0 ∉ g.take i := fun hm => by
      have e1 : g.take i ++ [s0] = g.take (i + 1) := tk.symm
      have nd : (g.take (i + 1)).Nodup := gd.sublist (List.take_sublist _ _)
      rw [← e1, List.nodup_append] at nd
      exact nd.2.2 s0 hm s0 (by simp) rfl
    have vn : valV fk (keyN s0) = none := by
      cases e : valV fk (keyN s0) with
      | none => rfl
      | some z =>
        have := valV_in e
        rw [efk] at this
        obtain ⟨t, ht, e2⟩ := List.mem_map.mp this
        exact absurd (by rw [← keyN_inj e2]; exact ht) nk
    have fl : fk.length ≤ 10 := by
      have := congrArg List.length efk
      rw [List.length_map, List.length_map, List.length_take] at this
      omega
    refine ⟨_, rfl, _, rfl, _, rfl, d, uw, rfl, .inl ⟨kvs, keyN s0, .inr ⟨od, (s3.trans s5) _ _ edl⟩, rfl, hw1.symm⟩, ?_⟩
    refine ⟨fk, keyN s0, rfl, ef5, Nat.lt_of_le_of_lt fl (by decide), ?_⟩
    have sn : SameN H5 (upd H5 D (.dK (putK fk (keyN s0) uw))) := sameN_upd ef5 (fun z => z)
    refine ⟨fun b o hb => by rw [upd_ne (ne_of_none hb hD)]; exact (s3.trans s5) _ _ hb, _, upd_same, ?_, fun s hs => ?_⟩
    · unfold putK
      rw [valV_any, vn, tk]
      simp [efk]
    · rw [valV_put]
      by_cases e : s = s0
      · subst e
        exact ⟨uw, by rw [if_pos rfl], hw2.n (fz5.trans sn)⟩
      · rw [if_neg (fun z => e (keyN_inj z))]
        rw [tk] at hs
        rcases List.mem_append.mp hs with z | z
        · obtain ⟨u', h1, h2⟩ := fw s z
          exact ⟨u', h1, h2.n ((same_n s5).trans sn)⟩
        · exact absurd (List.mem_singleton.mp z) e
  rintro H3 ⟨s3, fk, ef, efk, fw⟩
  refine ⟨s3 _ _ edl, ?_⟩
  have s4 : Same H (upd H3 d (.dK kvs)) := un s3
  have ef4 : upd H3 d (.dK kvs) D = some (.dK fk) := by rw [upd_ne Dd]; exact ef
  rw [kl, List.take_length] at efk fw
  have W4 : WorthsV K (upd H3 d (.dK kvs)) (.ref D) g := ⟨D, fk, rfl, ef4, efk, fun s hs => by
    obtain ⟨u', h1, h2⟩ := fw s hs
    obtain ⟨c1, c2, rfl, c3⟩ := h2
    exact ⟨_, h1, c1, c2, rfl, by rw [upd_ne (fun z => by subst z; rw [s3 _ _ edl] at c3; cases c3)]; exact c3⟩⟩
  generalize upd H3 d (.dK kvs) = H4 at s4 W4
  clear s3 ef4 ef efk fw
  refine ⟨_, rfl, ap, _, rfl, .inl (.inl (s4 _ _ eap)), fun Kl hKl => ?_⟩
  have pml : (p.map pickV).length = n := by rw [List.length_map]; exact pl
  refine lcm walk_enum hKl (Nat.le_trans (by omega : (p.map pickV).length ≤ 10) (by decide)) (fun _ => true) (fun i y _ => y = pickV (if numN q i = 0 then none else pk p i)) (fun i y1 H1 H2 s z => z) (fun H1 s => .inl (.inl ((s4.trans s) _ _ eap))) (fun i x H8 H1 kN' kY hi s y1 kn ky => ?_) (fun H7 ys s7 e7 kp => ?_)
  · obtain ⟨Tp, x1, y1', rfl, hT, rfl, hx, hy⟩ := y1
    cases hx
    have hy : (p.map pickV)[i]? = some y1' := hy
    rw [pk_at (by omega)] at hy
    cases hy
    have s8 := (s4.trans s).trans (same_upd (o := .tup [V.int (i : Nat), pickV (pk p i)]) hT)
    obtain ⟨qv, hqv⟩ : ∃ qv, q[i]? = some qv := ⟨_, List.getElem?_eq_getElem (by omega)⟩
    obtain ⟨yq, hyq, rq⟩ := aq.get hqv
    refine ⟨_, _, rfl, .inl (.inl upd_same), rfl, _, _, rfl, _, _, rfl, rfl, rfl, yes ?_⟩
    refine ⟨_, rfl, _, rfl, au, us, _, yq, rfl, rfl, .inl (.inl (s8 _ _ eu)), atI_nat hyq, fun x dx hx hdx ne => mR1 hx hdx ne fun H5 s5 hz => ⟨rfl, ?_⟩⟩
    refine ⟨qv, 0, rq.n (same_n (s8.trans s5)), hz, _, rfl, ite2 (fun h0 => ?_) (fun h0 => ?_)⟩
    · refine ⟨_, rfl, ky _ _ ((same_upd hT).trans s5) rfl ?_⟩
      rw [if_neg]
      intro e
      unfold numN at e
      rw [hqv] at e
      have e : qv = 0 := e
      rw [e] at h0
      simp at h0
    · refine ky _ _ ((same_upd hT).trans s5) rfl ?_
      rw [if_pos]
      · rfl
      · unfold numN
        rw [hqv]
        have h0 : ¬ (!decide (qv = 0)) = true := h0
        simpa using h0
  obtain ⟨l1, l2⟩ := kp.all
  have eys := map_of (l1.trans pml) l2
  have eys : ys = (keptP n q p).map pickV := by rw [eys]; unfold keptP; rw [List.map_map]; rfl
  subst eys
  have pl' := keptP_len n q p
  have pa' : ∀ s a, pk (keptP n q p) s = some a → a < l.length := fun s a e => pok.lt s a (keptP_some e).2.2
  have s47 := s4.trans s7
  refine ⟨_, rfl, _, rfl, _, rfl, v, n, l, .ref Kl, keptP n q p, .ref D, g, rfl, hv.n (same_n s47), ok, ⟨Kl, rfl, e7⟩, pl', pa', W4.s s7, gn, gd, fun H9 Df fk far s9 ef kok fd fo lr => ?_⟩
  obtain ⟨xh, dxh, mh, vah, vsh, lkh, voh, rfl, eh, hh1, hh2, hh3⟩ := id hv
  have s49 := s47.trans s9
  refine ⟨_, rfl, xh, _, dxh, _, _, rfl, s49 _ _ eh, T.cl_House, T.na_House_states, rfl, (n : Int), rfl, by omega, by omega, fun Dl hDl => ?_⟩
  rw [Int.toNat_natCast]
  refine lcm walk_range hDl (Nat.le_trans n2 (by decide)) (fun _ => true) (fun i y1 H1 => y1 = V.int (((far i).getD 0 : Nat) : Int)) (fun i y1 H1 H2 s z => z) (fun H1 s => trivial) (fun i x H8 H1 kN' kY hi s y1 kn ky => ?_) (fun H10 ys s10 e10 kp2 => ?_)
  · obtain ⟨rfl, ex⟩ := y1
    obtain rfl : x = V.int ((i : Nat) : Int) := ex.trans (congrArg V.int (Int.zero_add _))
    refine ⟨rfl, yes ⟨_, rfl, Df, rfl, .inl ⟨fk, .inl (s _ _ ef)⟩, _, rfl, _, .inl ⟨fk, keyN i, .inl (s _ _ ef), rfl, rfl⟩, ky _ _ (Same.refl _) rfl ?_⟩⟩
    rw [fd i]
    cases far i with
    | none => rfl
    | some m => rfl
  obtain ⟨l3, l4⟩ := kp2.all
  have ey2 := map_of l3 l4
  subst ey2
  refine ⟨Dl, _, rfl, .inl ⟨.inl (.inl e10), fun t ht => ?_⟩⟩
  exact k _ t far ((s49.trans s10).trans (same_upd ht)) upd_same fo lr
end
end Lc
set_option Elab.async false
set_option linter.all false
set_option maxRecDepth 100000
set_option maxHeartbeats 4000000
namespace Lc
open PySem PySem.Spec PyProof.Rows L2 LcR
section
variable {X : Cx} {e st : Expr} {te ts : TE} {p2 pos : Pos}
/-- xs[::-1] of a list -/
def tRevL (K : PySem.W.Frag) (te ts : TE) : TE := fun σ H Q => te σ H fun x H1 => tPart ts σ H1 fun u H2 => u = some (-1) ∧ ∃ a xs, x = .ref a ∧ SqL K H2 a xs ∧ ∀ p, H2 p = none → Q (.ref p) (upd H2 p (.lst xs.reverse))
theorem vals_revL : ∀ {xs : List V} {us : List Value}, Vals xs us → Vals xs.reverse us.reverse
  | _, _, .nil => .nil
  | _, _, .cons a r => by
    rw [List.reverse_cons, List.reverse_cons]
    exact (vals_revL r).append (.cons a .nil)
theorem pe_revL (he : PE X e te) (hs : PE X st ts) : PE X (.Subscript e (.Slice none none (some st) p2) pos) (tRevL X.K te ts) := by
  refine ⟨fun pins s σ H Q I h => ?_⟩
  refine Subscript_ (thn (he.run pins s σ H _ I h) fun v s1 ⟨x, H1, I1, r1, q1⟩ => ?_)
  refine wpAny_Slice ?_
  rw [evalPart_none]
  refine wpAny_pure (wpAny_pure ?_)
  refine thn ((po_some hs).run pins s1 σ H1 _ I1 q1) fun vu s3 ⟨u, H3, I3, pu, eu, a, xs, ex, hx, q3⟩ => ?_
  subst eu ex
  cases r1
  have I4 : Inv X pins σ H3 { s3 with heap := s3.heap.push { cls := .type "slice", data := .fields #[.none, .none, vu] } } := I3.kept (t' := s3.toks) fun b ob q => Heap.get?_push_of_some _ q
  obtain ⟨its, r, ht, hz⟩ := I4.list hx
  have hlen := r.length
  show wpAny (model X.prog X.w) X.A (subscriptTail e (.Slice none none (some st) p2) (.ref a) (.ref s3.heap.objs.size)) (EP X pins σ Q) X.xe { s3 with heap := s3.heap.push { cls := .type "slice", data := .fields #[.none, .none, vu] } }
  refine tail_any (ops := [.ref a, .ref s3.heap.objs.size]) ht.isList.typeIs slot_list_getitem.lookup ?_ (by with_unfolding_all rfl)
  refine wpAny_getItem_list_slice ht.isList (Heap.IsSliceOf.new ..) .none .none pu (by simp) ?_ (by rw [List.size_toArray] <;> omega)
  rw [PySem.W.krv_pick]
  refine ⟨.ref _, _, I4.laid (t' := s3.toks) (o := .lst xs.reverse) (fun b ob q => Heap.get?_push_of_some _ q) (Nat.le_refl _) ?_, rfl, q3 _ (I4.hok.fresh (Nat.le_refl _))⟩
  exact ⟨by rw [List.length_reverse]; exact hz, _, 0, vals_revL r, Heap.get?_push_size _ rfl⟩
end
end Lc
set_option Elab.async false
set_option linter.all false
set_option maxRecDepth 100000
set_option maxHeartbeats 4000000
namespace Lc
open PySem PySem.Spec PyProof.Rows L2 LcR
/-- what has no parts -/
def LeafV (K : PySem.W.Frag) (H : Hp) (x : V) : Prop := x = .non ∨ (∃ i, x = .int i) ∨ ∃ q, IsR K H x q
theorem LeafV.n {K : PySem.W.Frag} {H H' : Hp} {x : V} (h : LeafV K H x) (s : SameN H H') : LeafV K H' x := by
  rcases h with h | h | ⟨q, h⟩
  · exact .inl h
  · exact .inr (.inl h)
  · exact .inr (.inr ⟨q, h.n s⟩)
/-- what is left after j nodes of .ref a :: xs -/
def restOf (a : Addr) (xs : List V) : Nat → List (V × Int)
  | 0 => [(.ref a, -1)]
  | j + 1 => (xs.drop j).reverse.map fun x => (x, 0)
def PL (H : Hp) (u : V) (z : V × Int) : Prop := ∃ t, u = .ref t ∧ H t = some (.tup [z.1, .int z.2])
theorem PL.n {H H' : Hp} {u : V} {z : V × Int} (h : PL H u z) (s : SameN H H') : PL H' u z := by
  obtain ⟨t, rfl, e⟩ := h
  exact ⟨t, rfl, s _ _ e trivial⟩
def ints1 (k : Nat) : List V := (List.range k).map fun i : Nat => V.int ((i : Int) + 1)
theorem ints1_succ (k : Nat) : ints1 k ++ [V.int ((k + 1 : Nat) : Int)] = ints1 (k + 1) := by
  unfold ints1
  rw [List.range_succ, List.map_append]
  rfl
def Bel (N B L b0 : Addr) (H : Hp) (bs : List V) : Prop := ∀ (i : Nat) u, 1 ≤ i → bs[i]? = some u → ∃ c, u = .ref c ∧ H c = some (.lst []) ∧ c ≠ N ∧ c ≠ B ∧ c ≠ L ∧ c ≠ b0
def Off (N B L b0 : Addr) (H H' : Hp) : Prop := ∀ b o, b ≠ N → b ≠ B → b ≠ L → b ≠ b0 → H b = some o → H' b = some o
theorem Bel.off {N B L b0 : Addr} {H H' : Hp} {bs : List V} (h : Bel N B L b0 H bs) (s : Off N B L b0 H H') : Bel N B L b0 H' bs := fun i u hi hu => by
  obtain ⟨c, rfl, e, h1, h2, h3, h4⟩ := h i u hi hu
  exact ⟨c, rfl, s c _ h1 h2 h3 h4 e, h1, h2, h3, h4⟩
theorem rest_last {a : Addr} {xs : List V} : ∀ {j : Nat}, j ≤ xs.length → ∃ y i r, restOf a xs j = r ++ [(y, i)] ∧ (V.ref a :: xs)[j]? = some y ∧ i = (if j = 0 then -1 else 0) ∧ (1 ≤ j → r = restOf a xs (j + 1)) ∧ (j = 0 → r = [])
  | 0, _ => ⟨.ref a, -1, [], rfl, rfl, rfl, fun h => absurd h (by omega), fun _ => rfl⟩
  | j + 1, h => by
    have e : xs.drop j = xs[j] :: xs.drop (j + 1) := List.drop_eq_getElem_cons (by omega)
    refine ⟨xs[j], 0, (xs.drop (j + 1)).reverse.map fun x => (x, 0), ?_, ?_, by rw [if_neg (by omega)], fun _ => rfl, fun z => absurd z (by omega)⟩
    · show (xs.drop j).reverse.map _ = _
      rw [e, List.reverse_cons, List.map_append]
      rfl
    · rw [List.getElem?_cons_succ, List.getElem?_eq_getElem]
section
variable {P : Program} {w : World} {K : PySem.W.Frag} {mg : Str → Option Value} {base : Heap}
theorem leaf_ty {H : Hp} {x : V} (T : Tx K mg) (h : LeafV K H x) : ∃ t, TyX K H x t ∧ PySem.W.kitOne K t (.type "list") = some false ∧ PySem.W.kitOne K t (.type "tuple") = some false ∧ PySem.W.kitOne K t (.type "dict") = some false := by
  rcases h with rfl | ⟨i, rfl⟩ | ⟨q, a, dx, rfl, e⟩
  · exact ⟨_, .base .non, kit_ty (by decide +kernel), kit_ty (by decide +kernel), kit_ty (by decide +kernel)⟩
  · exact ⟨_, .base (.int i), kit_ty (by decide +kernel), kit_ty (by decide +kernel), kit_ty (by decide +kernel)⟩
  · exact ⟨_, ty_R T e, T.kr_list, T.kr_tuple, T.kr_dict⟩
theorem kit_any2 {t a b : Value} {r s : Bool} (h1 : PySem.W.kitOne K t a = some r) (h2 : PySem.W.kitOne K t b = some s) : PySem.W.kitAny K t [a, b] = some (r || s) := by
  refine kitAny_cons h1 (fun e => ?_) (fun e => by rw [e]; rfl)
  refine kitAny_cons h2 (fun e2 => ?_) (fun e2 => by rw [e2]; cases r <;> rfl)
  subst e e2
  rfl
def PartsOf (K : PySem.W.Frag) (H : Hp) (x : V) (xs : List V) : Prop := (∃ a, x = .ref a ∧ H a = some (.tup xs)) ∨ (xs = [] ∧ LeafV K H x)
theorem PartsOf.n {H H' : Hp} {x : V} {xs : List V} (h : PartsOf K H x xs) (s : SameN H H') : PartsOf K H' x xs := by
  rcases h with ⟨a, rfl, e⟩ | ⟨rfl, h⟩
  · exact .inl ⟨a, rfl, s _ _ e trivial⟩
  · exact .inr ⟨rfl, h.n s⟩
def sp_parts_in (K : PySem.W.Frag) : Sp := fun vs H Q _ => ∃ x xs, vs = [x] ∧ PartsOf K H x xs ∧ ∀ H' p, Same H H' → H' p = some (.lst xs) → Q (.ref p) H'
theorem c_parts_in (T : Tx K mg) : C8.Cal P w K mg base 1 "parts_in" (sp_parts_in K) [] := by
  obtain ⟨fd, F⟩ := T.f_parts_in
  refine calD F T.g_parts_in sc_parts_in (fun _ _ _ _ _ _ us hl => match us, hl with | [_], _ => rfl) (fun vs H Q E h => ?_) (fun cdv A outer s H vs Q E hr h => ?_)
  · obtain ⟨_, _, rfl, _⟩ := h; rfl
  obtain ⟨x, xs, rfl, hx, k⟩ := h
  refine ⟨_, (pss_cons (ps_if (pt_val (pe_callB call_isiT (by rfl) T.b_isinstance (by decide +kernel) (pa_cons (pv 0) (pa_cons (pe_tup (pa_cons (pe_bltn (v := .ty "list") (by rfl) T.b_list (by decide +kernel) rfl) (pa_cons (pe_bltn (v := .ty "tuple") (by rfl) T.b_tuple (by decide +kernel) rfl) pa_nil))) pa_nil)))) (pss_one (ps_ret (pe_callTy call_list_of (by rfl) T.b_list (by decide +kernel) (pa_cons (pv 0) pa_nil)))) pss_nil)
      (pss_one (ps_ret (pe_ifExp (pt_val (pe_callB call_isi (by rfl) T.b_isinstance (by decide +kernel) (pa_cons (pv 0) (pa_cons (pe_bltn (v := .ty "dict") (by rfl) T.b_dict (by decide +kernel) rfl) pa_nil)))) pe_nope (pe_lst pa_nil))))), ?_⟩
  refine ⟨_, rfl, by show 2 ≤ sizeLine; decide, fun tp htp => ?_⟩
  have s1 := same_upd (o := .tup [.ty "list", .ty "tuple"]) htp
  have cl : Paired ClsV [V.ty "list", V.ty "tuple"] [Value.type "list", Value.type "tuple"] := .cons (.ty _) (.cons (.ty _) .nil)
  rcases hx.n (same_n s1) with ⟨a, rfl, e⟩ | ⟨rfl, lf⟩
  · refine ⟨_, tp, _, _, _, true, rfl, upd_same, cl, .base (.tup e), kit_any2 (r := false) (s := true) (kit_ty (by decide +kernel)) (kit_ty (by decide +kernel)), true, rfl, iteT ?_⟩
    refine ⟨_, rfl, a, xs, rfl, .inr (.inl (.inl e)), fun p hp => ?_⟩
    exact k _ p (s1.trans (same_upd hp)) upd_same
  · obtain ⟨t, ty, h1, h2, h3⟩ := leaf_ty T lf
    refine ⟨_, tp, _, _, _, false, rfl, upd_same, cl, ty, kit_any2 h1 h2, false, rfl, iteF ?_⟩
    refine ⟨_, rfl, _, _, _, _, false, rfl, .ty _, ty, h3, false, rfl, iteF ⟨Nat.zero_le _, fun p hp => ?_⟩⟩
    exact k _ p (s1.trans (same_upd hp)) upd_same
def sp_made_anew (K : PySem.W.Frag) : Sp := fun vs H Q _ => ∃ x b ys, vs = [x, .ref b] ∧ H b = some (.lst ys) ∧
  (((∃ a xs, x = .ref a ∧ H a = some (.tup xs)) ∧ ∀ H' p, Same H H' → H' p = some (.tup ys) → Q (.ref p) H') ∨ (LeafV K H x ∧ Q x H))
theorem c_made_anew (T : Tx K mg) : C8.Cal P w K mg base 1 "made_anew" (sp_made_anew K) [] := by
  obtain ⟨fd, F⟩ := T.f_made_anew
  refine calD F T.g_made_anew sc_made_anew (fun _ _ _ _ _ _ us hl => match us, hl with | [_, _], _ => rfl) (fun vs H Q E h => ?_) (fun cdv A outer s H vs Q E hr h => ?_)
  · obtain ⟨_, _, _, rfl, _⟩ := h; rfl
  obtain ⟨x, b, ys, rfl, eb, hx⟩ := h
  refine ⟨_, (pss_cons (ps_if (pt_val (pe_callB call_isi (by rfl) T.b_isinstance (by decide +kernel) (pa_cons (pv 0) (pa_cons (pe_bltn (v := .ty "tuple") (by rfl) T.b_tuple (by decide +kernel) rfl) pa_nil)))) (pss_one (ps_ret (pe_callTy call_tuple_of (by rfl) T.b_tuple (by decide +kernel) (pa_cons (pv 1) pa_nil)))) pss_nil)
      (pss_cons (ps_if (pt_val (pe_callB call_isi (by rfl) T.b_isinstance (by decide +kernel) (pa_cons (pv 0) (pa_cons (pe_bltn (v := .ty "dict") (by rfl) T.b_dict (by decide +kernel) rfl) pa_nil)))) (pss_one (ps_ret (LcD.pe_dictZip rfl (by rfl) T.b_dict (by rfl) T.b_zip (pa_cons (pv 0) (pa_cons (pv 1) pa_nil))))) pss_nil)
      (pss_one (ps_ret (pe_ifExp (pt_val (pe_callB call_isi (by rfl) T.b_isinstance (by decide +kernel) (pa_cons (pv 0) (pa_cons (pe_bltn (v := .ty "list") (by rfl) T.b_list (by decide +kernel) rfl) pa_nil)))) (pv 1) (pv 0)))))), ?_⟩
  rcases hx with ⟨⟨a, xs, rfl, e⟩, k⟩ | ⟨lf, k⟩
  · refine ⟨_, rfl, _, _, _, _, true, rfl, .ty _, .base (.tup e), kit_ty (by decide +kernel), true, rfl, iteT ?_⟩
    refine ⟨_, rfl, b, ys, rfl, .inl ⟨.inl (.inl eb), fun p hp => ?_⟩⟩
    exact k _ p (same_upd hp) upd_same
  · obtain ⟨t, ty, h1, h2, h3⟩ := leaf_ty T lf
    refine ⟨_, rfl, _, _, _, _, false, rfl, .ty _, ty, h2, false, rfl, iteF ?_⟩
    refine ⟨_, rfl, _, _, _, _, false, rfl, .ty _, ty, h3, false, rfl, iteF ?_⟩
    exact ⟨_, rfl, _, _, _, _, false, rfl, .ty _, ty, h1, false, rfl, iteF ⟨_, rfl, k⟩⟩
def sp_copied (K : PySem.W.Frag) : Sp := fun vs H Q _ => ∃ a xs, vs = [.ref a] ∧ H a = some (.tup xs) ∧ (∀ x ∈ xs, LeafV K H x) ∧ xs.length ≤ 50 ∧ ∀ H' b, Same H H' → H' b = some (.tup xs) → Q (.ref b) H'
theorem c_copied (T : Tx K mg) : C8.Cal P w K mg base 2 "copied" (sp_copied K) [] := by
  obtain ⟨fd, F⟩ := T.f_copied
  refine calD F T.g_copied sc_copied (fun _ _ _ _ _ _ us hl => match us, hl with | [_], _ => rfl) (fun vs H Q E h => ?_) (fun cdv A outer s H vs Q E hr h => ?_)
  · obtain ⟨_, _, rfl, _⟩ := h; rfl
  obtain ⟨a, xs, rfl, e, lf, x50, k⟩ := h
  refine ⟨_, (pss_cons (ps_par3 (i := 1) (j := 2) (l := 3) (by rfl) sc_copied.nd rfl rfl rfl (by decide) (by decide) (by decide) rfl rfl rfl (pa_cons (pe_lst pa_nil) (pa_cons (pe_lst pa_nil) (pa_cons (pe_lst (pa_cons (pe_tup (pa_cons (pv 0) (pa_cons (pe_un un_neg pe_int) pa_nil))) pa_nil)) pa_nil))) (by rfl))
      (pss_cons (ps_while PassesOwn.never (pt_cmpR (op_neNil hr.units0) (pv 3) (pe_lst pa_nil) (nomark _))
      (pss_cons (ps_asg (pe_bm0 PySem.F.plainAttrs_list PySem.F.slot_list_pop PySem.F.type_list_pop mt_pop (pv 3)) (pg_tup rfl (pgs_cons (pg_name (i := 4) sc_copied.nd rfl (Or.inl rfl)) (pgs_cons (pg_name (i := 5) sc_copied.nd rfl (Or.inl rfl)) pgs_nil))))
      (pss_cons (ps_set (i := 6) sc_copied.nd rfl (Or.inr rfl) (pe_callB call_len (by rfl) T.b_len (by decide +kernel) (pa_cons (pv 1) pa_nil)))
      (pss_cons (ps_expr (pe_bm PySem.F.plainAttrs_list PySem.F.slot_list_append PySem.F.type_list_append mt_append (pv 1) (pa_cons (pv 4) pa_nil)))
      (pss_cons (ps_expr (pe_bm PySem.F.plainAttrs_list PySem.F.slot_list_append PySem.F.type_list_append mt_append (pv 2) (pa_cons (pe_lst pa_nil) pa_nil)))
      (pss_cons (ps_if (pt_cmpR op_ge (pv 5) pe_int (nomark _)) (pss_one (ps_expr (pe_bm PySem.F.plainAttrs_list PySem.F.slot_list_append PySem.F.type_list_append mt_append (pe_ix ix_list (pv 2) (pv 5) (fun _ _ => rfl)) (pa_cons (pv 6) pa_nil)))) pss_nil)
      (pss_one (ps_expr (pe_bm PySem.F.plainAttrs_list PySem.F.slot_list_extend PySem.F.type_list_extend mt_extend (pv 3) (pa_cons (pe_lc (own := [("part", 8)]) (g := gName 8) (by rfl) sc_copied.nd (pi_list (pe_revL (C8.pe_c (c_parts_in T) hr (by decide) (by rfl) (pa_cons (pv 4) pa_nil)) (pe_un un_neg pe_int))) (blkOk_by (own := [("part", 8)]) (N := N_copied) (sc := defScope s_copied) (by decide +kernel)) (fun _ _ _ _ _ => (pg_name (i := 8) sc_copied.nd rfl (Or.inl rfl))) (fun _ _ _ _ _ => pts_nil) (fun _ _ _ _ _ => (pe_tup (pa_cons (pv 8) (pa_cons (pv 6) pa_nil))))) pa_nil))))))))))
      (pss_cons (ps_set (i := 7) sc_copied.nd rfl (Or.inr rfl) (pe_callTy call_list_of (by rfl) T.b_list (by decide +kernel) (pa_cons (pv 1) pa_nil)))
      (pss_cons (ps_for PassesOwn.never rfl (pi_range3 (by rfl) T.b_range (pa_cons (pe_op op_sub (pe_callB call_len (by rfl) T.b_len (by decide +kernel) (pa_cons (pv 1) pa_nil)) pe_int) (pa_cons (pe_un un_neg pe_int) (pa_cons (pe_un un_neg pe_int) pa_nil)))) (pg_name (i := 6) sc_copied.nd rfl (Or.inr rfl))
      (pss_one (ps_asg (C8.pe_c (c_made_anew T) hr (by decide) (by rfl) (pa_cons (pe_ix ix_list (pv 1) (pv 6) (fun _ _ => rfl)) (pa_cons (pe_lc (own := [("one", 9)]) (g := gName 9) (te := (tOp (rIxL K) (tVar 7) (tVar 9))) (by rfl) sc_copied.nd (pi_list (pe_ix ix_list (pv 2) (pv 6) (fun _ _ => rfl))) (blkOk_by (own := [("one", 9)]) (N := N_copied) (sc := defScope s_copied) (by decide +kernel)) (fun _ _ _ _ _ => (pg_name (i := 9) sc_copied.nd rfl (Or.inl rfl))) (fun _ _ _ _ _ => pts_nil) (fun _ _ _ _ _ => (pe_ix ix_list (pv 7) (pv 9) (fun _ _ => rfl)))) pa_nil))) (pg_sub (pv 7) (pv 6) set_list))))
      (pss_one (ps_ret (pe_ix ix_list (pv 7) pe_int (fun _ _ => rfl)))))))), ?_⟩
  refine ⟨Nat.zero_le _, fun N hN => ⟨Nat.zero_le _, fun B hB => ⟨_, rfl, 1, rfl, by show 2 ≤ sizeLine; decide, fun t0 ht0 => ⟨by show 1 ≤ sizeLine; decide, fun L hL => ⟨_, _, _, rfl, ?_⟩⟩⟩⟩⟩
  have s1 := ((same_upd (o := .lst []) hN).trans (same_upd (o := .lst []) hB)).trans ((same_upd (o := .tup [.ref a, .int (-1)]) ht0).trans (same_upd (o := .lst [.ref t0]) hL))
  have hBH : H B = none := none_back (same_upd (o := .lst []) hN) hB
  have hLH : H L = none := none_back ((same_upd (o := .lst []) hN).trans ((same_upd (o := .lst []) hB).trans (same_upd (o := .tup [.ref a, .int (-1)]) ht0))) hL
  have nNB : N ≠ B := fun z => by subst z; rw [upd_same] at hB; cases hB
  have nNt : N ≠ t0 := fun z => by subst z; rw [upd_ne nNB, upd_same] at ht0; cases ht0
  have nBt : B ≠ t0 := fun z => by subst z; rw [upd_same] at ht0; cases ht0
  have nNL : N ≠ L := fun z => by subst z; rw [upd_ne nNt, upd_ne nNB, upd_same] at hL; cases hL
  have nBL : B ≠ L := fun z => by subst z; rw [upd_ne nBt, upd_same] at hL; cases hL
  have ntL : t0 ≠ L := fun z => by subst z; rw [upd_same] at hL; cases hL
  have eN1 : upd (upd (upd (upd H N (.lst [])) B (.lst [])) t0 (.tup [.ref a, .int (-1)])) L (.lst [.ref t0]) N = some (.lst []) := by rw [upd_ne nNL, upd_ne nNt, upd_ne nNB, upd_same]
  have eB1 : upd (upd (upd (upd H N (.lst [])) B (.lst [])) t0 (.tup [.ref a, .int (-1)])) L (.lst [.ref t0]) B = some (.lst []) := by rw [upd_ne nBL, upd_ne nBt, upd_same]
  have eL1 : upd (upd (upd (upd H N (.lst [])) B (.lst [])) t0 (.tup [.ref a, .int (-1)])) L (.lst [.ref t0]) L = some (.lst [.ref t0]) := upd_same
  have et1 : upd (upd (upd (upd H N (.lst [])) B (.lst [])) t0 (.tup [.ref a, .int (-1)])) L (.lst [.ref t0]) t0 = some (.tup [.ref a, .int (-1)]) := by rw [upd_ne ntL, upd_same]
  have s1' : Same H (upd (upd (upd (upd H N (.lst [])) B (.lst [])) t0 (.tup [.ref a, .int (-1)])) L (.lst [.ref t0])) := s1
  show tSeq _ _ _ _ (upd (upd (upd (upd H N (.lst [])) B (.lst [])) t0 (.tup [.ref a, .int (-1)])) L (.lst [.ref t0]))
  generalize upd (upd (upd (upd H N (.lst [])) B (.lst [])) t0 (.tup [.ref a, .int (-1)])) L (.lst [.ref t0]) = H1 at s1' eN1 eB1 eL1 et1
  have al : (V.ref a :: xs).length = xs.length + 1 := rfl
  refine ⟨fun m σ H2 => ∃ j bs ls b0, (∃ x4 x5 x6, σ = [some (.ref a), some (.ref N), some (.ref B), some (.ref L), x4, x5, x6, none, none, none]) ∧ j ≤ xs.length + 1 ∧ Same H H2 ∧ H2 N = some (.lst ((V.ref a :: xs).take j)) ∧ H2 B = some (.lst bs) ∧ bs.length = j ∧ H2 L = some (.lst ls) ∧ All2 (PL H2) ls (restOf a xs j) ∧
      (1 ≤ j → bs[0]? = some (.ref b0) ∧ H2 b0 = some (.lst (ints1 (j - 1))) ∧ b0 ≠ N ∧ b0 ≠ B ∧ b0 ≠ L ∧ H b0 = none) ∧ Bel N B L b0 H2 bs ∧ m = xs.length + 1 - j,
    ⟨_, 0, [], [.ref t0], N, ⟨none, none, none, rfl⟩, by omega, s1', eN1, eB1, rfl, eL1, all2_one ⟨t0, rfl, et1⟩, fun h => absurd h (by omega), fun i u _ h => by simp at h, rfl⟩, ?_⟩
  rintro m σ H2 ⟨j, bs, ls, b0, ⟨z4, z5, z6, rfl⟩, hj, s2, eN, eB, bl, eL, aL, hb0, bel, rfl⟩
  refine ⟨_, rfl, Nat.zero_le _, fun Z hZ => ?_⟩
  have nLZ : L ≠ Z := fun z => by subst z; rw [eL] at hZ; cases hZ
  have t3 := same_upd (o := .lst []) hZ
  refine ⟨L, Z, ls, rfl, rfl, .inl (.inl (t3 _ _ eL)), .inl (.inl upd_same), _, rfl, ite2 (fun h0 => ?_) (fun h0 => ?_)⟩
  · have hj' : j ≤ xs.length := by
      apply Classical.byContradiction
      intro hc
      have e1 : j = xs.length + 1 := by omega
      subst e1
      have l0 := aL.1
      have : restOf a xs (xs.length + 1) = [] := by show (xs.drop xs.length).reverse.map _ = []; simp
      rw [this] at l0
      have : ls = [] := List.length_eq_zero_iff.mp l0
      rw [this] at h0
      cases h0
    obtain ⟨y, i, r, er, ey, ei, er2, er0⟩ := rest_last (a := a) hj'
    rw [er] at aL
    have lsl : ls.length = r.length + 1 := by have := aL.1; simpa using this
    obtain ⟨u, hu, t, rfl, et⟩ := aL.get (i := r.length) (y := (y, i)) (by rw [List.getElem?_append_right (Nat.le_refl _), Nat.sub_self]; rfl)
    have aL' : All2 (PL H2) ls.dropLast r := by
      have h1 := all2_take aL r.length
      rw [List.take_left' rfl] at h1
      rw [List.dropLast_eq_take, lsl]
      exact h1
    have leaf_y : 1 ≤ j → LeafV K H y := fun h1 => by
      obtain ⟨j', rfl⟩ : ∃ j', j = j' + 1 := ⟨j - 1, by omega⟩
      rw [List.getElem?_cons_succ] at ey
      exact lf y (List.mem_of_getElem? ey)
    have y0 : j = 0 → y = .ref a := fun h1 => by subst h1; simpa using ey.symm
    refine ⟨fun σ' H' => ∃ bs ls b0, (∃ x4 x5 x6, σ' = [some (.ref a), some (.ref N), some (.ref B), some (.ref L), x4, x5, x6, none, none, none]) ∧ Same H H' ∧ H' N = some (.lst ((V.ref a :: xs).take (j + 1))) ∧ H' B = some (.lst bs) ∧ bs.length = j + 1 ∧ H' L = some (.lst ls) ∧ All2 (PL H') ls (restOf a xs (j + 1)) ∧
        (bs[0]? = some (.ref b0) ∧ H' b0 = some (.lst (ints1 j)) ∧ b0 ≠ N ∧ b0 ≠ B ∧ b0 ≠ L ∧ H b0 = none) ∧ Bel N B L b0 H' bs,
      fun σ' H' ⟨bs', ls', b0', c1, c2, c3, c4, c5, c6, c7, c8, c9⟩ => ⟨xs.length + 1 - (j + 1), by omega, j + 1, bs', ls', b0', c1, by omega, c2, c3, c4, c5, c6, c7, fun _ => c8, c9, rfl⟩, ?_⟩
    have s3 := s2.trans t3
    have eN3 := t3 _ _ eN
    have eB3 := t3 _ _ eB
    have eL3 := t3 _ _ eL
    generalize upd H2 Z (.lst []) = H3 at t3 s3 eN3 eB3 eL3
    refine ⟨_, rfl, .inl ⟨rfl, ls, .inl (.inl eL3)⟩, L, ls, _, rfl, rfl, eL3, by rw [lsl, Nat.add_sub_cancel]; exact hu, ?_⟩
    have sn4 : SameN H3 (upd H3 L (.lst ls.dropLast)) := sameN_upd eL3 (fun z => z)
    have s4 : Same H (upd H3 L (.lst ls.dropLast)) := same_at s3 hLH
    have eN4 : upd H3 L (.lst ls.dropLast) N = some (.lst ((V.ref a :: xs).take j)) := by rw [upd_ne nNL]; exact eN3
    have eB4 : upd H3 L (.lst ls.dropLast) B = some (.lst bs) := by rw [upd_ne nBL]; exact eB3
    have eL4 : upd H3 L (.lst ls.dropLast) L = some (.lst ls.dropLast) := upd_same
    have of4 : Off N B L b0 H2 (upd H3 L (.lst ls.dropLast)) := fun b o _ _ h3 _ e => by rw [upd_ne h3]; exact t3 _ _ e
    have of4' : ∀ b o, b ≠ L → H2 b = some o → upd H3 L (.lst ls.dropLast) b = some o := fun b o h3 e => by rw [upd_ne h3]; exact t3 _ _ e
    have n24 : SameN H2 (upd H3 L (.lst ls.dropLast)) := (same_n t3).trans sn4
    generalize upd H3 L (.lst ls.dropLast) = H4 at s4 eN4 eB4 eL4 of4 of4' n24
    refine ⟨t, _, rfl, .inl (.inl (n24 _ _ et trivial)), rfl, _, _, rfl, _, _, rfl, rfl, ?_⟩
    have ntk : ((V.ref a :: xs).take j).length = j := by rw [List.length_take]; omega
    refine ⟨_, rfl, _, j, rfl, .inl ⟨_, .inl (.inl eN4), ntk.symm⟩, ?_⟩
    refine ⟨_, rfl, .inl ⟨rfl, _, .inl (.inl eN4)⟩, _, rfl, N, _, _, rfl, rfl, eN4, Nat.lt_of_le_of_lt (by omega : ((V.ref a :: xs).take j).length ≤ 51) (by decide), ?_⟩
    have etk : (V.ref a :: xs).take j ++ [y] = (V.ref a :: xs).take (j + 1) := by rw [List.take_add_one, ey]; rfl
    rw [etk]
    have s5 : Same H (upd H4 N (.lst ((V.ref a :: xs).take (j + 1)))) := same_at s4 hN
    have eN5 : upd H4 N (.lst ((V.ref a :: xs).take (j + 1))) N = some (.lst ((V.ref a :: xs).take (j + 1))) := upd_same
    have eB5 : upd H4 N (.lst ((V.ref a :: xs).take (j + 1))) B = some (.lst bs) := by rw [upd_ne nNB.symm]; exact eB4
    have eL5 : upd H4 N (.lst ((V.ref a :: xs).take (j + 1))) L = some (.lst ls.dropLast) := by rw [upd_ne nNL.symm]; exact eL4
    have of5 : ∀ b o, b ≠ N → b ≠ L → H2 b = some o → upd H4 N (.lst ((V.ref a :: xs).take (j + 1))) b = some o := fun b o h1 h3 e => by rw [upd_ne h1]; exact of4' b o h3 e
    have n25 : SameN H2 (upd H4 N (.lst ((V.ref a :: xs).take (j + 1)))) := n24.trans (sameN_upd eN4 (fun z => z))
    generalize upd H4 N (.lst ((V.ref a :: xs).take (j + 1))) = H5 at s5 eN5 eB5 eL5 of5 n25
    refine ⟨_, rfl, .inl ⟨rfl, _, .inl (.inl eB5)⟩, Nat.zero_le _, fun c hc => ⟨B, bs, _, rfl, rfl, same_upd hc _ _ eB5, Nat.lt_of_le_of_lt (by omega : bs.length ≤ 51) (by decide), ?_⟩⟩
    have cN : c ≠ N := fun z => by subst z; rw [eN5] at hc; cases hc
    have cB : c ≠ B := fun z => by subst z; rw [eB5] at hc; cases hc
    have cL : c ≠ L := fun z => by subst z; rw [eL5] at hc; cases hc
    have cH : H c = none := none_back s5 hc
    have s6 : Same H (upd (upd H5 c (.lst [])) B (.lst (bs ++ [.ref c]))) := same_at (s5.trans (same_upd hc)) hBH
    have eN6 : upd (upd H5 c (.lst [])) B (.lst (bs ++ [.ref c])) N = some (.lst ((V.ref a :: xs).take (j + 1))) := by rw [upd_ne nNB, upd_ne cN.symm]; exact eN5
    have eB6 : upd (upd H5 c (.lst [])) B (.lst (bs ++ [.ref c])) B = some (.lst (bs ++ [.ref c])) := upd_same
    have eL6 : upd (upd H5 c (.lst [])) B (.lst (bs ++ [.ref c])) L = some (.lst ls.dropLast) := by rw [upd_ne nBL.symm, upd_ne cL.symm]; exact eL5
    have ec6 : upd (upd H5 c (.lst [])) B (.lst (bs ++ [.ref c])) c = some (.lst []) := by rw [upd_ne cB, upd_same]
    have of6 : ∀ b o, b ≠ N → b ≠ B → b ≠ L → H2 b = some o → upd (upd H5 c (.lst [])) B (.lst (bs ++ [.ref c])) b = some o := fun b o h1 h2 h3 e => by
      have := of5 b o h1 h3 e
      rw [upd_ne h2, upd_ne (fun z => by rw [z, hc] at this; cases this)]
      exact this
    have n26 : SameN H2 (upd (upd H5 c (.lst [])) B (.lst (bs ++ [.ref c]))) := n25.trans ((sameN_new hc).trans (sameN_upd (same_upd hc _ _ eB5) (fun z => z)))
    have cb2 : ∀ b o, b ≠ N → b ≠ L → H2 b = some o → c ≠ b := fun b o h1 h3 e z => by
      subst z
      have := of5 c o h1 h3 e
      rw [hc] at this
      cases this
    generalize upd (upd H5 c (.lst [])) B (.lst (bs ++ [.ref c])) = H6 at s6 eN6 eB6 eL6 ec6 of6 n26
    have bel7 : ∀ (H7 : Hp), (∀ b o, b ≠ N → b ≠ B → b ≠ L → b ≠ b0 → H6 b = some o → H7 b = some o) → 1 ≤ j → Bel N B L b0 H7 (bs ++ [.ref c]) := fun H7 h7 h1j ii u' hi' hu' => by
      obtain ⟨hbs, hb1, hbN, hbB, hbL, hbH⟩ := hb0 h1j
      have ncb : c ≠ b0 := cb2 b0 _ hbN hbL hb1
      by_cases hlt : ii < bs.length
      · rw [List.getElem?_append_left hlt] at hu'
        obtain ⟨c', rfl, e', h1, h2, h3, h4⟩ := bel ii u' hi' hu'
        exact ⟨c', rfl, h7 _ _ h1 h2 h3 h4 (of6 _ _ h1 h2 h3 e'), h1, h2, h3, h4⟩
      · have : ii = bs.length := by
          have := (List.getElem?_eq_some_iff.mp hu').1
          rw [List.length_append] at this
          have h1 : [V.ref c].length = 1 := rfl
          omega
        subst this
        rw [List.getElem?_append_right (Nat.le_refl _), Nat.sub_self] at hu'
        cases hu'
        exact ⟨c, rfl, h7 _ _ cN cB cL ncb ec6, cN, cB, cL, ncb⟩
    rcases Nat.eq_zero_or_pos j with hz | hpos
    · have ei0 : i = -1 := by rw [ei, if_pos hz]
      have yy := y0 hz
      subst ei0
      refine ⟨_, rfl, _, _, rfl, rfl, false, rfl, iteF ?_⟩
      have s7 := s6
      have eN7 := eN6
      have eB7 := eB6
      have eL7 := eL6
      have n27 := n26
      refine ⟨_, rfl, .inl ⟨rfl, _, .inl (.inl eL7)⟩, _, rfl, y, xs, rfl, .inl ⟨a, yy ▸ rfl, s7 _ _ e⟩, fun H8 pp s8 epp => ?_⟩
      refine ⟨_, rfl, _, rfl, rfl, pp, xs, rfl, .inl (.inl epp), fun p2 hp2 => ⟨p2, rfl, ⟨_, .inl (.inl upd_same)⟩, fun D hD => ?_⟩⟩
      have s78 := s8.trans (same_upd (o := .lst (xs).reverse) hp2)
      have ep2 : upd H8 p2 (.lst (xs).reverse) p2 = some (.lst (xs).reverse) := upd_same
      generalize upd H8 p2 (.lst (xs).reverse) = H9 at s78 ep2 hD
      refine lcm walk_list hD (Nat.le_trans (by simp; try omega : (xs).reverse.length ≤ 50) (by decide)) (fun _ => true) (fun jj u H1 => ∃ x, (xs).reverse[jj]? = some x ∧ PL H1 u (x, (j : Int))) (fun jj u H1 H2 s z => ?_) (fun H1 s => .inl (.inl (s _ _ ep2))) (fun jj x H12 H1 kN' kY hjj s u kn ky => ?_) (fun H10 ys s10 e10 kp => ?_)
      · obtain ⟨x, h1, h2⟩ := z
        exact ⟨x, h1, h2.n s⟩
      · obtain ⟨rfl, hx⟩ := u
        exact ⟨rfl, yes ⟨_, rfl, _, rfl, by show 2 ≤ sizeLine; decide, fun q hq => ky _ _ (same_upd hq) rfl ⟨x, hx, q, rfl, upd_same⟩⟩⟩
      obtain ⟨l1, l2⟩ := kp.all
      have s710 := s78.trans s10
      have eL10 := s710 _ _ eL7
      have lys : ls.dropLast.length + ys.length ≤ 200 := by
        have := aL'.1
        have h1 : (xs).reverse.length ≤ 50 := by simp; try omega
        have h2 : r.length ≤ 50 := by
          by_cases hz : j = 0
          · rw [er0 hz]; simp
          · rw [er2 (by omega)]
            show ((xs.drop j).reverse.map _).length ≤ 50
            simp
            omega
        omega
      refine ⟨L, D, _, ys, rfl, rfl, eL10, e10, Nat.le_trans lys (by decide), ⟨bs ++ [.ref c], ls.dropLast ++ ys, c, ⟨_, _, _, rfl⟩, same_at (s7.trans s710) hLH, ?_, ?_, by rw [List.length_append, bl]; rfl, upd_same, ?_, ?_, ?_⟩⟩
      · rw [upd_ne nNL]; exact s710 _ _ eN7
      · rw [upd_ne nBL]; exact s710 _ _ eB7
      · have nn : SameN H2 (upd H10 L (.lst (ls.dropLast ++ ys))) := n27.trans ((same_n s710).trans (sameN_upd eL10 (fun z => z)))
        have aY : All2 (PL (upd H10 L (.lst (ls.dropLast ++ ys)))) ys ((xs).reverse.map fun x => (x, (j : Int))) := all2_of (by rw [l1, List.length_map]) fun jj u hu => by
          obtain ⟨x, h1, h2⟩ := l2 jj u hu
          exact ⟨(x, (j : Int)), by rw [List.getElem?_map, h1]; rfl, h2.n (sameN_upd eL10 (fun z => z))⟩
        have aA := all2_append (aL'.imp fun x y z => z.n nn) aY
        subst hz
        rw [er0 rfl] at aA
        exact aA
      · refine ⟨?_, ?_, cN, cB, cL, cH⟩
        · rw [List.length_eq_zero_iff.mp (bl.trans hz)]; rfl
        · rw [upd_ne cL]
          subst hz
          exact s710 _ _ ec6
      · intro ii u' hi' hu'
        rw [List.length_eq_zero_iff.mp (bl.trans hz)] at hu'
        have := (List.getElem?_eq_some_iff.mp hu').1
        have h1 : ([] ++ [V.ref c]).length = 1 := rfl
        omega
    · have ei0 : i = 0 := by rw [ei, if_neg (by omega)]
      subst ei0
      obtain ⟨hbs, hb1, hbN, hbB, hbL, hbH⟩ := hb0 hpos
      have eb6 := of6 _ _ hbN hbB hbL hb1
      refine ⟨_, rfl, _, _, rfl, rfl, true, rfl, iteT ?_⟩
      have g0 : (bs ++ [V.ref c])[0]? = some (.ref b0) := by rw [List.getElem?_append_left (by omega)]; exact hbs
      refine ⟨_, rfl, _, rfl, B, _, 0, _, rfl, rfl, .inl (.inl eB6), atI_nat g0, .inl ⟨rfl, _, .inl (.inl eb6)⟩, _, rfl, b0, _, _, rfl, rfl, eb6, Nat.lt_of_le_of_lt (by unfold ints1; rw [List.length_map, List.length_range]; omega : (ints1 (j - 1)).length ≤ 51) (by decide), ?_⟩
      have ei1 : ints1 (j - 1) ++ [V.int (j : Int)] = ints1 j := by
        have := ints1_succ (j - 1)
        rw [show j - 1 + 1 = j by omega] at this
        exact this
      rw [ei1]
      have ncb : c ≠ b0 := cb2 b0 _ hbN hbL hb1
      have s7 : Same H (upd H6 b0 (.lst (ints1 j))) := same_at s6 hbH
      have eN7 : upd H6 b0 (.lst (ints1 j)) N = some (.lst ((V.ref a :: xs).take (j + 1))) := by rw [upd_ne hbN.symm]; exact eN6
      have eB7 : upd H6 b0 (.lst (ints1 j)) B = some (.lst (bs ++ [.ref c])) := by rw [upd_ne hbB.symm]; exact eB6
      have eL7 : upd H6 b0 (.lst (ints1 j)) L = some (.lst ls.dropLast) := by rw [upd_ne hbL.symm]; exact eL6
      have n27 : SameN H2 (upd H6 b0 (.lst (ints1 j))) := n26.trans (sameN_upd eb6 (fun z => z))
      have ob7 : ∀ b o, b ≠ N → b ≠ B → b ≠ L → b ≠ b0 → H6 b = some o → upd H6 b0 (.lst (ints1 j)) b = some o := fun b o _ _ _ h4 e => by rw [upd_ne h4]; exact e
      have eb7 : upd H6 b0 (.lst (ints1 j)) b0 = some (.lst (ints1 j)) := upd_same
      generalize upd H6 b0 (.lst (ints1 j)) = H7 at s7 eN7 eB7 eL7 n27 ob7 eb7
      refine ⟨_, rfl, .inl ⟨rfl, _, .inl (.inl eL7)⟩, _, rfl, y, ([] : List V), rfl, .inr ⟨rfl, (leaf_y hpos).n (same_n s7)⟩, fun H8 pp s8 epp => ?_⟩
      refine ⟨_, rfl, _, rfl, rfl, pp, ([] : List V), rfl, .inl (.inl epp), fun p2 hp2 => ⟨p2, rfl, ⟨_, .inl (.inl upd_same)⟩, fun D hD => ?_⟩⟩
      have s78 := s8.trans (same_upd (o := .lst (([] : List V)).reverse) hp2)
      have ep2 : upd H8 p2 (.lst (([] : List V)).reverse) p2 = some (.lst (([] : List V)).reverse) := upd_same
      generalize upd H8 p2 (.lst (([] : List V)).reverse) = H9 at s78 ep2 hD
      refine lcm walk_list hD (Nat.le_trans (by simp; try omega : (([] : List V)).reverse.length ≤ 50) (by decide)) (fun _ => true) (fun jj u H1 => ∃ x, (([] : List V)).reverse[jj]? = some x ∧ PL H1 u (x, (j : Int))) (fun jj u H1 H2 s z => ?_) (fun H1 s => .inl (.inl (s _ _ ep2))) (fun jj x H12 H1 kN' kY hjj s u kn ky => ?_) (fun H10 ys s10 e10 kp => ?_)
      · obtain ⟨x, h1, h2⟩ := z
        exact ⟨x, h1, h2.n s⟩
      · obtain ⟨rfl, hx⟩ := u
        exact ⟨rfl, yes ⟨_, rfl, _, rfl, by show 2 ≤ sizeLine; decide, fun q hq => ky _ _ (same_upd hq) rfl ⟨x, hx, q, rfl, upd_same⟩⟩⟩
      obtain ⟨l1, l2⟩ := kp.all
      have s710 := s78.trans s10
      have eL10 := s710 _ _ eL7
      have lys : ls.dropLast.length + ys.length ≤ 200 := by
        have := aL'.1
        have h1 : (([] : List V)).reverse.length ≤ 50 := by simp; try omega
        have h2 : r.length ≤ 50 := by
          by_cases hz : j = 0
          · rw [er0 hz]; simp
          · rw [er2 (by omega)]
            show ((xs.drop j).reverse.map _).length ≤ 50
            simp
            omega
        omega
      refine ⟨L, D, _, ys, rfl, rfl, eL10, e10, Nat.le_trans lys (by decide), ⟨bs ++ [.ref c], ls.dropLast ++ ys, b0, ⟨_, _, _, rfl⟩, same_at (s7.trans s710) hLH, ?_, ?_, by rw [List.length_append, bl]; rfl, upd_same, ?_, ?_, ?_⟩⟩
      · rw [upd_ne nNL]; exact s710 _ _ eN7
      · rw [upd_ne nBL]; exact s710 _ _ eB7
      · have nn : SameN H2 (upd H10 L (.lst (ls.dropLast ++ ys))) := n27.trans ((same_n s710).trans (sameN_upd eL10 (fun z => z)))
        have aY : All2 (PL (upd H10 L (.lst (ls.dropLast ++ ys)))) ys ((([] : List V)).reverse.map fun x => (x, (j : Int))) := all2_of (by rw [l1, List.length_map]) fun jj u hu => by
          obtain ⟨x, h1, h2⟩ := l2 jj u hu
          exact ⟨(x, (j : Int)), by rw [List.getElem?_map, h1]; rfl, h2.n (sameN_upd eL10 (fun z => z))⟩
        have aA := all2_append (aL'.imp fun x y z => z.n nn) aY
        have y0 : ys = [] := List.length_eq_zero_iff.mp (by rw [l1]; rfl)
        rw [er2 hpos] at aA
        simpa using aA
      · refine ⟨g0, ?_, hbN, hbB, hbL, hbH⟩
        rw [upd_ne hbL]
        exact s710 _ _ eb7
      · refine bel7 _ (fun b o h1 h2 h3 h4 e => ?_) hpos
        rw [upd_ne h3]
        exact s710 _ _ (ob7 b o h1 h2 h3 h4 e)
  · have lsn : ls = [] := by
      cases ls with
      | nil => rfl
      | cons u r => exact absurd rfl h0
    have hjn : j = xs.length + 1 := by
      apply Classical.byContradiction
      intro hc
      obtain ⟨y, i, r, er, _⟩ := rest_last (a := a) (xs := xs) (j := j) (by omega)
      have := aL.1
      rw [er, lsn] at this
      simp at this
    subst hjn
    have s3 := s2.trans t3
    have eN3 := t3 _ _ eN
    have eB3 := t3 _ _ eB
    obtain ⟨hbs, hb1, hbN, hbB, hbL, hbH⟩ := hb0 (by omega)
    have eb3 := t3 _ _ hb1
    have bel3 : Bel N B L b0 (upd H2 Z (.lst [])) bs := bel.off fun b o _ _ _ _ e => t3 _ _ e
    generalize upd H2 Z (.lst []) = H3 at s3 eN3 eB3 eb3 bel3
    have tka : (V.ref a :: xs).take (xs.length + 1) = V.ref a :: xs := List.take_of_length_le (Nat.le_refl _)
    rw [tka] at eN3
    have SN : SqL K H3 N (V.ref a :: xs) := .inl (.inl eN3)
    refine ⟨_, rfl, N, _, rfl, .inl SN, fun Fd hFd => ?_⟩
    have s4 := s3.trans (same_upd (o := .lst (V.ref a :: xs)) hFd)
    have t4 := same_upd (o := .lst (V.ref a :: xs)) hFd
    refine ⟨_, rfl, _, xs.length + 1, rfl, .inl ⟨_, .inl (.inl (t4 _ _ eN3)), rfl⟩, _, _, rfl, rfl, ?_⟩
    refine ⟨1, rfl, 1, rfl, _, _, _, xs.length + 1, rfl, ?_, ?_⟩
    · have := RgC.neg (i := (((xs.length + 1 : Nat) : Int) - 1)) (j := -1) (by omega) (by omega) (by omega) (by omega)
      rw [show ((((xs.length + 1 : Nat) : Int) - 1) - (-1)).toNat = xs.length + 1 by omega] at this
      exact this
    refine for_it walk_rangeC (fun i σ H6 => (∃ x4 x5 x6 x9, σ = [some (.ref a), some (.ref N), some (.ref B), some (.ref L), x4, x5, x6, some (.ref Fd), none, x9]) ∧ Same H3 H6 ∧ ∃ fs, H6 Fd = some (.lst fs) ∧ (i ≤ xs.length → fs = V.ref a :: xs) ∧ (i = xs.length + 1 → ∃ Tt, fs = V.ref Tt :: xs ∧ H6 Tt = some (.tup xs)))
      ⟨⟨z4, z5, z6, none, rfl⟩, t4, _, upd_same, fun _ => rfl, fun h => absurd h (by omega)⟩ (fun i σ H2 _ p => trivial) ?_ ?_
    · rintro i x σ H6 H7 hi ⟨⟨x4, x5, x6, x9, rfl⟩, s6, fs, eF, hf, _⟩ ⟨rfl, ex⟩
      have ef := hf (by omega)
      subst ef
      obtain rfl : x = V.int ((xs.length - i : Nat) : Int) := ex.trans (congrArg V.int (by omega))
      have hg : ∃ y, (V.ref a :: xs)[xs.length - i]? = some y := ⟨_, List.getElem?_eq_getElem (by show _ < xs.length + 1; omega)⟩
      obtain ⟨y, hy⟩ := hg
      have eN6 := s6 _ _ eN3
      have eB6 := s6 _ _ eB3
      have hFH : H Fd = none := none_back s3 hFd
      by_cases hz : i = xs.length
      · subst hz
        rw [Nat.sub_self] at hy ⊢
        obtain rfl : V.ref a = y := by simpa using hy
        have eb6 := s6 _ _ eb3
        refine ⟨_, rfl, _, rfl, N, _, _, _, rfl, rfl, .inl (.inl eN6), atI_nat hy, ?_⟩
        refine ⟨_, rfl, _, rfl, B, bs, _, _, rfl, rfl, .inl (.inl eB6), atI_nat hbs, b0, rfl, ⟨_, .inl (.inl eb6)⟩, fun D hD => ?_⟩
        have il : (ints1 (xs.length + 1 - 1)).length = xs.length := by unfold ints1; rw [List.length_map, List.length_range]; rfl
        refine lcm walk_list hD (Nat.le_trans (by omega : (ints1 (xs.length + 1 - 1)).length ≤ 50) (by decide)) (fun _ => true) (fun jj u _ => xs[jj]? = some u) (fun _ _ _ _ _ h => h) (fun H1 s => .inl (.inl (s _ _ eb6))) (fun jj x H12 H1 kN' kY hjj s u kn ky => ?_) (fun H10 ys s10 e10 kp => ?_)
        · obtain ⟨rfl, hx⟩ := u
          have hjn : jj < xs.length := by omega
          have hxe : x = V.int ((jj + 1 : Nat) : Int) := by
            unfold ints1 at hx
            rw [List.getElem?_map, List.getElem?_range (by omega)] at hx
            cases hx
            rfl
          subst hxe
          have hv := List.getElem?_eq_getElem hjn
          refine ⟨rfl, yes ⟨_, rfl, _, rfl, Fd, _, _, _, rfl, rfl, .inl (.inl (s _ _ eF)), atI_nat (by rw [List.getElem?_cons_succ]; exact hv), ky _ _ (Same.refl _) rfl hv⟩⟩
        obtain ⟨l1, l2⟩ := kp.all
        have eys : ys = xs := by
          apply List.ext_getElem?
          intro jj
          by_cases hh : jj < ys.length
          · rw [List.getElem?_eq_getElem hh]
            exact (l2 jj _ (List.getElem?_eq_getElem hh)).symm
          · rw [List.getElem?_eq_none (by omega), List.getElem?_eq_none (by omega)]
        subst eys
        refine ⟨_, D, _, rfl, e10, .inl ⟨⟨a, _, rfl, (s3.trans (s6.trans s10)) _ _ e⟩, fun H11 Tt s11 eT => ?_⟩⟩
        have eF11 := (s10.trans s11) _ _ eF
        refine ⟨_, rfl, _, rfl, Fd, _, _, 0, rfl, rfl, eF11, ix_nat (by show 0 < _ + 1; omega), ?_⟩
        refine ⟨⟨_, _, _, _, rfl⟩, same_at (s6.trans (s10.trans s11)) hFd, _, upd_same, fun h => absurd h (by omega), fun _ => ⟨Tt, rfl, ?_⟩⟩
        rw [upd_ne (fun z => by subst z; rw [eF11] at eT; cases eT)]
        exact eT
      · have hpos : 1 ≤ xs.length - i := by omega
        have hxy : xs[xs.length - i - 1]? = some y := by
          have : (V.ref a :: xs)[xs.length - i - 1 + 1]? = some y := by rw [show xs.length - i - 1 + 1 = xs.length - i by omega]; exact hy
          rwa [List.getElem?_cons_succ] at this
        have ly := (lf y (List.mem_of_getElem? hxy))
        obtain ⟨u, hu⟩ : ∃ u, bs[xs.length - i]? = some u := ⟨_, List.getElem?_eq_getElem (by omega)⟩
        obtain ⟨c, rfl, ec, _⟩ := bel3 _ u hpos hu
        refine ⟨_, rfl, _, rfl, N, _, _, _, rfl, rfl, .inl (.inl eN6), atI_nat hy, ?_⟩
        refine ⟨_, rfl, _, rfl, B, bs, _, _, rfl, rfl, .inl (.inl eB6), atI_nat hu, c, rfl, ⟨_, .inl (.inl (s6 _ _ ec))⟩, fun D hD => ?_⟩
        refine lcm walk_list hD (Nat.zero_le _) (fun _ => true) (fun jj u _ => True) (fun _ _ _ _ _ h => h) (fun H1 s => .inl (.inl (s _ _ (s6 _ _ ec)))) (fun jj x H12 H1 kN' kY hjj s u kn ky => absurd hjj (Nat.not_lt_zero _)) (fun H10 ys s10 e10 kp => ?_)
        refine ⟨_, D, _, rfl, e10, .inr ⟨ly.n (same_n (s3.trans (s6.trans s10))), ?_⟩⟩
        have eF10 := s10 _ _ eF
        refine ⟨_, rfl, _, rfl, Fd, _, _, xs.length - i, rfl, rfl, eF10, ix_nat (by show _ < xs.length + 1; omega), ?_⟩
        have hset : (V.ref a :: xs).set (xs.length - i) y = V.ref a :: xs := by
          apply List.ext_getElem?
          intro q
          by_cases hq : q = xs.length - i
          · subst hq
            rw [List.getElem?_set_self (by show _ < xs.length + 1; omega), hy]
          · rw [List.getElem?_set_ne (Ne.symm hq)]
        exact ⟨⟨_, _, _, _, rfl⟩, same_at (s6.trans s10) hFd, _, upd_same, fun _ => hset, fun h => absurd h (by omega)⟩
    · rintro σ H6 ⟨⟨x4, x5, x6, x9, rfl⟩, s6, fs, eF, _, hf⟩
      obtain ⟨Tt, rfl, eT⟩ := hf rfl
      refine ⟨_, rfl, Fd, _, 0, .ref Tt, rfl, rfl, .inl (.inl eF), atI_nat (j := 0) rfl, ?_⟩
      exact k H6 Tt (s3.trans s6) eT
end
end Lc
set_option Elab.async false
set_option linter.all false
set_option maxRecDepth 100000
set_option maxHeartbeats 4000000
namespace Lc
open PySem PySem.Spec PyProof.Rows L2 LcR
open LC (Sz Had mean)
section
variable {P : Program} {w : World} {K : PySem.W.Frag} {mg : Str → Option Value} {base : Heap}
theorem LeafV.x {H H' : Hp} {v : V} {x C dx : Addr} {fs : List (Str × V)} (h : LeafV K H v) (s : SameX x H H') (e : H x = some (.ins C dx fs)) (hC : fs.length ≠ 2) : LeafV K H' v := by
  rcases h with h | h | ⟨q, a, d, rfl, ea⟩
  · exact .inl h
  · exact .inr (.inl h)
  · refine .inr (.inr ⟨q, a, d, rfl, s _ _ (fun z => ?_) ea⟩)
    subst z
    rw [ea] at e
    cases e
    exact hC rfl
def sp_Coming_init (K : PySem.W.Frag) : Sp := fun vs H Q _ => ∃ (x dx a1 a2 a3 : Addr) (x1 x2 x3 : List V), vs = [.ref x, .ref a1, .ref a2, .ref a3] ∧ H x = some (.ins (CComing K) dx []) ∧ H a1 = some (.tup x1) ∧ H a2 = some (.tup x2) ∧ H a3 = some (.tup x3) ∧
  (∀ y ∈ x1, LeafV K H y) ∧ (∀ y ∈ x2, LeafV K H y) ∧ (∀ y ∈ x3, LeafV K H y) ∧ x1.length ≤ 50 ∧ x2.length ≤ 50 ∧ x3.length ≤ 50 ∧
  ∀ H' b1 b2 b3, SameX x H H' → H' x = some (.ins (CComing K) dx [("numbers", .ref b1), ("picks", .ref b2), ("ranks", .ref b3)]) → H' b1 = some (.tup x1) → H' b2 = some (.tup x2) → H' b3 = some (.tup x3) → Q .non H'
theorem ok_Coming_init (T : Tx K mg) {f : Addr} {fd : FuncData} (F : FunD K "__init__" "Coming.__init__" (defArgs s_Coming_init) (defBody s_Coming_init) (defScope s_Coming_init) [] [] f fd) : FnOk P w K mg base CX0 3 f fd P_Coming_init (sp_Coming_init K) := by
  refine fnD F sc_Coming_init (fun vs H Q E h => ?_) (fun cdv A outer s H vs Q E hr h => ?_)
  · obtain ⟨_, _, _, _, _, _, _, _, rfl, _⟩ := h; rfl
  obtain ⟨x, dx, a1, a2, a3, x1, x2, x3, rfl, hx, e1, e2, e3, l1, l2, l3, m1, m2, m3, k⟩ := h
  refine ⟨_, (pss_cons (ps_fld (pv 0) (C8.pe_c (c_copied T) hr (by decide) (by rfl) (pa_cons (pv 1) pa_nil)) rfl)
      (pss_cons (ps_fld (pv 0) (C8.pe_c (c_copied T) hr (by decide) (by rfl) (pa_cons (pv 2) pa_nil)) rfl)
      (pss_one (ps_fld (pv 0) (C8.pe_c (c_copied T) hr (by decide) (by rfl) (pa_cons (pv 3) pa_nil)) rfl)))), ?_⟩
  have nt : ∀ {b ys}, H b = some (.tup ys) → b ≠ x := fun {b ys} hb z => by subst z; rw [hb] at hx; cases hx
  refine ⟨_, rfl, a1, x1, rfl, e1, l1, m1, fun H1 b1 s1 f1 => ?_⟩
  refine ⟨_, rfl, x, _, dx, _, rfl, s1 _ _ hx, T.cl_Coming, T.na_Coming_numbers, by decide, ?_⟩
  generalize hG1 : upd H1 x _ = G1
  have u1 : SameX x H G1 := hG1 ▸ (SameX.of s1).trans SameX.at_
  have g1 : G1 x = some (.ins (CComing K) dx [("numbers", .ref b1)]) := hG1 ▸ upd_same
  have nb1 : b1 ≠ x := fun z => by subst z; rw [s1 _ _ hx] at f1; cases f1
  have f1' : G1 b1 = some (.tup x1) := by rw [← hG1, upd_ne nb1]; exact f1
  refine ⟨_, rfl, a2, x2, rfl, u1 _ _ (nt e2) e2, fun y hy => (l2 y hy).x u1 hx (by decide), m2, fun H2 b2 s2 f2 => ?_⟩
  refine ⟨_, rfl, x, _, dx, _, rfl, s2 _ _ g1, T.cl_Coming, T.na_Coming_picks, by show 1 < 1000; decide, ?_⟩
  generalize hG2 : upd H2 x _ = G2
  have u2 : SameX x G1 G2 := hG2 ▸ (SameX.of s2).trans SameX.at_
  have g2 : G2 x = some (.ins (CComing K) dx [("numbers", .ref b1), ("picks", .ref b2)]) := hG2 ▸ upd_same
  have u12 := u1.trans u2
  refine ⟨_, rfl, a3, x3, rfl, u12 _ _ (nt e3) e3, fun y hy => (l3 y hy).x u12 hx (by decide), m3, fun H3 b3 s3 f3 => ?_⟩
  refine ⟨_, rfl, x, _, dx, _, rfl, s3 _ _ g2, T.cl_Coming, T.na_Coming_ranks, by show 2 < 1000; decide, ?_⟩
  have u3 : ∀ o, SameX x G2 (upd H3 x o) := fun o => (SameX.of s3).trans SameX.at_
  have nb2 : b2 ≠ x := fun z => by subst z; rw [s2 _ _ g1] at f2; cases f2
  have nb3 : b3 ≠ x := fun z => by subst z; rw [s3 _ _ g2] at f3; cases f3
  have f2' : G2 b2 = some (.tup x2) := by rw [← hG2, upd_ne nb2]; exact f2
  refine k _ b1 b2 b3 (u12.trans (u3 _)) upd_same ?_ ?_ ?_
  · exact u3 _ _ _ nb1 (u2 _ _ nb1 f1')
  · exact u3 _ _ _ nb2 f2'
  · rw [upd_ne nb3]; exact f3
theorem c_Coming (T : Tx K mg) : C8.Mak P w K mg base 3 "Coming" (CComing K) (sp_Coming_init K) [] := by
  obtain ⟨fd, F⟩ := T.f_Coming_init
  exact ⟨_, fd, P_Coming_init, [], T.mk_Coming, ok_Coming_init T F, T.g_Coming, F.bindsN (fun _ _ _ _ _ _ us hl => match us, hl with | [_, _, _, _], _ => rfl), .nil⟩
theorem asc_lt {g : List Nat} (h : Asc g) : g.Pairwise (· < ·) := by
  have key : ∀ (d i : Nat) x y, g[i]? = some x → g[i + d + 1]? = some y → x < y := by
    intro d
    induction d with
    | zero => exact fun i x y a b => h i x y a b
    | succ d ih =>
      intro i x y hx hy
      have hl := (List.getElem?_eq_some_iff.mp hy).1
      obtain ⟨z, hz⟩ : ∃ z, g[i + d + 1]? = some z := ⟨_, List.getElem?_eq_getElem (by omega)⟩
      have h1 := ih i x z hx hz
      have h2 := h (i + d + 1) z y hz hy
      omega
  rw [List.pairwise_iff_getElem]
  intro i j hi hj hij
  exact key (j - i - 1) i _ _ (List.getElem?_eq_getElem hi) (by rw [show i + (j - i - 1) + 1 = j by omega]; exact List.getElem?_eq_getElem hj)
/-- a Coming with numbers, picks and ranks -/
def ComV (K : PySem.W.Frag) (H : Hp) (v : V) (q : List Rat) (p : List (Option Nat)) (r : List Nat) : Prop := ∃ x dx a b c us, v = .ref x ∧ H x = some (.ins (CComing K) dx [("numbers", .ref a), ("picks", .ref b), ("ranks", .ref c)]) ∧ H a = some (.tup us) ∧ All2 (IsR K H) us q ∧ H b = some (.tup (p.map pickV)) ∧ H c = some (.tup (r.map fun k : Nat => V.int (k : Int)))
theorem ComV.n {K : PySem.W.Frag} {H H' : Hp} {v : V} {q : List Rat} {p : List (Option Nat)} {r : List Nat} (h : ComV K H v q p r) (s : SameN H H') : ComV K H' v q p r := by
  obtain ⟨x, dx, a, b, c, us, rfl, e, ea, al, eb, ec⟩ := h
  exact ⟨x, dx, a, b, c, us, rfl, s _ _ e trivial, s _ _ ea trivial, al.imp fun x y z => z.n s, s _ _ eb trivial, s _ _ ec trivial⟩
/-- what greatest_coming tells -/
structure GreatS (n : Nat) (l : List ActD) (g : List Nat) (q : List Rat) (p : List (Option Nat)) (r : List Nat) : Prop where
  ql : q.length = n
  ex : ∃ p0 far far', PkOk n l g p0 ∧ Had (hsOf n l) g (pk p0) (numN q) far ∧ p = keptP n q p0 ∧ r = ((List.range n).map fun i => (far' i).getD 0) ∧ LC.FarOk (hsOf n l) g (pk p) far'
  sz : ∀ x ∈ q, Sz 2169 2158 x
  up : ∀ (i : Nat) (d : ActD), l[i]? = some d → mean (numN q) (prs d) ≤ numN q d.1
  run : ∃ p0 pf far far', FirstRun l (List.replicate n none, g, g) p0 ∧ BestRun n l g p0 pf ∧ PkOk n l g pf ∧ Had (hsOf n l) g (pk pf) (numN q) far ∧ p = keptP n q pf ∧ LedRun n l (keptP n q pf) (farOf g (pk (keptP n q pf)), g.filter fun s => (pk (keptP n q pf) s).isNone) far' ∧ r = (List.range n).map fun i => (far' i).getD 0
/-- one house and one goal have one greatest coming -/
theorem GreatS.det {n : Nat} {l : List ActD} {g : List Nat} {q q' : List Rat} {p p' : List (Option Nat)} {r r' : List Nat} (ok : OkActs n l) (G : GreatS n l g q p r) (G' : GreatS n l g q' p' r') : q = q' ∧ p = p' ∧ r = r' := by
  obtain ⟨p0, pf, far, fr, a1, a2, a3, a4, a5, a6, a7⟩ := G.run
  obtain ⟨p0', pf', far', fr', b1, b2, b3, b4, b5, b6, b7⟩ := G'.run
  obtain rfl := a1.det b1
  obtain rfl := a2.det ok b2
  obtain rfl := had_det ok a3 a4 b4 G.ql G'.ql
  subst a5 b5
  obtain rfl := a6.det b6
  exact ⟨rfl, rfl, a7.trans b7.symm⟩
def sp_greatest_coming (K : PySem.W.Frag) : Sp := fun vs H Q _ => ∃ (v : V) (n : Nat) (l : List ActD) (u : V) (g : List Nat), vs = [v, u] ∧ HouseV K H v n l ∧ OkActs n l ∧ n ≤ 6 ∧ GoalV K H u g ∧ Asc g ∧ (∀ s ∈ g, s < n) ∧
  ∀ H' x q p r, Same H H' → ComV K H' x q p r → GreatS n l g q p r → Q x H'
theorem ok_greatest_coming (T : Tx K mg) {f : Addr} {fd : FuncData} (F : FunD K "greatest_coming" "greatest_coming" (defArgs s_greatest_coming) (defBody s_greatest_coming) (defScope s_greatest_coming) [] [] f fd) : FnOk P w K mg base CX0 9 f fd P_greatest_coming (sp_greatest_coming K) := by
  refine fnD F sc_greatest_coming (fun vs H Q E h => ?_) (fun cdv A outer s H vs Q E hr h => ?_)
  · obtain ⟨_, _, _, _, _, rfl, _⟩ := h; rfl
  obtain ⟨v, n, l, u, g, rfl, hv, ok, n6, hg, asc, gn, k⟩ := h
  refine ⟨_, (pss_cons (ps_expr (C8.pe_c (c_need_goal T) hr (by decide) (by rfl) (pa_cons (pv 0) (pa_cons (pv 1) pa_nil))))
      (pss_cons (LcD.ps_setDc (i := 2) (own := [("state", 7)]) (g := gName 7) (tv := (tMake (CRatio K) (sp_Ratio_init K) [.int 1] C8.E0 (tCons (tC (.int 1)) tNil))) (by rfl) sc_greatest_coming.nd rfl rfl (LcD.sw_trueD rfl rfl rfl (by decide +kernel)) (pi_tup (pv 1)) (blkOk_by (own := [("state", 7)]) (N := N_greatest_coming) (sc := defScope s_greatest_coming) (by decide +kernel)) (fun _ _ _ _ _ => (pg_name (i := 7) sc_greatest_coming.nd rfl (Or.inl rfl))) (fun _ _ _ _ _ => pts_nil) (fun _ _ _ _ _ => (pv 7)) (fun _ _ _ _ _ => (C8.pe_mk (c_Ratio_1 T) hr (by decide) (by rfl) (pa_cons pe_int pa_nil))))
      (pss_cons (ps_asg (C8.pe_c (c_best_picks T) hr (by decide) (by rfl) (pa_cons (pv 0) (pa_cons (pv 2) pa_nil))) (pg_tup rfl (pgs_cons (pg_name (i := 3) sc_greatest_coming.nd rfl (Or.inr rfl)) (pgs_cons (pg_name (i := 4) sc_greatest_coming.nd rfl (Or.inr rfl)) (pgs_cons (pg_name (i := 5) sc_greatest_coming.nd rfl (Or.inl rfl)) pgs_nil)))))
      (pss_cons (ps_setLc (i := 6) (own := [("state", 7)]) (g := gName 7) (te := (tIf (tB (tOp (rNeR K) (tOp (rIxL K) (tVar 3) (tVar 7)) (tMake (CRatio K) (sp_Ratio_init K) [.int 1] C8.E0 (tCons (tC (.int 0)) tNil)))) (tOp (rIxL K) (tVar 4) (tVar 7)) (tC .non))) (by rfl) sc_greatest_coming.nd rfl rfl (sw_true rfl rfl rfl (by decide +kernel)) (pi_range1 (by rfl) T.b_range (pa_cons (pe_fld (pv 0) rfl) pa_nil)) (blkOk_by (own := [("state", 7)]) (N := N_greatest_coming) (sc := defScope s_greatest_coming) (by decide +kernel)) (fun _ _ _ _ _ => (pg_name (i := 7) sc_greatest_coming.nd rfl (Or.inl rfl))) (fun _ _ _ _ _ => pts_nil) (fun _ _ _ _ _ => (pe_ifExp (pt_cmpR (op_Rne T hr (by decide)) (pe_ix ix_list (pv 3) (pv 7) (fun _ _ => rfl)) (C8.pe_mk (c_Ratio_1 T) hr (by decide) (by rfl) (pa_cons pe_int pa_nil)) (nomark _)) (pe_ix ix_list (pv 4) (pv 7) (fun _ _ => rfl)) pe_non)))
      (pss_one (ps_ret (C8.pe_mk (c_Coming T) hr (by decide) (by rfl) (pa_cons (pe_callTy call_tuple_of (by rfl) T.b_tuple (by decide +kernel) (pa_cons (pv 3) pa_nil)) (pa_cons (pe_callTy call_tuple_of (by rfl) T.b_tuple (by decide +kernel) (pa_cons (pv 6) pa_nil)) (pa_cons (C8.pe_c (c_ranked T) hr (by decide) (by rfl) (pa_cons (pv 0) (pa_cons (pv 3) (pa_cons (pv 4) (pa_cons (pv 2) pa_nil))))) pa_nil)))))))))), ?_⟩
  have plt := asc_lt asc
  have gd : g.Nodup := plt.imp fun h e => by omega
  have gl : g.length ≤ n := by
    have := nodup_len gd (m := List.range n) fun x hx => List.mem_range.mpr (gn x hx)
    rwa [List.length_range] at this
  refine ⟨_, rfl, _, rfl, v, n, l, u, g, rfl, hv, hg, asc, by omega, gn, fun H1 s1 => ?_⟩
  obtain ⟨ag, rfl, eg⟩ := id hg
  have il : (g.map fun n : Nat => V.int (n : Int)).length = g.length := List.length_map _
  have S1 : SqT K H1 ag (g.map fun n : Nat => V.int (n : Int)) := .inl (.inl (s1 _ _ eg))
  refine ⟨_, rfl, ag, rfl, ⟨_, S1⟩, fun D hD => ?_⟩
  refine dc_it walk_tup (fun i H' => Same H1 H' ∧ ∃ fk, H' D = some (.dK fk) ∧ fk.map (·.1) = (g.take i).map keyN ∧ ∀ s ∈ g.take i, ∃ u, valV fk (keyN s) = some u ∧ IsR K H' u 1)
    ⟨same_upd hD, [], upd_same, by simp, fun s h => by simp at h⟩ (fun i H' _ p => same_seqT p.1 S1) ?_ ?_
  · rintro i x H3 H4 hi ⟨s3, fk, ef, efk, fw⟩ ⟨rfl, hx⟩
    rw [List.getElem?_map] at hx
    obtain ⟨s0, hs0, rfl⟩ := Option.map_eq_some_iff.mp hx
    have tk : g.take (i + 1) = g.take i ++ [s0] := by rw [List.take_add_one, hs0]; rfl
    have nk : s0 ∉ g.take i := fun hm => by
      have nd : (g.take (i + 1)).Nodup := gd.sublist (List.take_sublist _ _)
      rw [tk, List.nodup_append] at nd
      exact nd.2.2 s0 hm s0 (by simp) rfl
    have vn : valV fk (keyN s0) = none := by
      cases e : valV fk (keyN s0) with
      | none => rfl
      | some z =>
        have := valV_in e
        rw [efk] at this
        obtain ⟨t, ht, e2⟩ := List.mem_map.mp this
        exact absurd (by rw [← keyN_inj e2]; exact ht) nk
    have fl : fk.length ≤ 10 := by
      have := congrArg List.length efk
      rw [List.length_map, List.length_map, List.length_take] at this
      omega
    refine ⟨rfl, yes ⟨_, rfl, fun x dx hx hdx ne => mR1 hx hdx ne fun H5 s5 hz => ⟨rfl, ?_⟩⟩⟩
    have ef5 := s5 _ _ ef
    refine ⟨fk, keyN s0, rfl, ef5, Nat.lt_of_le_of_lt fl (by decide), ?_⟩
    have sn : SameN H5 (upd H5 D (.dK (putK fk (keyN s0) (.ref x)))) := sameN_upd ef5 (fun z => z)
    refine ⟨fun b o hb => by rw [upd_ne (ne_of_none hb hD)]; exact (s3.trans s5) _ _ hb, _, upd_same, ?_, fun s hs => ?_⟩
    · unfold putK
      rw [valV_any, vn, tk]
      simp [efk]
    · rw [valV_put]
      by_cases e : s = s0
      · subst e
        exact ⟨.ref x, by rw [if_pos rfl], (show IsR K H5 (.ref x) 1 from hz).n sn⟩
      · rw [if_neg (fun z => e (keyN_inj z))]
        rw [tk] at hs
        rcases List.mem_append.mp hs with z | z
        · obtain ⟨u', h1, h2⟩ := fw s z
          exact ⟨u', h1, h2.n ((same_n s5).trans sn)⟩
        · exact absurd (List.mem_singleton.mp z) e
  rintro H3 ⟨s3, fk, ef, efk, fw⟩
  rw [il, List.take_length] at efk fw
  have W3 : WorthsV K H3 (.ref D) g := ⟨D, fk, rfl, ef, efk, fw⟩
  have s13 := s1.trans s3
  refine ⟨_, rfl, _, rfl, v, n, l, .ref D, g, rfl, hv.n (same_n s13), ok, n6, W3, gn, gd, fun H4 t a b c q p far p00 s4 et hq ql eb pok had qz hm fr br => ?_⟩
  refine ⟨t, _, rfl, .inl (.inl et), rfl, _, _, rfl, _, _, rfl, _, _, rfl, rfl, ?_⟩
  obtain ⟨xh, dxh, mh, vah, vsh, lkh, voh, rfl, eh, hh1, hh2, hh3⟩ := id hv
  have s14 := s13.trans s4
  obtain ⟨au, us, eau, eu, aq⟩ := id hq
  cases eau
  have ul : us.length = n := aq.1.trans ql
  have pl := pok.len
  refine ⟨_, rfl, xh, _, dxh, _, _, rfl, s14 _ _ eh, T.cl_House, T.na_House_states, rfl, (n : Int), rfl, by omega, by omega, fun Kl hKl => ?_⟩
  rw [Int.toNat_natCast]
  refine lcm walk_range hKl (Nat.le_trans n6 (by decide)) (fun _ => true) (fun i y _ => y = pickV (if numN q i = 0 then none else pk p i)) (fun i y1 H1 H2 s z => z) (fun H1 s => trivial) (fun i x H8 H1 kN' kY hi s y1 kn ky => ?_) (fun H7 ys s7 e7 kp => ?_)
  · obtain ⟨rfl, ex⟩ := y1
    obtain rfl : x = V.int ((i : Nat) : Int) := ex.trans (congrArg V.int (Int.zero_add _))
    obtain ⟨qv, hqv⟩ : ∃ qv, q[i]? = some qv := ⟨_, List.getElem?_eq_getElem (by omega)⟩
    obtain ⟨yq, hyq, rq⟩ := aq.get hqv
    refine ⟨rfl, yes ?_⟩
    refine ⟨_, rfl, _, rfl, a, us, _, yq, rfl, rfl, .inl (.inl (s _ _ eu)), atI_nat hyq, fun x dx hx hdx ne => mR1 hx hdx ne fun H5 s5 hz => ⟨rfl, ?_⟩⟩
    refine ⟨qv, 0, rq.n (same_n (s.trans s5)), hz, _, rfl, ite2 (fun h0 => ?_) (fun h0 => ?_)⟩
    · refine ⟨_, rfl, _, rfl, b, _, _, _, rfl, rfl, .inl (.inl ((s.trans s5) _ _ eb)), atI_nat (pk_at (by omega)), ky _ _ s5 rfl ?_⟩
      rw [if_neg]
      intro e
      unfold numN at e
      rw [hqv] at e
      have e : qv = 0 := e
      rw [e] at h0
      simp at h0
    · refine ky _ _ s5 rfl ?_
      rw [if_pos]
      · rfl
      · unfold numN
        rw [hqv]
        have h0 : ¬ (!decide (qv = 0)) = true := h0
        simpa using h0
  obtain ⟨l1, l2⟩ := kp.all
  have eys := map_of l1 l2
  have eys : ys = (keptP n q p).map pickV := by rw [eys]; unfold keptP; rw [List.map_map]; rfl
  subst eys
  have kpl := keptP_len n q p
  have kml : ((keptP n q p).map pickV).length = n := by rw [List.length_map]; exact kpl
  have lfy : ∀ y ∈ (keptP n q p).map pickV, ∃ x, y = pickV x := fun y hy => by
    obtain ⟨x, _, e⟩ := List.mem_map.mp hy
    exact ⟨x, e.symm⟩
  have eu7 := s7 _ _ eu
  refine ⟨_, rfl, a, us, rfl, .inl ⟨.inl (.inl eu7), fun t1 ht1 => ?_⟩⟩
  have r1 := same_upd (o := .tup us) ht1
  refine ⟨_, rfl, Kl, _, rfl, .inl ⟨.inl (.inl (r1 _ _ e7)), fun t2 ht2 => ?_⟩⟩
  have r2 := r1.trans (same_upd (o := .tup ((keptP n q p).map pickV)) ht2)
  have et1 : upd (upd H7 t1 (.tup us)) t2 (.tup ((keptP n q p).map pickV)) t1 = some (.tup us) := same_upd ht2 _ _ upd_same
  have et2 : upd (upd H7 t1 (.tup us)) t2 (.tup ((keptP n q p).map pickV)) t2 = some (.tup ((keptP n q p).map pickV)) := upd_same
  generalize upd (upd H7 t1 (.tup us)) t2 (.tup ((keptP n q p).map pickV)) = H9 at r2 et1 et2
  have s49 := s7.trans r2
  have s39 := s4.trans s49
  have s19 := s13.trans s39
  refine ⟨_, rfl, _, rfl, _, rfl, _, rfl, .ref xh, n, l, .ref a, q, .ref b, p, .ref D, g, rfl, hv.n (same_n s19), ok, hq.s s49, ql, ⟨b, rfl, s49 _ _ eb⟩, pok, W3.s s39, gn, gd, fun s hs => had.goal hs, fun H10 t3 far2 s10 e10 fo2 lr2 => ?_⟩
  have aq10 : All2 (IsR K H10) us q := aq.imp fun x y z => z.n (same_n (s49.trans s10))
  intro x dx hx hdx ne
  have sm := same_made (o := .ins (CComing K) dx []) hx hdx
  have s411 := (s49.trans s10).trans sm
  have leafs : ∀ y ∈ us, LeafV K (upd (upd H10 dx (.own x)) x (.ins (CComing K) dx [])) y := fun y hy => by
    obtain ⟨i, hi, e⟩ := List.getElem_of_mem hy
    obtain ⟨qv, hqv, rq⟩ := aq.get' (i := i) (x := y) (by rw [List.getElem?_eq_getElem hi, e])
    exact .inr (.inr ⟨qv, rq.n (same_n s411)⟩)
  refine ⟨x, dx, t1, t2, t3, us, _, ranksV n far2, rfl, upd_same, (s10.trans sm) _ _ et1, (s10.trans sm) _ _ et2, sm _ _ e10, leafs, fun y hy => ?_, fun y hy => ?_, by omega, by omega, by (unfold ranksV; rw [List.length_map, List.length_range]; omega), fun H' b1 b2 b3 sx ex eb1 eb2 eb3 => ⟨rfl, ?_⟩⟩
  · obtain ⟨z, rfl⟩ := lfy y hy
    cases z with
    | none => exact .inl rfl
    | some z => exact .inr (.inl ⟨_, rfl⟩)
  · obtain ⟨z, _, rfl⟩ := List.mem_map.mp hy
    exact .inr (.inl ⟨_, rfl⟩)
  · have sH : ∀ {H0 : Hp}, Same H0 H10 → Same H0 H' := fun {H0} h0 o u e => by
      have e1 := h0 _ _ e
      exact sx _ _ (ne_of_none e1 hx) (sm _ _ e1)
    refine k H' _ q (keptP n q p) ((List.range n).map fun i => (far2 i).getD 0) (sH (s19.trans s10)) ⟨x, dx, b1, b2, b3, us, rfl, ex, eb1, aq10.imp fun x y z => z.n (same_n (sH (Same.refl _))), eb2, ?_⟩ ⟨ql, ⟨p, far, far2, pok, had, rfl, rfl, fo2⟩, qz, hm, p00, p, far, far2, fr, br, pok, had, rfl, lr2, rfl⟩
    rw [eb3]
    unfold ranksV
    rw [List.map_map]
    rfl
theorem c_greatest_coming (T : Tx K mg) : C8.Cal P w K mg base 9 "greatest_coming" (sp_greatest_coming K) [] := by
  obtain ⟨fd, F⟩ := T.f_greatest_coming
  exact ⟨_, fd, P_greatest_coming, [], ok_greatest_coming T F, T.g_greatest_coming, F.kp, F.bindsN (fun _ _ _ _ _ _ us hl => match us, hl with | [_, _], _ => rfl), .nil⟩
end
end Lc
set_option Elab.async false
set_option linter.all false
set_option maxRecDepth 100000
set_option maxHeartbeats 4000000
namespace Lc
open PySem PySem.Spec PyProof.Rows L2 LcR
/-- the pen: its cells, how many were drawn, what is left of a great cell -/
def PenV (H : Hp) (a c : Addr) (m : Nat) : Prop := ∃ (ns : List Int) (at_ : Nat) (rest : Int), H a = some (.lst [.ref c, .int (at_ : Int), .int rest]) ∧ H c = some (.lst (ns.map V.int)) ∧ at_ ≤ m ∧ 0 ≤ rest ∧ ns.length ≤ 100
theorem PenV.x {H H' : Hp} {a c : Addr} {m m' : Nat} (h : PenV H a c m) (s : Same H H') (hm : m ≤ m') : PenV H' a c m' := by
  obtain ⟨ns, at_, rest, e1, e2, h1, h2, h3⟩ := h
  exact ⟨ns, at_, rest, s _ _ e1, s _ _ e2, by omega, h2, h3⟩
theorem SameX.n {a : Addr} {H H' : Hp} {xs : List V} (s : SameX a H H') (e : H a = some (.lst xs)) : SameN H H' := fun b o hb f => s b o (fun z => by subst z; rw [e] at hb; cases hb; exact f) hb
theorem pen_ne {H : Hp} {a c : Addr} {m : Nat} (h : PenV H a c m) : c ≠ a := fun z => by
  obtain ⟨ns, at_, rest, e1, e2, _⟩ := h
  subst z
  rw [e1] at e2
  cases ns with
  | nil => cases e2
  | cons i r => simp at e2
theorem cpow5 (x a : Int) (h0 : 0 ≤ a) (h1 : a < 1000000) : CPow (x.fmod 2147483543 + 30223 * a + 71) 5 := by
  have b1 := Int.fmod_nonneg_of_pos x (b := 2147483543) (by decide)
  have b2 := Int.fmod_lt_of_pos x (b := 2147483543) (by decide)
  exact ⟨by decide, by decide, by omega⟩
theorem cpow3 (x a : Int) (h0 : 0 ≤ a) (h1 : a < 1000000) : CPow (x.fmod 2147483563 * (4 * a + 21) + 10007 * a * a + 31) 3 := by
  have b1 := Int.fmod_nonneg_of_pos x (b := 2147483563) (by decide)
  have b2 := Int.fmod_lt_of_pos x (b := 2147483563) (by decide)
  have c1 : 0 ≤ x.fmod 2147483563 * (4 * a + 21) := Int.mul_nonneg b1 (by omega)
  have c2 : x.fmod 2147483563 * (4 * a + 21) ≤ 2147483563 * 4000021 := Int.mul_le_mul (by omega) (by omega) (by omega) (by decide)
  have c3 : 0 ≤ 10007 * a * a := Int.mul_nonneg (by omega) h0
  have c4 : 10007 * a * a ≤ 10007000000 * 1000000 := Int.mul_le_mul (by omega) (by omega) h0 (by decide)
  refine ⟨by decide, by decide, ?_⟩
  omega
section
variable {P : Program} {w : World} {K : PySem.W.Frag} {mg : Str → Option Value} {base : Heap}
def sp_law_pen (K : PySem.W.Frag) : Sp := fun vs H Q _ => ∃ (a : Addr) (ns : List Int), vs = [.ref a] ∧ SqL K H a (List.map V.int ns) ∧ ∀ H' p c, Same H H' → PenV H' p c 0 → Q (.ref p) H'
theorem c_law_pen (T : Tx K mg) : C8.Cal P w K mg base 1 "_law_pen" (sp_law_pen K) [] := by
  obtain ⟨fd, F⟩ := T.f_law_pen
  refine calD F T.g_law_pen sc_law_pen (fun _ _ _ _ _ _ us hl => match us, hl with | [_], _ => rfl) (fun vs H Q E h => ?_) (fun cdv A outer s H vs Q E hr h => ?_)
  · obtain ⟨_, _, rfl, _⟩ := h; rfl
  obtain ⟨a, ns, rfl, hs, k⟩ := h
  refine ⟨_, (pss_one (ps_ret (pe_lst (pa_cons (pe_callTy call_list_of (by rfl) T.b_list (by decide +kernel) (pa_cons (pe_slice sl_list (pv 0) po_none (po_some pe_int)) pa_nil)) (pa_cons pe_int (pa_cons pe_int pa_nil)))))), ?_⟩
  refine ⟨_, rfl, 63, rfl, a, _, rfl, hs, fun p hp => ?_⟩
  have s1 := same_upd (o := .lst (cutV (ns.map V.int) none (some 63))) hp
  refine ⟨p, _, rfl, .inl (.inl (.inl upd_same)), fun c hc => ⟨by show 3 ≤ sizeLine; decide, fun q hq => ?_⟩⟩
  have s2 := s1.trans ((same_upd (o := .lst (cutV (ns.map V.int) none (some 63))) hc).trans (same_upd (o := .lst [.ref c, .int 0, .int 0]) hq))
  have e : cutV (ns.map V.int) none (some 63) = (ns.take (min 63 (ns.map V.int).length)).map V.int := by
    unfold cutV
    rw [show (some 63 : Option Int) = some ((63 : Nat) : Int) from rfl, HT.sIx_nat, HT.sIx_none, List.drop_zero, Nat.sub_zero, List.map_take]
  refine k _ q c s2 ⟨ns.take (min 63 (ns.map V.int).length), 0, 0, upd_same, ?_, Nat.le_refl _, Int.le_refl _, ?_⟩
  · rw [← e]
    exact same_upd hq _ _ upd_same
  · rw [List.length_take]; omega
def sp_law_draw : Sp := fun vs H Q _ => ∃ (a c : Addr) (m : Nat) (many : Int), vs = [.ref a, .int many] ∧ PenV H a c m ∧ 0 < many ∧ many < 1000000 ∧ m < 1000000 ∧ ∀ H' (r : Int), SameX a H H' → PenV H' a c (m + 1) → 0 ≤ r → r < many → Q (.int r) H'
theorem c_law_draw (T : Tx K mg) : C8.Cal P w K mg base 1 "_law_draw" sp_law_draw [] := by
  obtain ⟨fd, F⟩ := T.f_law_draw
  refine calD F T.g_law_draw sc_law_draw (fun _ _ _ _ _ _ us hl => match us, hl with | [_, _], _ => rfl) (fun vs H Q E h => ?_) (fun cdv A outer s H vs Q E hr h => ?_)
  · obtain ⟨_, _, _, _, rfl, _⟩ := h; rfl
  obtain ⟨a, c, m, many, rfl, hp, h1, h2, hm, k⟩ := h
  refine ⟨_, (pss_cons (ps_if (pt_cmpR op_gt (pe_ix ix_list (pv 0) pe_int (fun _ _ => rfl)) pe_int (nomark _)) (pss_cons (ps_set (i := 2) sc_law_draw.nd rfl (Or.inl rfl) (pe_op op_modN (pe_callTy call_int1 (by rfl) T.b_int (by decide +kernel) (pa_cons (pe_ix ix_list (pv 0) pe_int (fun _ _ => rfl)) pa_nil)) (pv 1)))
      (pss_cons (ps_asg (pe_op op_fdivW (pe_callTy call_int1 (by rfl) T.b_int (by decide +kernel) (pa_cons (pe_ix ix_list (pv 0) pe_int (fun _ _ => rfl)) pa_nil)) (pv 1)) (pg_sub (pv 0) pe_int set_list))
      (pss_one (ps_ret (pv 2))))) pss_nil)
      (pss_cons (ps_set (i := 3) sc_law_draw.nd rfl (Or.inl rfl) (pe_ix ix_list (pv 0) pe_int (fun _ _ => rfl)))
      (pss_cons (ps_asg (pe_op op_add (pv 3) pe_int) (pg_sub (pv 0) pe_int set_list))
      (pss_cons (ps_set (i := 4) sc_law_draw.nd rfl (Or.inl rfl) (pe_op op_add (pe_op op_mul pe_int (pv 3)) pe_int))
      (pss_cons (ps_if (pt_cmpR (op_neNil hr.units0) (pe_ix ix_list (pv 0) pe_int (fun _ _ => rfl)) (pe_lst pa_nil) (nomark _)) (pss_one (ps_set (i := 4) sc_law_draw.nd rfl (Or.inl rfl) (pe_ix ix_list (pe_ix ix_list (pv 0) pe_int (fun _ _ => rfl)) (pe_op op_modN (pe_callTy call_int1 (by rfl) T.b_int (by decide +kernel) (pa_cons (pv 3) pa_nil)) (pe_callB call_len (by rfl) T.b_len (by decide +kernel) (pa_cons (pe_ix ix_list (pv 0) pe_int (fun _ _ => rfl)) pa_nil))) (fun _ _ => rfl)))) pss_nil)
      (pss_cons (ps_if (PW.pt (pw_and (pt_cmpR op_lt (pv 3) (pe_callB call_len (by rfl) T.b_len (by decide +kernel) (pa_cons (pe_ix ix_list (pv 0) pe_int (fun _ _ => rfl)) pa_nil)) (nomark _)) (pw_and1 (pt_cmpR op_ge (pe_callB call_abs (by rfl) T.b_abs (by decide +kernel) (pa_cons (pv 4) pa_nil)) (pe_op op_pow pe_int pe_int) (nomark _))))) (pss_cons (ps_set (i := 5) sc_law_draw.nd rfl (Or.inl rfl) (pe_op op_add (pe_op op_mul pe_int (pe_callB call_abs (by rfl) T.b_abs (by decide +kernel) (pa_cons (pv 4) pa_nil))) (pe_callTy call_int1 (by rfl) T.b_int (by decide +kernel) (pa_cons (pe_cmpR op_lt (pv 4) pe_int (nomark _)) pa_nil))))
      (pss_cons (ps_asg (pe_op op_fdivW (pe_callTy call_int1 (by rfl) T.b_int (by decide +kernel) (pa_cons (pv 5) pa_nil)) (pv 1)) (pg_sub (pv 0) pe_int set_list))
      (pss_one (ps_ret (pe_op op_modN (pe_callTy call_int1 (by rfl) T.b_int (by decide +kernel) (pa_cons (pv 5) pa_nil)) (pv 1)))))) pss_nil)
      (pss_cons (ps_set (i := 6) sc_law_draw.nd rfl (Or.inl rfl) (pe_op op_modN (pe_op op_pow (pe_callTy call_int1 (by rfl) T.b_int (by decide +kernel) (pa_cons (pe_op op_add (pe_op op_add (pe_op op_modN (pe_callTy call_int1 (by rfl) T.b_int (by decide +kernel) (pa_cons (pv 4) pa_nil)) pe_int) (pe_op op_mul pe_int (pv 3))) pe_int) pa_nil)) pe_int) pe_int))
      (pss_cons (ps_set (i := 6) sc_law_draw.nd rfl (Or.inl rfl) (pe_op op_modN (pe_op op_pow (pe_callTy call_int1 (by rfl) T.b_int (by decide +kernel) (pa_cons (pe_op op_add (pe_op op_add (pe_op op_mul (pv 6) (pe_op op_add (pe_op op_mul pe_int (pv 3)) pe_int)) (pe_op op_mul (pe_op op_mul pe_int (pv 3)) (pv 3))) pe_int) pa_nil)) pe_int) pe_int))
      (pss_one (ps_ret (pe_op op_modN (pe_callTy call_int1 (by rfl) T.b_int (by decide +kernel) (pa_cons (pe_op op_fdivW (pv 6) pe_int) pa_nil)) (pv 1)))))))))))), ?_⟩
  have ca := pen_ne hp
  obtain ⟨ns, at_, rest, ea, ec, hat, hrest, hns⟩ := hp
  have cd : ∀ i, CDivW i many := fun i => ⟨h1, by
    have : many.natAbs < 2 ^ 20 := by omega
    have := (Nat.log2_lt (by omega : many.natAbs ≠ 0)).mpr this
    omega⟩
  have mz : many ≠ 0 := by omega
  have fin : ∀ {H1 : Hp} (at2 : Nat) (rest2 r : Int), SameX a H H1 → at2 ≤ m + 1 → 0 ≤ rest2 → 0 ≤ r → r < many → Q (.int r) (upd H1 a (.lst [.ref c, .int (at2 : Int), .int rest2])) := fun {H1} at2 rest2 r s1 b1 b2 b3 b4 =>
    k _ r (s1.trans SameX.at_) ⟨ns, at2, rest2, upd_same, by rw [upd_ne ca]; exact s1 _ _ ca ec, b1, b2, hns⟩ b3 b4
  have dv : ∀ i : Int, 0 ≤ i → 0 ≤ i / many := fun i hi => Int.ediv_nonneg hi (by omega)
  refine ⟨_, rfl, a, _, 2, _, rfl, rfl, .inl (.inl ea), rfl, _, _, rfl, rfl, _, rfl, ite2 (fun h0 => ?_) (fun h0 => ?_)⟩
  · refine ⟨_, rfl, a, _, 2, _, rfl, rfl, .inl (.inl ea), rfl, .inl ⟨_, rfl, _, rfl, _, _, rfl, rfl, mz, ?_⟩⟩
    refine ⟨_, rfl, a, _, 2, _, rfl, rfl, .inl (.inl ea), rfl, .inl ⟨_, rfl, _, rfl, _, _, rfl, rfl, cd _, ?_⟩⟩
    refine ⟨_, rfl, a, _, 2, 2, rfl, rfl, ea, rfl, ?_⟩
    refine ⟨_, rfl, ?_⟩
    exact fin at_ _ _ SameX.refl (by omega) (dv _ hrest) (Int.fmod_nonneg_of_pos _ h1) (Int.fmod_lt_of_pos _ h1)
  · refine ⟨_, rfl, a, _, 1, _, rfl, rfl, .inl (.inl ea), rfl, ?_⟩
    refine ⟨_, rfl, _, _, rfl, rfl, _, rfl, a, _, 1, 1, rfl, rfl, ea, rfl, ?_⟩
    have e1 : upd H a (.lst [.ref c, .int ((at_ : Int) + 1), .int rest]) a = some (.lst [.ref c, .int ((at_ + 1 : Nat) : Int), .int rest]) := upd_same
    have e2 : upd H a (.lst [.ref c, .int ((at_ : Int) + 1), .int rest]) c = some (.lst (ns.map V.int)) := by rw [upd_ne ca]; exact ec
    have s1 : SameX a H (upd H a (.lst [.ref c, .int ((at_ : Int) + 1), .int rest])) := SameX.at_
    show tSeq _ _ _ _ (upd H a (.lst [.ref c, .int ((at_ : Int) + 1), .int rest]))
    generalize upd H a (.lst [.ref c, .int ((at_ : Int) + 1), .int rest]) = H1 at e1 e2 s1
    have at6 : at_ < 1000000 := by omega
    refine ⟨_, rfl, _, _, rfl, rfl, .inl ⟨by decide, by decide⟩, _, _, rfl, rfl, ?_⟩
    refine ⟨_, rfl, a, _, 0, _, rfl, rfl, .inl (.inl e1), rfl, Nat.zero_le _, fun Z hZ => ?_⟩
    have s2 := same_upd (o := .lst []) hZ
    have s02 : SameX a H (upd H1 Z (.lst [])) := s1.trans (SameX.of s2)
    refine ⟨c, Z, ns.map V.int, rfl, rfl, .inl (.inl (s2 _ _ e2)), .inl (.inl upd_same), _, rfl, ?_⟩
    have e3 := s2 _ _ e1
    have e4 := s2 _ _ e2
    generalize upd H1 Z (.lst []) = H2 at s02 e3 e4
    clear s2 hZ e1 e2 s1
    have great0 : ∀ x : Int, 0 ≤ 2 * (if x < 0 then -x else x) + (if decide (x < 0) = true then 1 else 0) := fun x => by
      by_cases hx : x < 0 <;> simp [hx] <;> omega
    refine ite2 (fun hb0 => ?_) (fun hb0 => ?_)
    · have nl : 0 < ns.length := by
        cases ns with
        | nil => cases hb0
        | cons z r => exact Nat.succ_pos _
      have fm0 := Int.fmod_nonneg_of_pos (at_ : Int) (b := (ns.length : Int)) (by omega)
      have fm1 := Int.fmod_lt_of_pos (at_ : Int) (b := (ns.length : Int)) (by omega)
      obtain ⟨kx, hkx⟩ : ∃ kx : Nat, (at_ : Int).fmod (ns.length : Int) = (kx : Int) := ⟨((at_ : Int).fmod (ns.length : Int)).toNat, by omega⟩
      have hkl : kx < ns.length := by omega
      obtain ⟨zz, hzz⟩ : ∃ zz, ns[kx]? = some zz := ⟨_, List.getElem?_eq_getElem hkl⟩
      refine ⟨_, rfl, a, _, 0, _, rfl, rfl, .inl (.inl e3), rfl, _, rfl, .inl ⟨_, rfl, _, rfl, a, _, 0, _, rfl, rfl, .inl (.inl e3), rfl, _, ns.length, rfl, .inl ⟨ns.map V.int, .inl (.inl e4), by rw [List.length_map]⟩, _, _, rfl, rfl, by omega, ?_⟩⟩
      refine ⟨c, ns.map V.int, _, .int zz, rfl, rfl, .inl (.inl e4), by rw [hkx]; exact atI_nat (by rw [List.getElem?_map, hzz]; rfl), ?_⟩
      refine ⟨_, rfl, _, rfl, a, _, 0, _, rfl, rfl, .inl (.inl e3), rfl, _, ns.length, rfl, .inl ⟨ns.map V.int, .inl (.inl e4), by rw [List.length_map]⟩, _, _, rfl, rfl, _, rfl, ?_⟩
      refine ite2 (fun hb => ?_) (fun hb => iteF ?_)
      · refine ⟨_, rfl, _, rfl, 10, 18, rfl, rfl, ⟨by decide, by decide, by decide⟩, _, _, rfl, rfl, _, rfl, ite2 (fun hd => ?_) (fun hd => ?_)⟩
        · refine ⟨_, rfl, _, rfl, 2, _, rfl, rfl, .inl ⟨by decide, by decide⟩, _, rfl, _, _, rfl, rfl, .inr ⟨_, rfl, _, _, rfl, rfl, ?_⟩⟩
          refine ⟨_, rfl, .inl ⟨_, rfl, _, rfl, _, _, rfl, rfl, cd _, _, rfl, a, _, 2, 2, rfl, rfl, e3, rfl, ?_⟩⟩
          refine ⟨_, rfl, .inl ⟨_, rfl, _, rfl, _, _, rfl, rfl, mz, ?_⟩⟩
          exact fin (at_ + 1) _ _ s02 (by omega) (dv _ (great0 _)) (Int.fmod_nonneg_of_pos _ h1) (Int.fmod_lt_of_pos _ h1)
        · refine ⟨_, rfl, .inl ⟨_, rfl, _, _, rfl, rfl, (by show (2147483543 : Int) ≠ 0; decide), _, rfl, _, _, rfl, rfl, .inl ⟨by decide, by decide⟩, _, _, rfl, rfl, _, _, rfl, rfl, .inl ⟨_, rfl, _, _, rfl, rfl, cpow5 _ _ (by omega) (by omega), _, _, rfl, rfl, (by show (2147483563 : Int) ≠ 0; decide), ?_⟩⟩⟩
          refine ⟨_, rfl, _, rfl, _, _, rfl, rfl, .inl ⟨by decide, by decide⟩, _, _, rfl, rfl, _, _, rfl, rfl, .inr ⟨by omega, by omega⟩, _, rfl, _, _, rfl, rfl, .inl ⟨by decide, by decide⟩, _, rfl, _, _, rfl, rfl, .inr ⟨by omega, by omega⟩, _, _, rfl, rfl, _, _, rfl, rfl, .inl ⟨_, rfl, _, _, rfl, rfl, cpow3 _ _ (by omega) (by omega), _, _, rfl, rfl, (by show (2147483587 : Int) ≠ 0; decide), ?_⟩⟩
          refine ⟨_, rfl, _, _, rfl, rfl, ⟨by decide, by decide⟩, .inl ⟨_, rfl, _, rfl, _, _, rfl, rfl, mz, ?_⟩⟩
          exact k _ _ s02 ⟨ns, at_ + 1, rest, e3, e4, by omega, hrest, hns⟩ (Int.fmod_nonneg_of_pos _ h1) (Int.fmod_lt_of_pos _ h1)
      · refine ⟨_, rfl, .inl ⟨_, rfl, _, _, rfl, rfl, (by show (2147483543 : Int) ≠ 0; decide), _, rfl, _, _, rfl, rfl, .inl ⟨by decide, by decide⟩, _, _, rfl, rfl, _, _, rfl, rfl, .inl ⟨_, rfl, _, _, rfl, rfl, cpow5 _ _ (by omega) (by omega), _, _, rfl, rfl, (by show (2147483563 : Int) ≠ 0; decide), ?_⟩⟩⟩
        refine ⟨_, rfl, _, rfl, _, _, rfl, rfl, .inl ⟨by decide, by decide⟩, _, _, rfl, rfl, _, _, rfl, rfl, .inr ⟨by omega, by omega⟩, _, rfl, _, _, rfl, rfl, .inl ⟨by decide, by decide⟩, _, rfl, _, _, rfl, rfl, .inr ⟨by omega, by omega⟩, _, _, rfl, rfl, _, _, rfl, rfl, .inl ⟨_, rfl, _, _, rfl, rfl, cpow3 _ _ (by omega) (by omega), _, _, rfl, rfl, (by show (2147483587 : Int) ≠ 0; decide), ?_⟩⟩
        refine ⟨_, rfl, _, _, rfl, rfl, ⟨by decide, by decide⟩, .inl ⟨_, rfl, _, rfl, _, _, rfl, rfl, mz, ?_⟩⟩
        exact k _ _ s02 ⟨ns, at_ + 1, rest, e3, e4, by omega, hrest, hns⟩ (Int.fmod_nonneg_of_pos _ h1) (Int.fmod_lt_of_pos _ h1)
    · skip
      refine ⟨_, rfl, _, rfl, a, _, 0, _, rfl, rfl, .inl (.inl e3), rfl, _, ns.length, rfl, .inl ⟨ns.map V.int, .inl (.inl e4), by rw [List.length_map]⟩, _, _, rfl, rfl, _, rfl, ?_⟩
      refine ite2 (fun hb => ?_) (fun hb => iteF ?_)
      · refine ⟨_, rfl, _, rfl, 10, 18, rfl, rfl, ⟨by decide, by decide, by decide⟩, _, _, rfl, rfl, _, rfl, ite2 (fun hd => ?_) (fun hd => ?_)⟩
        · refine ⟨_, rfl, _, rfl, 2, _, rfl, rfl, .inl ⟨by decide, by decide⟩, _, rfl, _, _, rfl, rfl, .inr ⟨_, rfl, _, _, rfl, rfl, ?_⟩⟩
          refine ⟨_, rfl, .inl ⟨_, rfl, _, rfl, _, _, rfl, rfl, cd _, _, rfl, a, _, 2, 2, rfl, rfl, e3, rfl, ?_⟩⟩
          refine ⟨_, rfl, .inl ⟨_, rfl, _, rfl, _, _, rfl, rfl, mz, ?_⟩⟩
          exact fin (at_ + 1) _ _ s02 (by omega) (dv _ (great0 _)) (Int.fmod_nonneg_of_pos _ h1) (Int.fmod_lt_of_pos _ h1)
        · refine ⟨_, rfl, .inl ⟨_, rfl, _, _, rfl, rfl, (by show (2147483543 : Int) ≠ 0; decide), _, rfl, _, _, rfl, rfl, .inl ⟨by decide, by decide⟩, _, _, rfl, rfl, _, _, rfl, rfl, .inl ⟨_, rfl, _, _, rfl, rfl, cpow5 _ _ (by omega) (by omega), _, _, rfl, rfl, (by show (2147483563 : Int) ≠ 0; decide), ?_⟩⟩⟩
          refine ⟨_, rfl, _, rfl, _, _, rfl, rfl, .inl ⟨by decide, by decide⟩, _, _, rfl, rfl, _, _, rfl, rfl, .inr ⟨by omega, by omega⟩, _, rfl, _, _, rfl, rfl, .inl ⟨by decide, by decide⟩, _, rfl, _, _, rfl, rfl, .inr ⟨by omega, by omega⟩, _, _, rfl, rfl, _, _, rfl, rfl, .inl ⟨_, rfl, _, _, rfl, rfl, cpow3 _ _ (by omega) (by omega), _, _, rfl, rfl, (by show (2147483587 : Int) ≠ 0; decide), ?_⟩⟩
          refine ⟨_, rfl, _, _, rfl, rfl, ⟨by decide, by decide⟩, .inl ⟨_, rfl, _, rfl, _, _, rfl, rfl, mz, ?_⟩⟩
          exact k _ _ s02 ⟨ns, at_ + 1, rest, e3, e4, by omega, hrest, hns⟩ (Int.fmod_nonneg_of_pos _ h1) (Int.fmod_lt_of_pos _ h1)
      · refine ⟨_, rfl, .inl ⟨_, rfl, _, _, rfl, rfl, (by show (2147483543 : Int) ≠ 0; decide), _, rfl, _, _, rfl, rfl, .inl ⟨by decide, by decide⟩, _, _, rfl, rfl, _, _, rfl, rfl, .inl ⟨_, rfl, _, _, rfl, rfl, cpow5 _ _ (by omega) (by omega), _, _, rfl, rfl, (by show (2147483563 : Int) ≠ 0; decide), ?_⟩⟩⟩
        refine ⟨_, rfl, _, rfl, _, _, rfl, rfl, .inl ⟨by decide, by decide⟩, _, _, rfl, rfl, _, _, rfl, rfl, .inr ⟨by omega, by omega⟩, _, rfl, _, _, rfl, rfl, .inl ⟨by decide, by decide⟩, _, rfl, _, _, rfl, rfl, .inr ⟨by omega, by omega⟩, _, _, rfl, rfl, _, _, rfl, rfl, .inl ⟨_, rfl, _, _, rfl, rfl, cpow3 _ _ (by omega) (by omega), _, _, rfl, rfl, (by show (2147483587 : Int) ≠ 0; decide), ?_⟩⟩
        refine ⟨_, rfl, _, _, rfl, rfl, ⟨by decide, by decide⟩, .inl ⟨_, rfl, _, rfl, _, _, rfl, rfl, mz, ?_⟩⟩
        exact k _ _ s02 ⟨ns, at_ + 1, rest, e3, e4, by omega, hrest, hns⟩ (Int.fmod_nonneg_of_pos _ h1) (Int.fmod_lt_of_pos _ h1)
end
theorem PenV.le {H : Hp} {a c : Addr} {m m' : Nat} (h : PenV H a c m) (hm : m ≤ m') : PenV H a c m' := h.x (Same.refl _) hm
theorem PenV.at_ {H : Hp} {a c : Addr} {m : Nat} (h : PenV H a c m) : ∃ xs, H a = some (.lst xs) := by
  obtain ⟨ns, at_, rest, e1, _⟩ := h
  exact ⟨_, e1⟩
/-- another list turns, the pen stays -/
theorem PenV.other {H : Hp} {a c b : Addr} {m : Nat} {o : HO} (h : PenV H a c m) (h1 : b ≠ a) (h2 : b ≠ c) : PenV (upd H b o) a c m := by
  obtain ⟨ns, at_, rest, e1, e2, r⟩ := h
  exact ⟨ns, at_, rest, by rw [upd_ne h1.symm]; exact e1, by rw [upd_ne h2.symm]; exact e2, r⟩
theorem PenV.same {H H' : Hp} {a c : Addr} {m : Nat} (h : PenV H a c m) (s : Same H H') : PenV H' a c m := h.x s (Nat.le_refl _)
theorem samex_at {a b : Addr} {H H' : Hp} {o : HO} (s : SameX a H H') (h : H b = none) : SameX a H (upd H' b o) := fun x u hx e => by
  rw [upd_ne (ne_of_none e h)]
  exact s x u hx e
end Lc
set_option Elab.async false
set_option linter.all false
set_option maxRecDepth 100000
set_option maxHeartbeats 4000000
namespace Lc
open PySem PySem.Spec PyProof.Rows L2 LcR
theorem seq_any {s rest : TS} {D : Ends} {σ : L2.St} {H : Hp} (C : L2.St → Hp → Prop) (h1 : ∀ K : L2.St → Hp → Prop, (∀ σ' H', C σ' H' → K σ' H') → s { D with nx := K } σ H) (h2 : ∀ σ' H', C σ' H' → rest D σ' H') : tSeq s rest D σ H := h1 _ h2
theorem exp_any {t : TE} {σ : L2.St} {H : Hp} {Q : VK} (C : V → Hp → Prop) (h1 : ∀ Q' : VK, (∀ x H', C x H' → Q' x H') → t σ H Q') (h2 : ∀ x H', C x H' → Q x H') : t σ H Q := h1 Q h2
theorem for2_any {r : List V → Hp → VK → Prop} {ta : TE} {tA : TA} {g : TG} {tb : TS} {D : Ends} {σ : L2.St} {H : Hp} (C : V → Hp → Prop) (h1 : ∀ Q' : VK, (∀ x H', C x H' → Q' x H') → ta σ H Q')
    (h2 : ∀ x H', C x H' → tFor (iRng2 (tCons (tCB r (tCons (fun _ _ Q => Q x H') tNil)) tA)) g tb D σ H) : tFor (iRng2 (tCons (tCB r (tCons ta tNil)) tA)) g tb D σ H := h1 _ h2
theorem for1_any {ta : TE} {g : TG} {tb : TS} {D : Ends} {σ : L2.St} {H : Hp} (C : V → Hp → Prop) (h1 : ∀ Q' : VK, (∀ x H', C x H' → Q' x H') → ta σ H Q')
    (h2 : ∀ x H', C x H' → tFor (iRng1 (tCons (fun _ _ Q => Q x H') tNil)) g tb D σ H) : tFor (iRng1 (tCons ta tNil)) g tb D σ H := h1 _ h2
theorem rgV0 (n : Nat) : rgV 0 (n : Int) = intV (List.range n) := by
  unfold rgV intV
  rw [show ((n : Int) - 0).toNat = n by omega]
  exact List.map_congr_left fun i _ => by simp
section
variable {P : Program} {w : World} {K : PySem.W.Frag} {mg : Str → Option Value} {base : Heap}
def sp_law_pick (K : PySem.W.Frag) : Sp := fun vs H Q _ => ∃ (a c : Addr) (m : Nat) (b : Addr) (xs : List V), vs = [.ref a, .ref b] ∧ PenV H a c m ∧ m < 1000000 ∧ H b = some (.lst xs) ∧ b ≠ a ∧ xs ≠ [] ∧ xs.length < 1000 ∧ ∀ H' x, SameX a H H' → PenV H' a c (m + 1) → x ∈ xs → Q x H'
theorem c_law_pick (T : Tx K mg) : C8.Cal P w K mg base 2 "_law_pick" (sp_law_pick K) [] := by
  obtain ⟨fd, F⟩ := T.f_law_pick
  refine calD F T.g_law_pick sc_law_pick (fun _ _ _ _ _ _ us hl => match us, hl with | [_, _], _ => rfl) (fun vs H Q E h => ?_) (fun cdv A outer s H vs Q E hr h => ?_)
  · obtain ⟨_, _, _, _, _, rfl, _⟩ := h; rfl
  obtain ⟨a, c, m, b, xs, rfl, hp, hm, eb, ba, xn, xl, k⟩ := h
  refine ⟨_, (pss_one (ps_ret (pe_ix ix_list (pv 1) (C8.pe_c (c_law_draw T) hr (by decide) (by rfl) (pa_cons (pv 0) (pa_cons (pe_callB call_len (by rfl) T.b_len (by decide +kernel) (pa_cons (pv 1) pa_nil)) pa_nil))) (fun _ _ => rfl)))), ?_⟩
  have xp : 0 < xs.length := List.length_pos_iff.mpr xn
  refine ⟨_, rfl, _, rfl, _, rfl, _, xs.length, rfl, .inl ⟨xs, .inl (.inl eb), rfl⟩, a, c, m, (xs.length : Int), rfl, hp, by omega, by omega, hm, fun H1 r s1 p1 r0 r1 => ?_⟩
  obtain ⟨j, rfl⟩ : ∃ j : Nat, r = (j : Int) := ⟨r.toNat, by omega⟩
  have hj : j < xs.length := by omega
  exact ⟨b, xs, _, xs[j], rfl, rfl, .inl (.inl (s1 _ _ ba eb)), atI_nat (List.getElem?_eq_getElem hj), k H1 _ s1 p1 (List.getElem_mem hj)⟩
def sp_law_acts (K : PySem.W.Frag) : Sp := fun vs H Q _ => ∃ (a c : Addr) (m : Nat), vs = [.ref a, .int 5, .int 1] ∧ PenV H a c m ∧ m < 900000 ∧
  ∀ H' t n l ac us, SameX a H H' → PenV H' a c (m + 300) → H' t = some (.tup [.int ((n : Nat) : Int), .ref ac]) → H ac = none → H' ac = some (.lst us) → All2 (ActV H') us l → OkActs n l → n ≤ 5 → l.length ≤ 15 → Q (.ref t) H'
theorem c_law_acts (T : Tx K mg) : C8.Cal P w K mg base 3 "_law_acts" (sp_law_acts K) [] := by
  obtain ⟨fd, F⟩ := T.f_law_acts
  refine calD F T.g_law_acts sc_law_acts (fun _ _ _ _ _ _ us hl => match us, hl with | [_, _, _], _ => rfl) (fun vs H Q E h => ?_) (fun cdv A outer s H vs Q E hr h => ?_)
  · obtain ⟨_, _, _, rfl, _⟩ := h; rfl
  obtain ⟨a, c, m, rfl, hp, hm, k⟩ := h
  refine ⟨_, (pss_cons (ps_par3 (i := 3) (j := 4) (l := 5) (by rfl) sc_law_acts.nd rfl rfl rfl (by decide) (by decide) (by decide) rfl rfl rfl (pa_cons (C8.pe_c (c_law_pick T) hr (by decide) (by rfl) (pa_cons (pv 0) (pa_cons (pe_lst (pa_cons (pv 1) (pa_cons (pv 1) (pa_cons (pv 1) (pa_cons (pe_op op_add pe_int (C8.pe_c (c_law_draw T) hr (by decide) (by rfl) (pa_cons (pv 0) (pa_cons (pv 1) pa_nil)))) pa_nil))))) pa_nil))) (pa_cons (C8.pe_c (c_law_pick T) hr (by decide) (by rfl) (pa_cons (pv 0) (pa_cons (pe_lst (pa_cons pe_int (pa_cons pe_int (pa_cons pe_int (pa_cons pe_int (pa_cons pe_int (pa_cons pe_int (pa_cons pe_int pa_nil)))))))) pa_nil))) (pa_cons (pe_lst pa_nil) pa_nil))) (by rfl))
      (pss_cons (ps_for PassesOwn.never rfl (pi_range1 (by rfl) T.b_range (pa_cons (pv 3) pa_nil)) (pg_name (i := 6) sc_law_acts.nd rfl (Or.inr rfl))
      (pss_cons (ps_set (i := 7) sc_law_acts.nd rfl (Or.inl rfl) (pe_listRg rfl (by rfl) T.b_list (prg_1 (by rfl) T.b_range (pv 3))))
      (pss_cons (ps_if (pt_cmpR op_eq (pv 4) pe_int (nomark _)) (pss_one (ps_set (i := 7) sc_law_acts.nd rfl (Or.inl rfl) (pe_slice sl_list (pv 7) (po_some (pv 6)) po_none))) pss_nil)
      (pss_cons (ps_if (PW.pt (pw_and (pt_cmpR op_gt (pv 4) pe_int (nomark _)) (pw_and1 (pt_cmpR op_gt (pv 3) pe_int (nomark _))))) (pss_one (ps_setLc (i := 7) (own := [("other", 13)]) (g := gName 13) (by rfl) sc_law_acts.nd rfl rfl (sw_true rfl rfl rfl (by decide +kernel)) (pi_list (pe_slice sl_list (pv 7) (po_some pe_int) po_none)) (blkOk_by (own := [("other", 13)]) (N := N_law_acts) (sc := defScope s_law_acts) (by decide +kernel)) (fun _ _ _ _ _ => (pg_name (i := 13) sc_law_acts.nd rfl (Or.inl rfl))) (fun _ _ _ _ _ => (pts_one (PW.pt (pw_or (pt_cmpR op_eq (pv 6) pe_int (nomark _)) (pw_or1 (pt_cmpR op_eq (pe_op op_fdivW (pe_op op_sub (pv 13) pe_int) pe_int) (pe_op op_fdivW (pe_op op_sub (pv 6) pe_int) pe_int) (nomark _))))))) (fun _ _ _ _ _ => (pv 13)))) pss_nil)
      (pss_cons (ps_set (i := 8) sc_law_acts.nd rfl (Or.inl rfl) (pe_callTy call_tuple_of (by rfl) T.b_tuple (by decide +kernel) (pa_cons (pe_lc (own := [("spot", 14)]) (g := gName 14) (by rfl) sc_law_acts.nd (pi_range1 (by rfl) T.b_range (pa_cons (pv 2) pa_nil)) (blkOk_by (own := [("spot", 14)]) (N := N_law_acts) (sc := defScope s_law_acts) (by decide +kernel)) (fun _ _ _ _ _ => (pg_name (i := 14) sc_law_acts.nd rfl (Or.inl rfl))) (fun _ _ _ _ _ => pts_nil) (fun _ _ _ _ _ => (pe_callTy call_int1 (by rfl) T.b_int (by decide +kernel) (pa_cons (pe_cmpR op_eq (pv 14) (pe_op op_modN (pe_callTy call_int1 (by rfl) T.b_int (by decide +kernel) (pa_cons (pv 6) pa_nil)) (pv 2)) (nomark _)) pa_nil)))) pa_nil)))
      (pss_cons (ps_if (PW.pt (pw_and (pt_cmpR op_eq (pv 4) pe_int (nomark _)) (pw_and1 (pt_cmpR op_gt (pv 6) pe_int (nomark _))))) (pss_one (ps_expr (pe_bm PySem.F.plainAttrs_list PySem.F.slot_list_append PySem.F.type_list_append mt_append (pv 5) (pa_cons (pe_tup (pa_cons (pv 6) (pa_cons (pe_tup (pa_cons (pe_tup (pa_cons pe_int (pa_cons (pv 6) (pa_cons pe_int (pa_cons (pv 8) pa_nil))))) pa_nil)) pa_nil))) pa_nil)))) pss_nil)
      (pss_one (ps_for PassesOwn.never rfl (pi_range2 (by rfl) T.b_range (pa_cons (pe_callTy call_int1 (by rfl) T.b_int (by decide +kernel) (pa_cons (pe_and (pe_cmpR op_eq (pv 4) pe_int (nomark _)) (pe_and (pe_cmpR op_gt (pv 6) pe_int (nomark _)) (pe_one (pe_cmpR op_lt (pe_callB call_len (by rfl) T.b_len (by decide +kernel) (pa_cons (pv 7) pa_nil)) pe_int (nomark _))))) pa_nil)) (pa_cons (pe_op op_add pe_int (C8.pe_c (c_law_draw T) hr (by decide) (by rfl) (pa_cons (pv 0) (pa_cons pe_int pa_nil)))) pa_nil))) (pg_name (i := 9) sc_law_acts.nd rfl (Or.inl rfl))
      (pss_cons (ps_set (i := 10) sc_law_acts.nd rfl (Or.inl rfl) (pe_lst pa_nil))
      (pss_cons (ps_for PassesOwn.never rfl (pi_range1 (by rfl) T.b_range (pa_cons (pe_ifExp (PW.pt (pw_and (pt_cmpR op_gt (pv 4) pe_int (nomark _)) (pw_and1 (pt_cmpR op_eq (pv 6) pe_int (nomark _))))) (pe_op op_add pe_int (C8.pe_c (c_law_draw T) hr (by decide) (by rfl) (pa_cons (pv 0) (pa_cons pe_int pa_nil)))) (pe_ix ix_list (pe_lst (pa_cons pe_int (pa_cons pe_int (pa_cons pe_int (pa_cons pe_int (pa_cons pe_int pa_nil)))))) (C8.pe_c (c_law_draw T) hr (by decide) (by rfl) (pa_cons (pv 0) (pa_cons pe_int pa_nil))) (fun _ _ => rfl))) pa_nil)) (pg_name (i := 11) sc_law_acts.nd rfl (Or.inl rfl))
      (pss_cons (ps_set (i := 12) sc_law_acts.nd rfl (Or.inl rfl) (pe_callTy call_tuple_of (by rfl) T.b_tuple (by decide +kernel) (pa_cons (pe_lc (own := [("spot", 14)]) (g := gName 14) (te := (tCall (sp_law_pick K) [] C8.E0 (tCons (tVar 0) (tCons (tLst (tCons (tC (.int 0)) (tCons (tC (.int 0)) (tCons (tC (.int 1)) (tCons (tC (.int 1)) (tCons (tUn (rU fun i => .int (-i)) (tC (.int 1))) (tCons (tC (.int 2)) tNil))))))) tNil)))) (by rfl) sc_law_acts.nd (pi_range1 (by rfl) T.b_range (pa_cons (pv 2) pa_nil)) (blkOk_by (own := [("spot", 14)]) (N := N_law_acts) (sc := defScope s_law_acts) (by decide +kernel)) (fun _ _ _ _ _ => (pg_name (i := 14) sc_law_acts.nd rfl (Or.inl rfl))) (fun _ _ _ _ _ => pts_nil) (fun _ _ _ _ _ => (C8.pe_c (c_law_pick T) hr (by decide) (by rfl) (pa_cons (pv 0) (pa_cons (pe_lst (pa_cons pe_int (pa_cons pe_int (pa_cons pe_int (pa_cons pe_int (pa_cons (pe_un un_neg pe_int) (pa_cons pe_int pa_nil))))))) pa_nil))))) pa_nil)))
      (pss_one (ps_expr (pe_bm PySem.F.plainAttrs_list PySem.F.slot_list_append PySem.F.type_list_append mt_append (pv 10) (pa_cons (pe_tup (pa_cons (pe_op op_add pe_int (C8.pe_c (c_law_draw T) hr (by decide) (by rfl) (pa_cons (pv 0) (pa_cons pe_int pa_nil)))) (pa_cons (C8.pe_c (c_law_pick T) hr (by decide) (by rfl) (pa_cons (pv 0) (pa_cons (pv 7) pa_nil))) (pa_cons (pe_ix ix_list (pe_lst (pa_cons pe_int (pa_cons pe_int (pa_cons pe_int pa_nil)))) (C8.pe_c (c_law_draw T) hr (by decide) (by rfl) (pa_cons (pv 0) (pa_cons pe_int pa_nil))) (fun _ _ => rfl)) (pa_cons (pv 12) pa_nil))))) pa_nil))))))
      (pss_one (ps_expr (pe_bm PySem.F.plainAttrs_list PySem.F.slot_list_append PySem.F.type_list_append mt_append (pv 5) (pa_cons (pe_tup (pa_cons (pv 6) (pa_cons (pe_callTy call_tuple_of (by rfl) T.b_tuple (by decide +kernel) (pa_cons (pv 10) pa_nil)) pa_nil))) pa_nil))))))))))))))
      (pss_one (ps_ret (pe_tup (pa_cons (pv 3) (pa_cons (pv 5) pa_nil))))))), ?_⟩
  have mk : ∀ r : Int, 0 ≤ r → ∃ q : Nat, r = (q : Int) := fun r h => ⟨r.toNat, by omega⟩
  have dom : ∀ {H' : Hp} {x : Addr}, SameX a H H' → H' x = none → x ≠ a → H x = none := fun {H' x} s h hx => by
    cases e : H x with
    | none => rfl
    | some o => rw [s x o hx e] at h; cases h
  have fresh : ∀ {H' : Hp} {x : Addr} {m' : Nat}, PenV H' a c m' → H' x = none → x ≠ a ∧ x ≠ c := fun {H' x m'} p h => by
    obtain ⟨ns, at_, rest, e1, e2, _⟩ := p
    exact ⟨fun z => by (subst z; rw [e1] at h; cases h), fun z => by (subst z; rw [e2] at h; cases h)⟩
  -- how many, which style
  refine ⟨_, rfl, _, rfl, _, rfl, _, rfl, _, rfl, _, rfl, a, c, m, 5, rfl, hp, by decide, by decide, by omega, fun H1 r s1 p1 r0 r1 => ?_⟩
  refine ⟨_, _, rfl, rfl, by show 4 ≤ sizeLine; decide, fun b hb => ?_⟩
  obtain ⟨f1, f2⟩ := fresh p1 hb
  have t2 := same_upd (o := .lst [.int 5, .int 5, .int 5, .int ((1 : Int) + r)]) hb
  refine ⟨a, c, m + 1, b, _, rfl, p1.same t2, by omega, upd_same, f1, by simp, by show 4 < 1000; decide, fun H3 x s3 p3 hx => ?_⟩
  obtain ⟨n, rfl, n1, n5⟩ : ∃ n : Nat, x = V.int (n : Int) ∧ 1 ≤ n ∧ n ≤ 5 := by
    simp only [List.mem_cons, List.not_mem_nil, or_false] at hx
    rcases hx with rfl | rfl | rfl | rfl
    · exact ⟨5, rfl, by omega, by omega⟩
    · exact ⟨5, rfl, by omega, by omega⟩
    · exact ⟨5, rfl, by omega, by omega⟩
    · exact ⟨(1 + r).toNat, by congr 1; omega, by omega, by omega⟩
  refine ⟨_, rfl, by show 7 ≤ sizeLine; decide, fun b2 hb2 => ?_⟩
  obtain ⟨f3, f4⟩ := fresh p3 hb2
  have t4 := same_upd (o := .lst [.int 0, .int 1, .int 2, .int 3, .int 4, .int 4, .int 4]) hb2
  refine ⟨a, c, m + 1 + 1, b2, _, rfl, p3.same t4, by omega, upd_same, f3, by simp, by show 7 < 1000; decide, fun H5 x s5 p5 hx => ?_⟩
  obtain ⟨st, rfl⟩ : ∃ st : Int, x = V.int st := by
    simp only [List.mem_cons, List.not_mem_nil, or_false] at hx
    rcases hx with rfl | rfl | rfl | rfl | rfl | rfl | rfl <;> exact ⟨_, rfl⟩
  have s05 : SameX a H H5 := s1.trans ((SameX.of t2).trans (s3.trans ((SameX.of t4).trans s5)))
  refine ⟨Nat.zero_le _, fun Ac hAc => ⟨_, _, _, rfl, ?_⟩⟩
  obtain ⟨aAc, cAc⟩ := fresh p5 hAc
  have hAcH := dom s05 hAc aAc
  refine ⟨_, rfl, (n : Int), rfl, by omega, by omega, ?_⟩
  rw [Int.toNat_natCast]
  refine for_it walk_range (fun i σ H2 => (∃ x6 x7 x8 x9 x10 x11 x12, σ = [some (.ref a), some (.int 5), some (.int 1), some (.int (n : Int)), some (.int st), some (.ref Ac), x6, x7, x8, x9, x10, x11, x12, none, none]) ∧ SameX a H H2 ∧ PenV H2 a c (m + 3 + 50 * i) ∧ ∃ us l, H2 Ac = some (.lst us) ∧ All2 (ActV H2) us l ∧ (∀ d ∈ l, OkAct n d) ∧ (∀ s, s < i → ∃ d ∈ l, d.1 = s) ∧ l.length ≤ 3 * i)
    ⟨⟨none, none, none, none, none, none, none, rfl⟩, samex_at s05 hAcH, (p5.other aAc cAc).le (by omega), [], [], upd_same, All2.nil, fun _ h => by simp at h, fun s h => absurd h (Nat.not_lt_zero _), by simp⟩ (fun i σ H2 _ p => trivial) ?_ ?_
  · rintro i x σ H3' H2 hi ⟨⟨x6, x7, x8, x9, x10, x11, x12, rfl⟩, s2, p2, us, l, eA, aA, okl, alls, ll⟩ ⟨rfl, ex⟩
    obtain rfl : x = V.int ((i : Nat) : Int) := ex.trans (congrArg V.int (Int.zero_add _))
    -- near
    refine ⟨_, rfl, (n : Int), rfl, RgOk.of_le (by omega) (by omega) (by omega) (by omega), fun N0 hN0 => ?_⟩
    rw [rgV0]
    have t6 := same_upd (o := .lst (intV (List.range n))) hN0
    obtain ⟨aN0, cN0⟩ := fresh p2 hN0
    dsimp only [gName]
    refine seq_any (fun σ' H' => Same H2 H' ∧ ∃ N nl, σ' = [some (.ref a), some (.int 5), some (.int 1), some (.int (n : Int)), some (.int st), some (.ref Ac), some (.int (i : Int)), some (.ref N), x8, x9, x10, x11, x12, none, none] ∧ H' N = some (.lst (intV nl)) ∧ H2 N = none ∧ (st ≠ 1 → nl = List.range n) ∧ nl ≠ [] ∧ (∀ x ∈ nl, x < n) ∧ nl.length ≤ 5) (fun KK hK => ?_) (fun σ' H6 hC => ?_)
    · refine ⟨_, rfl, rfl, _, rfl, ite2 (fun h1 => ?_) (fun h1 => ?_)⟩
      · refine ⟨_, rfl, _, rfl, _, rfl, N0, _, rfl, .inl (.inl upd_same), fun p hp => ?_⟩
        have e1 : cutV (intV (List.range n)) (some (i : Int)) none = intV ((List.range n).drop i) := by
          rw [cut_hi _ _ (by unfold intV; rw [List.length_map, List.length_range]; omega)]
          unfold intV
          rw [List.map_drop]
        rw [e1]
        refine hK _ _ ⟨t6.trans (same_upd hp), p, (List.range n).drop i, rfl, upd_same, none_back t6 hp, fun h => ?_, ?_, fun x hx => List.mem_range.mp (List.mem_of_mem_drop hx), by simp; omega⟩
        · exact absurd (V.int.inj (of_decide_eq_true h1)) h
        · intro e
          have := congrArg List.length e
          simp at this
          omega
      · exact hK _ _ ⟨t6, N0, List.range n, rfl, upd_same, hN0, fun _ => rfl, fun e => by (have := congrArg List.length e; simp at this; omega), fun x hx => List.mem_range.mp hx, by simp; omega⟩
    obtain ⟨s6, N1, nl1, rfl, eN1, hN1, n1s, n1n, n1l, n1z⟩ := hC

    refine seq_any (fun σ' H' => Same H2 H' ∧ ∃ N nl, σ' = [some (.ref a), some (.int 5), some (.int 1), some (.int (n : Int)), some (.int st), some (.ref Ac), some (.int (i : Int)), some (.ref N), x8, x9, x10, x11, x12, none, none] ∧ H' N = some (.lst (intV nl)) ∧ H2 N = none ∧ nl ≠ [] ∧ (∀ x ∈ nl, x < n) ∧ nl.length ≤ 5) (fun KK hK => ?_) (fun σ' H7 hC => ?_)
    · refine ⟨_, rfl, _, _, rfl, rfl, _, rfl, ite2 (fun h1 => ?_) (fun h1 => ?_)⟩
      · refine ⟨_, rfl, _, _, rfl, rfl, _, rfl, ite2 (fun h2 => ?_) (fun h2 => ?_)⟩
        · have h1 := of_decide_eq_true h1
          have h2 := of_decide_eq_true h2
          have e1 := n1s (by omega)
          subst e1
          refine ⟨_, rfl, 1, rfl, N1, _, rfl, .inl (.inl eN1), fun p hp => ?_⟩
          have e1 : cutV (intV (List.range n)) (some 1) none = (intV (List.range n)).drop 1 := cut1 _
          rw [e1]
          have il : ((intV (List.range n)).drop 1).length = n - 1 := by unfold intV; simp
          have t7 := same_upd (o := .lst ((intV (List.range n)).drop 1)) hp
          refine ⟨p, rfl, ⟨_, .inl (.inl upd_same)⟩, fun D hD => ?_⟩
          have ep : upd H6 p (.lst ((intV (List.range n)).drop 1)) p = some (.lst ((intV (List.range n)).drop 1)) := upd_same
          generalize upd H6 p (.lst ((intV (List.range n)).drop 1)) = H7 at t7 ep hD
          refine lcm walk_list hD (Nat.le_trans (by omega : ((intV (List.range n)).drop 1).length ≤ 5) (by decide)) (fun j => decide (i = 0) || decide ((((j + 1 : Nat) : Int) - 1) / 2 = ((i : Int) - 1) / 2)) (fun j y _ => y = .int ((j + 1 : Nat) : Int)) (fun _ _ _ _ _ h => h) (fun H1 s => .inl (.inl (s _ _ ep))) (fun j x H8 H1 kN' kY hj s y kn ky => ?_) (fun H9 ys s9 e9 kp => ?_)
          · obtain ⟨rfl, hx⟩ := y
            have hxe : x = V.int ((j + 1 : Nat) : Int) := by
              unfold intV at hx
              rw [List.getElem?_drop, List.getElem?_map, List.getElem?_range (by omega)] at hx
              cases hx
              rw [Nat.add_comm]
            subst hxe
            refine ⟨rfl, ⟨_, rfl, rfl, _, rfl, ite2 (fun h3 => ?_) (fun h3 => ?_)⟩⟩
            · have h3 := V.int.inj (of_decide_eq_true h3)
              exact ⟨_, rfl, ky _ _ (Same.refl _) (by simp; left; omega) rfl⟩
            · have h3 : i ≠ 0 := fun z => h3 (decide_eq_true (by rw [z]; rfl))
              refine ⟨_, rfl, _, _, rfl, rfl, _, _, rfl, rfl, ⟨by decide, by decide⟩, _, rfl, _, _, rfl, rfl, _, _, rfl, rfl, ⟨by decide, by decide⟩, rfl, _, rfl, ite2 (fun h4 => ?_) (fun h4 => ?_)⟩
              · have h4 := V.int.inj (of_decide_eq_true h4)
                exact ⟨_, rfl, ky _ _ (Same.refl _) (by rw [decide_eq_true h4]; simp) rfl⟩
              · have h4 : ¬ (((j + 1 : Nat) : Int) - 1) / 2 = ((i : Int) - 1) / 2 := fun z => h4 (decide_eq_true (congrArg V.int z))
                exact kn _ (Same.refl _) (by rw [decide_eq_false h3, decide_eq_false h4]; rfl)
          · have eys := kept_map (f := fun j => V.int ((j + 1 : Nat) : Int)) kp
            rw [il] at eys
            have eys2 : ys = intV (((List.range (n - 1)).filter fun j => decide (i = 0) || decide ((((j + 1 : Nat) : Int) - 1) / 2 = ((i : Int) - 1) / 2)).map (· + 1)) := by
              rw [eys]
              unfold intV
              rw [List.map_map]
              rfl
            refine hK _ _ ⟨s6.trans (t7.trans s9), D, _, rfl, by rw [e9, eys2], none_back (s6.trans t7) hD, fun e => ?_, fun x hx => ?_, ?_⟩
            · have hmem : (if i = 0 then 0 else i - 1) ∈ (List.range (n - 1)).filter fun j => decide (i = 0) || decide ((((j + 1 : Nat) : Int) - 1) / 2 = ((i : Int) - 1) / 2) := by
                rw [List.mem_filter, List.mem_range]
                by_cases hz : i = 0
                · simp [hz]; omega
                · rw [if_neg hz, show i - 1 + 1 = i by omega]
                  exact ⟨by omega, by simp⟩
              have := List.map_eq_nil_iff.mp e
              rw [this] at hmem
              cases hmem
            · obtain ⟨j, hj, rfl⟩ := List.mem_map.mp hx
              have := List.mem_range.mp (List.mem_filter.mp hj).1
              omega
            · rw [List.length_map]
              have := List.length_filter_le (fun j => decide (i = 0) || decide ((((j + 1 : Nat) : Int) - 1) / 2 = ((i : Int) - 1) / 2)) (List.range (n - 1))
              rw [List.length_range] at this
              omega
        · exact hK _ _ ⟨s6, N1, nl1, rfl, eN1, hN1, n1n, n1l, n1z⟩
      · exact iteF (hK _ _ ⟨s6, N1, nl1, rfl, eN1, hN1, n1n, n1l, n1z⟩)
    obtain ⟨s7, N, nl, rfl, eN, hN2, nn, nlt, nlz⟩ := hC
    obtain ⟨aN, cN⟩ := fresh p2 hN2
    have AN : N ≠ Ac := fun z => by subst z; rw [eA] at hN2; cases hN2
    -- unit
    refine ⟨_, rfl, 1, rfl, by decide, by decide, fun D hD => ?_⟩
    refine lcm walk_range hD (by show (1 : Int).toNat ≤ sizeLine; decide) (fun _ => true) (fun j y _ => ∃ z : Int, y = .int z ∧ -999 ≤ z ∧ z ≤ 999) (fun _ _ _ _ _ h => h) (fun H1 s => trivial) (fun j x H8 H1 kN' kY hj s y kn ky => ?_) (fun H8 ys s8 e8 kp => ?_)
    · obtain ⟨rfl, ex⟩ := y
      obtain rfl : x = V.int ((j : Nat) : Int) := ex.trans (congrArg V.int (Int.zero_add _))
      refine ⟨rfl, yes ⟨_, rfl, _, rfl, .inl ⟨_, rfl, _, rfl, _, _, rfl, rfl, (by show (1 : Int) ≠ 0; decide), rfl, .inr ⟨_, rfl, ky _ _ (Same.refl _) rfl ⟨_, rfl, ?_, ?_⟩⟩⟩⟩⟩
      · split <;> decide
      · split <;> decide
    obtain ⟨l1, l2⟩ := kp.all
    obtain ⟨z, rfl, z1, z2⟩ : ∃ z : Int, ys = [z].map V.int ∧ -999 ≤ z ∧ z ≤ 999 := by
      have hl : ys.length = 1 := l1
      obtain ⟨z, hz, h1, h2⟩ := l2 0 _ (List.getElem?_eq_getElem (by omega))
      refine ⟨z, ?_, h1, h2⟩
      apply List.ext_getElem?
      intro q
      cases q with
      | zero => rw [List.getElem?_eq_getElem (by omega), hz]; rfl
      | succ q => rw [List.getElem?_eq_none (by omega)]; rfl
    refine ⟨D, _, rfl, .inl ⟨.inl (.inl e8), fun U hU => ?_⟩⟩
    have s9 := s7.trans (s8.trans (same_upd (o := .tup ([z].map V.int)) hU))
    have eU : upd H8 U (.tup ([z].map V.int)) U = some (.tup ([z].map V.int)) := upd_same
    have eN9 := (s8.trans (same_upd (o := .tup ([z].map V.int)) hU)) _ _ eN
    dsimp only [gName]
    generalize upd H8 U (.tup ([z].map V.int)) = H9 at s9 eU eN9
    refine seq_any (fun σ' H' => σ' = [some (.ref a), some (.int 5), some (.int 1), some (.int (n : Int)), some (.int st), some (.ref Ac), some (.int (i : Int)), some (.ref N), some (.ref U), x9, x10, x11, x12, none, none] ∧ SameX a H H' ∧ PenV H' a c (m + 3 + 50 * i) ∧ H' N = some (.lst (intV nl)) ∧ ∃ us l, H' Ac = some (.lst us) ∧ All2 (ActV H') us l ∧ (∀ d ∈ l, OkAct n d) ∧ (∀ s, s < i → ∃ d ∈ l, d.1 = s) ∧ l.length ≤ 3 * i + 1 ∧ (st = 4 → 0 < i → ∃ d ∈ l, d.1 = i)) (fun KK hK => ?_) (fun σ' H10 hC => ?_)
    · have eA9 := s9 _ _ eA
      have aA9 : All2 (ActV H9) us l := aA.imp fun x y z => z.n (same_n s9)
      have s29 := s2.trans (SameX.of s9)
      have p9 := p2.same s9
      refine ⟨_, rfl, rfl, _, rfl, ite2 (fun h1 => ?_) (fun h1 => iteF ?_)⟩
      · refine ⟨_, rfl, _, _, rfl, rfl, _, rfl, ite2 (fun h2 => ?_) (fun h2 => ?_)⟩
        · have h2 := of_decide_eq_true h2
          refine ⟨_, rfl, .inl ⟨rfl, _, .inl (.inl eA9)⟩, _, rfl, _, rfl, _, rfl, by show 4 ≤ sizeLine; decide, fun t1 ht1 => ⟨by show 1 ≤ sizeLine; decide, fun t2 ht2 => ⟨by show 2 ≤ sizeLine; decide, fun t3 ht3 => ?_⟩⟩⟩
          have u1 := (same_upd (o := .tup [.int 1, .int (i : Int), .int 1, .ref U]) ht1).trans ((same_upd (o := .tup [.ref t1]) ht2).trans (same_upd (o := .tup [.int (i : Int), .ref t2]) ht3))
          have g1 : upd (upd (upd H9 t1 (.tup [.int 1, .int (i : Int), .int 1, .ref U])) t2 (.tup [.ref t1])) t3 (.tup [.int (i : Int), .ref t2]) t1 = some (.tup [.int 1, .int (i : Int), .int 1, .ref U]) := same_upd ht3 _ _ (same_upd ht2 _ _ upd_same)
          have g2 : upd (upd (upd H9 t1 (.tup [.int 1, .int (i : Int), .int 1, .ref U])) t2 (.tup [.ref t1])) t3 (.tup [.int (i : Int), .ref t2]) t2 = some (.tup [.ref t1]) := same_upd ht3 _ _ upd_same
          have g3 : upd (upd (upd H9 t1 (.tup [.int 1, .int (i : Int), .int 1, .ref U])) t2 (.tup [.ref t1])) t3 (.tup [.int (i : Int), .ref t2]) t3 = some (.tup [.int (i : Int), .ref t2]) := upd_same
          have gU := u1 _ _ eU
          generalize upd (upd (upd H9 t1 (.tup [.int 1, .int (i : Int), .int 1, .ref U])) t2 (.tup [.ref t1])) t3 (.tup [.int (i : Int), .ref t2]) = H10 at u1 g1 g2 g3 gU
          have eA10 := u1 _ _ eA9
          have snA : SameN H10 (upd H10 Ac (.lst (us ++ [.ref t3]))) := sameN_upd eA10 (fun z => z)
          refine ⟨Ac, us, _, rfl, rfl, eA10, Nat.lt_of_le_of_lt (by rw [aA.1]; omega : us.length ≤ 100) (by decide), ?_⟩
          refine hK _ _ ⟨rfl, samex_at (s29.trans (SameX.of u1)) hAcH, (p9.same u1).other aAc cAc, by rw [upd_ne AN]; exact u1 _ _ eN9, us ++ [.ref t3], l ++ [(i, [⟨1, i, 1, [z]⟩])], upd_same, (aA9.imp fun x y z => (z.n (same_n u1)).n snA).snoc (show ActV _ (V.ref t3) (i, [⟨1, i, 1, [z]⟩]) from ⟨t3, t2, [.ref t1], rfl, snA _ _ g3 trivial, snA _ _ g2 trivial, all2_one (show OutV _ (V.ref t1) ⟨1, i, 1, [z]⟩ from ⟨t1, U, rfl, snA _ _ g1 trivial, snA _ _ gU trivial⟩)⟩), fun d hd => ?_, fun s hs => ?_, by rw [List.length_append]; show l.length + 1 ≤ _; omega, fun _ _ => ⟨_, List.mem_append_right _ (List.mem_singleton.mpr rfl), rfl⟩⟩
          · rcases List.mem_append.mp hd with q | q
            · exact okl d q
            · rw [List.mem_singleton.mp q]
              refine ⟨hi, by simp, by show 1 ≤ 4; omega, fun o ho => ?_⟩
              rw [List.mem_singleton.mp ho]
              exact ⟨by show 1 ≤ 1; omega, by show 1 ≤ 10; omega, hi, by show 1 ≤ 1; omega, by show 1 ≤ 1000; omega, rfl, fun q hq => by rw [List.mem_singleton.mp hq]; omega⟩
          · obtain ⟨d, q1, q2⟩ := alls s hs
            exact ⟨d, List.mem_append_left _ q1, q2⟩
        · have h2 : ¬ (0 : Int) < (i : Int) := fun q => h2 (decide_eq_true q)
          exact hK _ _ ⟨rfl, s29, p9, eN9, us, l, eA9, aA9, okl, alls, by omega, fun _ q => by omega⟩
      · have h1 : st ≠ 4 := fun q => h1 (decide_eq_true (by rw [q]))
        exact hK _ _ ⟨rfl, s29, p9, eN9, us, l, eA9, aA9, okl, alls, by omega, fun q => absurd q h1⟩
    obtain ⟨rfl, s10, p10, eN10, us, l, eA, aA, okl, alls, ll, own4⟩ := hC
    clear s9 eN9 s7 eN s8 e8 hD hU
    refine for2_any (fun x H' => ∃ b : Bool, x = .bl b ∧ H' = H10 ∧ (b = true → st = 4 ∧ 0 < i)) (fun Q' hQ => ?_) (fun x H11 hC => ?_)
    · refine ⟨_, rfl, rfl, _, rfl, ite2 (fun h1 => ?_) (fun h1 => ?_)⟩
      · have h1 := V.int.inj (of_decide_eq_true h1)
        refine ⟨_, rfl, _, _, rfl, rfl, _, rfl, ite2 (fun h2 => ?_) (fun h2 => ?_)⟩
        · have h2 := of_decide_eq_true h2
          exact ⟨_, rfl, _, nl.length, rfl, .inl ⟨intV nl, .inl (.inl eN10), (List.length_map _).symm⟩, _, _, rfl, rfl, hQ _ _ ⟨_, rfl, rfl, fun _ => ⟨h1, by omega⟩⟩⟩
        · exact hQ _ _ ⟨false, rfl, rfl, fun h => by cases h⟩
      · exact hQ _ _ ⟨false, rfl, rfl, fun h => by cases h⟩
    obtain ⟨b4, rfl, rfl, hb4⟩ := hC
    refine .inr ⟨b4, rfl, ?_⟩
    refine ⟨_, rfl, a, c, _, 2, rfl, p10, by decide, by decide, by omega, fun H12 r12 s12 p12 r0' r1' => ?_⟩
    obtain ⟨r12, rfl⟩ := mk r12 r0'
    refine ⟨_, _, rfl, rfl, (if b4 = true then 1 else 0), (1 : Int) + (r12 : Int), rfl, ⟨?_, ?_, by omega, by omega⟩, ?_⟩
    · cases b4 <;> decide
    · cases b4 <;> decide
    obtain ⟨cnt, ec, c2, c1⟩ : ∃ cnt : Nat, (((1 : Int) + (r12 : Int)) - (if b4 = true then 1 else 0)).toNat = cnt ∧ cnt ≤ 2 ∧ (b4 = false → 1 ≤ cnt) := by
      cases b4
      · exact ⟨1 + r12, by simp; omega, by omega, fun _ => by omega⟩
      · exact ⟨r12, by simp; omega, by omega, fun h => by cases h⟩
    rw [ec]
    obtain ⟨xs10, ea10⟩ := p10.at_
    have sn12 := s12.n ea10
    refine for_it walk_range (fun jj σ H2 => (∃ x9 x10 x11 x12, σ = [some (.ref a), some (.int 5), some (.int 1), some (.int (n : Int)), some (.int st), some (.ref Ac), some (.int (i : Int)), some (.ref N), some (.ref U), x9, x10, x11, x12, none, none]) ∧ SameX a H H2 ∧ PenV H2 a c (m + 3 + 50 * i + 1 + 20 * jj) ∧ H2 N = some (.lst (intV nl)) ∧ ∃ us l, H2 Ac = some (.lst us) ∧ All2 (ActV H2) us l ∧ (∀ d ∈ l, OkAct n d) ∧ (∀ s, s < i → ∃ d ∈ l, d.1 = s) ∧ l.length ≤ 3 * i + 1 + jj ∧ (st = 4 → 0 < i → ∃ d ∈ l, d.1 = i) ∧ (1 ≤ jj → ∃ d ∈ l, d.1 = i))
      ⟨⟨x9, x10, x11, x12, rfl⟩, s10.trans s12, p12.le (by omega), s12 _ _ aN eN10, us, l, s12 _ _ aAc eA, aA.imp fun x y z => z.n sn12, okl, alls, by omega, own4, fun h => absurd h (by omega)⟩ (fun i σ H2 _ p => trivial) ?_ ?_
    · rintro jj x σ H14' H13 hjj ⟨⟨x9, x10, x11, x12, rfl⟩, s13, p13, eN13, us, l, eA, aA, okl, alls, ll, own4, one⟩ ⟨rfl, ex⟩
      subst ex
      refine ⟨Nat.zero_le _, fun Oc hOc => ?_⟩
      obtain ⟨aOc, cOc⟩ := fresh p13 hOc
      have AOc : Ac ≠ Oc := fun z => by subst z; rw [eA] at hOc; cases hOc
      have NOc : N ≠ Oc := fun z => by subst z; rw [eN13] at hOc; cases hOc
      have hOcH := dom s13 hOc aOc
      have t14 := same_upd (o := .lst []) hOc
      have p14 := p13.same t14
      have eO14 : upd H13 Oc (.lst []) Oc = some (.lst []) := upd_same
      have eA14 := t14 _ _ eA
      have eN14 := t14 _ _ eN13
      have s14 : SameX a H (upd H13 Oc (.lst [])) := s13.trans (SameX.of t14)
      have aA14 : All2 (ActV (upd H13 Oc (.lst []))) us l := aA.imp fun x y z => z.n (same_n t14)
      dsimp only [gName, tSeq]
      generalize upd H13 Oc (.lst []) = H14 at p14 eO14 eA14 eN14 s14 aA14
      refine for1_any (fun x H' => ∃ cn : Nat, x = .int (cn : Int) ∧ 1 ≤ cn ∧ cn ≤ 4 ∧ SameX a H14 H' ∧ PenV H' a c (m + 3 + 50 * i + 1 + 20 * jj + 1)) (fun Q' hQ => ?_) (fun x H15 hC => ?_)
      · have two : ∀ (H' : Hp) (r : Int), SameX a H14 H' → PenV H' a c (m + 3 + 50 * i + 1 + 20 * jj + 1) → 0 ≤ r → r < 3 → Q' (.int (2 + r)) H' := fun H' r q1 q2 q3 q4 => hQ _ _ ⟨(2 + r).toNat, by congr 1; omega, by omega, by omega, q1, q2⟩
        have five : tOp (rIxL K) (tLst (tCons (tC (.int 1)) (tCons (tC (.int 1)) (tCons (tC (.int 2)) (tCons (tC (.int 2)) (tCons (tC (.int 3)) tNil)))))) (tCall sp_law_draw [] C8.E0 (tCons (tVar 0) (tCons (tC (.int 5)) tNil))) ((([some (.ref a), some (.int 5), some (.int 1), some (.int (n : Int)), some (.int st), some (.ref Ac), some (.int (i : Int)), some (.ref N), some (.ref U), x9, x10, x11, x12, none, none].set 9 (some (.int ((if b4 = true then 1 else 0) + (jj : Int))))).set 10 (some (.ref Oc)))) H14 Q' := by
          refine ⟨by show 5 ≤ sizeLine; decide, fun q hq => ?_⟩
          have tq := same_upd (o := .lst [.int 1, .int 1, .int 2, .int 2, .int 3]) hq
          obtain ⟨aq, _⟩ := fresh p14 hq
          refine ⟨_, rfl, a, c, _, 5, rfl, p14.same tq, by decide, by decide, by omega, fun H' r q1 q2 q3 q4 => ?_⟩
          obtain ⟨r, rfl⟩ := mk r q3
          have hv : ∃ cn : Nat, ([V.int 1, .int 1, .int 2, .int 2, .int 3] : List V)[r]? = some (.int (cn : Int)) ∧ 1 ≤ cn ∧ cn ≤ 4 := by
            have : r = 0 ∨ r = 1 ∨ r = 2 ∨ r = 3 ∨ r = 4 := by omega
            rcases this with rfl | rfl | rfl | rfl | rfl
            · exact ⟨1, rfl, by omega, by omega⟩
            · exact ⟨1, rfl, by omega, by omega⟩
            · exact ⟨2, rfl, by omega, by omega⟩
            · exact ⟨2, rfl, by omega, by omega⟩
            · exact ⟨3, rfl, by omega, by omega⟩
          obtain ⟨cn, e1, e2, e3⟩ := hv
          exact ⟨q, _, _, _, rfl, rfl, .inl (.inl (q1 _ _ aq upd_same)), atI_nat e1, hQ _ _ ⟨cn, rfl, e2, e3, (SameX.of tq).trans q1, q2⟩⟩
        refine ⟨_, rfl, _, _, rfl, rfl, _, rfl, ite2 (fun h1 => ?_) (fun h1 => iteF five)⟩
        refine ⟨_, rfl, rfl, _, rfl, ite2 (fun h2 => ?_) (fun h2 => five)⟩
        exact ⟨_, rfl, a, c, _, 3, rfl, p14, by decide, by decide, by omega, fun H' r q1 q2 q3 q4 => ⟨_, _, rfl, rfl, two H' r q1 q2 q3 q4⟩⟩
      obtain ⟨cn, rfl, cn1, cn4, s15, p15⟩ := hC
      refine ⟨(cn : Int), rfl, by omega, by omega, ?_⟩
      rw [Int.toNat_natCast]
      obtain ⟨xs14, ea14⟩ := p14.at_
      have sn15 := s15.n ea14
      refine for_it walk_range (fun kk σ H8 => (∃ x9 x11 x12, σ = [some (.ref a), some (.int 5), some (.int 1), some (.int (n : Int)), some (.int st), some (.ref Ac), some (.int (i : Int)), some (.ref N), some (.ref U), x9, some (.ref Oc), x11, x12, none, none]) ∧ SameX a H H8 ∧ PenV H8 a c (m + 3 + 50 * i + 1 + 20 * jj + 1 + 4 * kk) ∧ H8 N = some (.lst (intV nl)) ∧ H8 Ac = some (.lst us) ∧ All2 (ActV H8) us l ∧ ∃ ous ol, H8 Oc = some (.lst ous) ∧ All2 (OutV H8) ous ol ∧ (∀ o ∈ ol, OkOut n o) ∧ ol.length = kk)
        ⟨⟨_, _, _, rfl⟩, s14.trans s15, p15.le (by omega), s15 _ _ aN eN14, s15 _ _ aAc eA14, aA14.imp fun x y z => z.n sn15, [], [], s15 _ _ aOc eO14, All2.nil, fun _ h => by simp at h, rfl⟩ (fun i σ H2 _ p => trivial) ?_ ?_
      · rintro kk x σ H9' H8 hkk ⟨⟨x9, x11, x12, rfl⟩, s8, p8, eN8, eA8, aA8, ous, ol, eO8, aO8, oko, oll⟩ ⟨rfl, ex⟩
        obtain rfl : x = V.int ((kk : Nat) : Int) := ex.trans (congrArg V.int (Int.zero_add _))
        -- pays
        refine ⟨_, rfl, 1, rfl, by decide, by decide, fun D hD => ?_⟩
        obtain ⟨aD, cD⟩ := fresh p8 hD
        refine lc_it walk_range (fun q H' => SameX a H8 H' ∧ PenV H' a c (m + 3 + 50 * i + 1 + 20 * jj + 1 + 4 * kk + q) ∧ ∃ ps : List Int, H' D = some (.lst (ps.map V.int)) ∧ ps.length = q ∧ ∀ y ∈ ps, -999 ≤ y ∧ y ≤ 999)
          ⟨SameX.of (same_upd hD), (p8.same (same_upd hD)).le (by omega), [], upd_same, rfl, fun _ h => by simp at h⟩ (fun _ _ _ _ => trivial) (fun q x H9 H9' hq pv y => ?_) (fun H9 pv => ?_)
        · obtain ⟨rfl, _⟩ := y
          have pv' : SameX a H8 H9' ∧ PenV H9' a c (m + 3 + 50 * i + 1 + 20 * jj + 1 + 4 * kk + q) ∧ ∃ ps : List Int, H9' D = some (.lst (ps.map V.int)) ∧ ps.length = q ∧ ∀ y ∈ ps, -999 ≤ y ∧ y ≤ 999 := pv
          clear pv
          obtain ⟨s9, p9, ps, eD, pl, pb⟩ := pv'
          have hq1 : q < 1 := hq
          refine ⟨rfl, yes ⟨_, rfl, 1, rfl, by show 6 ≤ sizeLine; decide, fun b hb => ?_⟩⟩
          obtain ⟨ab, cb⟩ := fresh p9 hb
          have tb := same_upd (o := .lst [.int 0, .int 0, .int 1, .int 1, .int (-1), .int 2]) hb
          refine ⟨a, c, _, b, _, rfl, p9.same tb, by omega, upd_same, ab, by simp, by show 6 < 1000; decide, fun H10 x s10 p10 hx => ?_⟩
          obtain ⟨y, rfl, y1, y2⟩ : ∃ y : Int, x = V.int y ∧ -999 ≤ y ∧ y ≤ 999 := by
            simp only [List.mem_cons, List.not_mem_nil, or_false] at hx
            rcases hx with rfl | rfl | rfl | rfl | rfl | rfl <;> exact ⟨_, rfl, by decide, by decide⟩
          have eD10 := s10 _ _ aD (tb _ _ eD)
          have dD : H8 D = none := hD
          refine ⟨_, eD10, Nat.lt_of_le_of_lt (by rw [List.length_map, pl]; omega : (ps.map V.int).length ≤ 1) (by decide), ?_⟩
          refine ⟨samex_at (s9.trans ((SameX.of tb).trans s10)) dD, (p10.other aD cD).le (by omega), ps ++ [y], by rw [upd_same, List.map_append]; rfl, by rw [List.length_append, pl]; rfl, fun z hz => ?_⟩
          rcases List.mem_append.mp hz with h | h
          · exact pb z h
          · rw [List.mem_singleton.mp h]; exact ⟨y1, y2⟩
        have pv' : SameX a H8 H9 ∧ PenV H9 a c (m + 3 + 50 * i + 1 + 20 * jj + 1 + 4 * kk + 1) ∧ ∃ ps : List Int, H9 D = some (.lst (ps.map V.int)) ∧ ps.length = 1 ∧ ∀ y ∈ ps, -999 ≤ y ∧ y ≤ 999 := pv
        clear pv
        obtain ⟨s9, p9, ps, eD, pl, pb⟩ := pv'
        refine ⟨D, _, rfl, .inl ⟨.inl (.inl eD), fun tp htp => ?_⟩⟩
        have u9 := same_upd (o := .tup (ps.map V.int)) htp
        have etp : upd H9 tp (.tup (ps.map V.int)) tp = some (.tup (ps.map V.int)) := upd_same
        obtain ⟨xs8, ea8⟩ := p8.at_
        have sn9 := (s9.n ea8).trans (same_n u9)
        have s89 := s9.trans (SameX.of u9)
        have p9' := p9.same u9
        dsimp only [gName]
        generalize upd H9 tp (.tup (ps.map V.int)) = H10 at etp sn9 s89 p9'
        -- the outcome
        refine ⟨_, rfl, .inl ⟨rfl, _, .inl (.inl (s89 _ _ aOc eO8))⟩, _, rfl, a, c, _, 3, rfl, p9', by decide, by decide, by omega, fun H11 r s11 p11 r0 r1 => ?_⟩
        obtain ⟨r, rfl⟩ := mk r r0
        obtain ⟨xs10, ea10'⟩ := p9'.at_
        have sn11 := s11.n ea10'
        refine ⟨_, _, rfl, rfl, _, rfl, _, rfl, a, c, _, N, intV nl, rfl, p11, by omega, (s89.trans s11) _ _ aN eN8, aN, ?_, ?_, fun H12 x s12 p12 hx => ?_⟩
        · intro e
          exact nn (List.map_eq_nil_iff.mp e)
        · unfold intV
          rw [List.length_map]
          omega
        obtain ⟨tg, htg, rfl⟩ := List.mem_map.mp hx
        obtain ⟨xs11, ea11⟩ := p11.at_
        have sn12' := s12.n ea11
        refine ⟨by show 3 ≤ sizeLine; decide, fun q hq => ?_⟩
        have tq := same_upd (o := .lst [.int 1, .int 1, .int 2]) hq
        obtain ⟨aq, cq⟩ := fresh p12 hq
        refine ⟨_, rfl, a, c, _, 3, rfl, p12.same tq, by decide, by decide, by omega, fun H13' r2 s13' p13' r20 r21 => ?_⟩
        obtain ⟨r2, rfl⟩ := mk r2 r20
        obtain ⟨ti, hti, ti1, ti2⟩ : ∃ ti : Nat, ([V.int 1, .int 1, .int 2] : List V)[r2]? = some (.int (ti : Int)) ∧ 1 ≤ ti ∧ ti ≤ 2 := by
          have : r2 = 0 ∨ r2 = 1 ∨ r2 = 2 := by omega
          rcases this with rfl | rfl | rfl
          · exact ⟨1, rfl, by omega, by omega⟩
          · exact ⟨1, rfl, by omega, by omega⟩
          · exact ⟨2, rfl, by omega, by omega⟩
        obtain ⟨xs12, ea12⟩ := (p12.same tq).at_
        have sn13 := (same_n tq).trans (s13'.n ea12)
        refine ⟨q, _, _, _, rfl, rfl, .inl (.inl (s13' _ _ aq upd_same)), atI_nat hti, _, rfl, by show 4 ≤ sizeLine; decide, fun t ht => ?_⟩
        have tt := same_upd (o := .tup [.int ((1 : Int) + (r : Int)), .int (tg : Int), .int (ti : Int), .ref tp]) ht
        have ett : upd H13' t (.tup [.int ((1 : Int) + (r : Int)), .int (tg : Int), .int (ti : Int), .ref tp]) t = some (.tup [.int ((1 + r : Nat) : Int), .int (tg : Int), .int (ti : Int), .ref tp]) := by rw [upd_same, Int.natCast_add]; rfl
        have snA := sn11.trans (sn12'.trans (sn13.trans (same_n tt)))
        have sx : SameX a H10 (upd H13' t (.tup [.int ((1 : Int) + (r : Int)), .int (tg : Int), .int (ti : Int), .ref tp])) := s11.trans (s12.trans ((SameX.of tq).trans (s13'.trans (SameX.of tt))))
        have pz := p13'.same tt
        have etp' := snA _ _ etp trivial
        generalize upd H13' t (.tup [.int ((1 : Int) + (r : Int)), .int (tg : Int), .int (ti : Int), .ref tp]) = HZ at ett snA sx pz etp'
        have s8Z := s89.trans sx
        have n8Z := sn9.trans snA
        have eOZ := s8Z _ _ aOc eO8
        have snO : SameN HZ (upd HZ Oc (.lst (ous ++ [.ref t]))) := sameN_upd eOZ (fun z => z)
        refine ⟨Oc, ous, _, rfl, rfl, eOZ, Nat.lt_of_le_of_lt (by rw [aO8.1, oll]; omega : ous.length ≤ 10) (by decide), ?_⟩
        refine ⟨⟨_, _, _, rfl⟩, samex_at (s8.trans s8Z) hOcH, (pz.other aOc cOc).le (by omega), by rw [upd_ne NOc]; exact s8Z _ _ aN eN8, by rw [upd_ne AOc]; exact s8Z _ _ aAc eA8, aA8.imp fun x y z => (z.n n8Z).n snO, ous ++ [.ref t], ol ++ [⟨1 + r, tg, ti, ps⟩], upd_same, (aO8.imp fun x y z => (z.n n8Z).n snO).snoc (show OutV _ (V.ref t) ⟨1 + r, tg, ti, ps⟩ from ⟨t, tp, rfl, snO _ _ ett trivial, snO _ _ etp' trivial⟩), fun o ho => ?_, by rw [List.length_append, oll]; rfl⟩
        rcases List.mem_append.mp ho with h | h
        · exact oko o h
        · rw [List.mem_singleton.mp h]
          exact ⟨by show 1 ≤ 1 + r; omega, by show 1 + r ≤ 10; omega, nlt tg htg, ti1, by show ti ≤ 1000; omega, pl, pb⟩
      · rintro σ H8 ⟨⟨x9, x11, x12, rfl⟩, s8, p8, eN8, eA8, aA8, ous, ol, eO8, aO8, oko, oll⟩
        refine ⟨_, rfl, .inl ⟨rfl, _, .inl (.inl eA8)⟩, _, rfl, _, rfl, Oc, ous, rfl, .inl ⟨.inl (.inl eO8), fun tq htq => ?_⟩⟩
        refine ⟨by show 2 ≤ sizeLine; decide, fun t ht => ?_⟩
        have u9 := (same_upd (o := .tup ous) htq).trans (same_upd (o := .tup [.int (i : Int), .ref tq]) ht)
        have etq : upd (upd H8 tq (.tup ous)) t (.tup [.int (i : Int), .ref tq]) tq = some (.tup ous) := same_upd ht _ _ upd_same
        have ett : upd (upd H8 tq (.tup ous)) t (.tup [.int (i : Int), .ref tq]) t = some (.tup [.int (i : Int), .ref tq]) := upd_same
        generalize upd (upd H8 tq (.tup ous)) t (.tup [.int (i : Int), .ref tq]) = H9 at u9 etq ett
        have eA9 := u9 _ _ eA8
        have snA : SameN H9 (upd H9 Ac (.lst (us ++ [.ref t]))) := sameN_upd eA9 (fun z => z)
        refine ⟨Ac, us, _, rfl, rfl, eA9, Nat.lt_of_le_of_lt (by rw [aA8.1]; omega : us.length ≤ 100) (by decide), ?_⟩
        refine ⟨⟨_, _, _, _, rfl⟩, samex_at (s8.trans (SameX.of u9)) hAcH, ((p8.same u9).other aAc cAc).le (by omega), by rw [upd_ne AN]; exact u9 _ _ eN8, us ++ [.ref t], l ++ [(i, ol)], upd_same, (aA8.imp fun x y z => (z.n (same_n u9)).n snA).snoc (show ActV _ (V.ref t) (i, ol) from ⟨t, tq, ous, rfl, snA _ _ ett trivial, snA _ _ etq trivial, aO8.imp fun x y z => (z.n (same_n u9)).n snA⟩), fun d hd => ?_, fun s hs => ?_, by rw [List.length_append]; show l.length + 1 ≤ _; omega, fun _ _ => ⟨(i, ol), by simp, rfl⟩, fun _ => ⟨(i, ol), by simp, rfl⟩⟩
        · rcases List.mem_append.mp hd with z | z
          · exact okl d z
          · rw [List.mem_singleton.mp z]
            exact ⟨hi, fun e => by (have e2 : ol = [] := e; rw [e2] at oll; simp at oll; omega), by show ol.length ≤ 4; omega, oko⟩
        · obtain ⟨d, h1, h2⟩ := alls s hs
          exact ⟨d, List.mem_append_left _ h1, h2⟩
    · rintro σ H2 ⟨⟨x9, x10, x11, x12, rfl⟩, s13, p13, eN13, us, l, eA, aA, okl, alls, ll, own4, one⟩
      refine ⟨⟨_, _, _, _, _, _, _, rfl⟩, s13, p13.le (by omega), us, l, eA, aA, okl, fun s hs => ?_, by omega⟩
      by_cases hsi : s = i
      · subst hsi
        cases b4
        · exact one (c1 rfl)
        · exact own4 (hb4 rfl).1 (hb4 rfl).2
      · exact alls s (by omega)
  · rintro σ H2 ⟨⟨x6, x7, x8, x9, x10, x11, x12, rfl⟩, s2, p2, us, l, eA, aA, okl, alls, ll⟩
    refine ⟨_, rfl, _, rfl, by show 2 ≤ sizeLine; decide, fun t ht => ?_⟩
    have t3 := same_upd (o := .tup [.int (n : Int), .ref Ac]) ht
    exact k _ t n l Ac us (s2.trans (SameX.of t3)) ((p2.same t3).le (by omega)) upd_same hAcH (t3 _ _ eA) (aA.imp fun x y z => z.n (same_n t3)) ⟨by omega, by omega, by omega, okl, alls⟩ (by omega) (by omega)
end
end Lc
set_option linter.all false
namespace LC
theorem least {P : Nat → Prop} (h : ∃ k, P k) : ∃ k, P k ∧ ∀ j, j < k → ¬ P j := by
  obtain ⟨k, hk⟩ := h
  induction k using Nat.strongRecOn with
  | _ k ih =>
    by_cases c : ∃ j, j < k ∧ P j
    · obtain ⟨j, hj, pj⟩ := c
      exact ih j hj pj
    · exact ⟨k, hk, fun j hj pj => c ⟨j, hj, pj⟩⟩
section
variable {h : Hs} {g : List Nat} {p : Pk}
/-- s comes to a goal in just k steps of the picks -/
def reach (h : Hs) (g : List Nat) (p : Pk) : Nat → Nat → Prop
  | 0, s => s ∈ g ∧ p s = none
  | k + 1, s => ∃ a, p s = some a ∧ ∃ t ∈ h.out a, reach h g p k t.1
open Classical in
noncomputable def dist (h : Hs) (g : List Nat) (p : Pk) (s : Nat) : Option Nat := if H : ∃ k, reach h g p k s then some (Classical.choose (least H)) else none
theorem dist_some {s k : Nat} : dist h g p s = some k ↔ reach h g p k s ∧ ∀ j, j < k → ¬ reach h g p j s := by
  unfold dist
  by_cases H : ∃ k, reach h g p k s
  · rw [dif_pos H]
    have c := Classical.choose_spec (least H)
    constructor
    · intro e; cases e; exact c
    · rintro ⟨h1, h2⟩
      congr 1
      rcases Nat.lt_trichotomy (Classical.choose (least H)) k with z | z | z
      · exact absurd c.1 (h2 _ z)
      · exact z
      · exact absurd h1 (c.2 _ z)
  · rw [dif_neg H]
    constructor
    · intro e; cases e
    · rintro ⟨h1, _⟩; exact absurd ⟨k, h1⟩ H
theorem dist_ne {s : Nat} : dist h g p s ≠ none ↔ ∃ k, reach h g p k s := by
  constructor
  · intro e
    cases q : dist h g p s with
    | none => exact absurd q e
    | some k => exact ⟨k, (dist_some.mp q).1⟩
  · intro H e
    unfold dist at e
    rw [dif_pos H] at e
    cases e
theorem dist_ok (pn : ∀ s a, p s = some a → s < h.n) (gn : ∀ s ∈ g, s < h.n) : FarOk h g p (dist h g p) := by
  refine ⟨fun s => ?_, fun s k e => ?_, fun s a ea ⟨t, ht, e⟩ => ?_, fun s e => ?_⟩
  · rw [dist_some]
    exact ⟨fun z => z.1, fun z => ⟨z, fun j hj => absurd hj (Nat.not_lt_zero j)⟩⟩
  · obtain ⟨h1, h2⟩ := dist_some.mp e
    obtain ⟨a, ea, t, ht, rt⟩ := h1
    refine ⟨a, ea, t, ht, dist_some.mpr ⟨rt, fun j hj rj => h2 (j + 1) (by omega) ⟨a, ea, t, ht, rj⟩⟩⟩
  · obtain ⟨k, hk⟩ := dist_ne.mp e
    exact dist_ne.mpr ⟨k + 1, a, ea, t, ht, hk⟩
  · obtain ⟨k, hk⟩ := dist_ne.mp e
    cases k with
    | zero => exact gn s hk.1
    | succ k => obtain ⟨a, ea, _⟩ := hk; exact pn s a ea
/-- the states that the picks lead to -/
inductive Path (h : Hs) (p : Pk) (s : Nat) : Nat → Prop where
  | refl : Path h p s s
  | step {u a : Nat} {t : Nat × Nat} : Path h p s u → p u = some a → t ∈ h.out a → Path h p s t.1
theorem far_path {far : Nat → Option Nat} (F : FarOk h g p far) {s t : Nat} (P : Path h p s t) (e : far t ≠ none) : far s ≠ none := by
  induction P with
  | refl => exact e
  | step P ea ht ih => exact ih (F.fC _ _ ea ⟨_, ht, e⟩)
/-- a lot of states with s that the picks do not leave has a goal if s is far -/
theorem near_goal {far : Nat → Option Nat} (F : FarOk h g p far) {D : Nat → Prop} (hc : ∀ u a, D u → p u = some a → ∀ t ∈ h.out a, D t.1) : ∀ (k s : Nat), far s = some k → D s → ∃ t, D t ∧ t ∈ g ∧ p t = none
  | 0, s, e, hs => ⟨s, hs, ((F.f0 s).mp e).1, ((F.f0 s).mp e).2⟩
  | k + 1, s, e, hs => by
    obtain ⟨a, ea, t, ht, et⟩ := F.fS s k e
    exact near_goal F hc k t.1 et (hc s a hs ea t ht)
end
end LC
set_option Elab.async false
set_option linter.all false
set_option maxRecDepth 100000
set_option maxHeartbeats 4000000
namespace Lc
open PySem PySem.Spec PyProof.Rows L2 LcR
inductive NPath (l : List ActD) (sm : List Nat) (s : Nat) : Nat → Prop where
  | refl : NPath l sm s s
  | step {u a : Nat} {d : ActD} {o : OutD} : NPath l sm s u → a ∈ sm → l[a]? = some d → d.1 = u → o ∈ d.2 → NPath l sm s o.target
def NClosed (l : List ActD) (sm : List Nat) (ks : List Nat) (u : Nat) : Prop := ∀ a ∈ sm, ∀ d, l[a]? = some d → d.1 = u → ∀ o ∈ d.2, o.target ∈ ks
theorem NClosed.mono {l : List ActD} {sm ks ks' : List Nat} {u : Nat} (h : NClosed l sm ks u) (s : ∀ t ∈ ks, t ∈ ks') : NClosed l sm ks' u := fun a ha d hd e o ho => s _ (h a ha d hd e o ho)
structure NearOk (l : List ActD) (sm : List Nat) (s : Nat) (ks : List Nat) : Prop where
  start : s ∈ ks
  path : ∀ t ∈ ks, NPath l sm s t
  closed : ∀ u ∈ ks, NClosed l sm ks u
theorem forT_any {K : PySem.W.Frag} {ta : TE} {g : TG} {tb : TS} {D : Ends} {σ : L2.St} {H : Hp} (C : V → Hp → Prop) (h1 : ∀ Q' : VK, (∀ x H', C x H' → Q' x H') → ta σ H Q')
    (h2 : ∀ x H', C x H' → tFor (iTup K fun _ _ Q => Q x H') g tb D σ H) : tFor (iTup K ta) g tb D σ H := h1 _ h2
section
variable {P : Program} {w : World} {K : PySem.W.Frag} {mg : Str → Option Value} {base : Heap}
def sp_law_near : Sp := fun vs H Q _ => ∃ (v : V) (n : Nat) (l : List ActD) (u : Addr) (sm : List Nat) (s : Nat), vs = [v, .ref u, .int (s : Int)] ∧ ActsL H v l ∧ OkActs n l ∧ H u = some (.lst (intV sm)) ∧ (∀ a ∈ sm, a < l.length) ∧ s < n ∧
  ∀ H' a ks, Same H H' → H' a = some (.lst (intV ks)) → NearOk l sm s ks → ks.Nodup → (∀ t ∈ ks, t < n) → Q (.ref a) H'
/-- what stands while the line is gone through -/
structure NearI (n : Nat) (l : List ActD) (sm : List Nat) (s : Nat) (kn ls : List Nat) : Prop where
  nd : kn.Nodup
  lt : ∀ t ∈ kn, t < n
  start : s ∈ kn
  path : ∀ t ∈ kn, NPath l sm s t
  lk : ∀ t ∈ ls, t ∈ kn
theorem NearI.len {n : Nat} {l : List ActD} {sm kn ls : List Nat} {s : Nat} (h : NearI n l sm s kn ls) : kn.length ≤ n := by
  have := nodup_len h.nd (m := List.range n) fun x hx => List.mem_range.mpr (h.lt x hx)
  rwa [List.length_range] at this
theorem c_law_near (T : Tx K mg) : C8.Cal P w K mg base 3 "_law_near" sp_law_near [] := by
  obtain ⟨fd, F⟩ := T.f_law_near
  refine calD F T.g_law_near sc_law_near (fun _ _ _ _ _ _ us hl => match us, hl with | [_, _, _], _ => rfl) (fun vs H Q E h => ?_) (fun cdv A outer s H vs Q E hr h => ?_)
  · obtain ⟨_, _, _, _, _, _, rfl, _⟩ := h; rfl
  obtain ⟨v, n, l, u, sm, s, rfl, ⟨av, aus, rfl, ea, al⟩, ok, esm, smb, sn, k⟩ := h
  refine ⟨_, (pss_cons (ps_par (i := 3) (j := 4) (by rfl) sc_law_near.nd rfl rfl (by decide) rfl rfl (pa_cons (pe_lst (pa_cons (pv 2) pa_nil)) (pa_cons (pe_lst (pa_cons (pv 2) pa_nil)) pa_nil)) (by rfl))
      (pss_cons (ps_while PassesOwn.never (pt_cmpR (op_neNil hr.units0) (pv 4) (pe_lst pa_nil) (nomark _))
      (pss_cons (ps_set (i := 5) sc_law_near.nd rfl (Or.inl rfl) (pe_bm0 PySem.F.plainAttrs_list PySem.F.slot_list_pop PySem.F.type_list_pop mt_pop (pv 4)))
      (pss_one (ps_for PassesOwn.never rfl (pi_list (pv 1)) (pg_name (i := 6) sc_law_near.nd rfl (Or.inl rfl))
      (pss_one (ps_for PassesOwn.never rfl (pi_tup (pe_ifExp (pt_cmpR op_eq (pe_ix ix_tup (pe_ix ix_list (pv 0) (pv 6) (fun _ _ => rfl)) pe_int (fun _ _ => rfl)) (pv 5) (nomark _)) (pe_ix ix_tup (pe_ix ix_list (pv 0) (pv 6) (fun _ _ => rfl)) pe_int (fun _ _ => rfl)) (pe_tup pa_nil))) (pg_tup rfl (pgs_cons (pg_name (i := 7) sc_law_near.nd rfl (Or.inl rfl)) (pgs_cons (pg_name (i := 8) sc_law_near.nd rfl (Or.inl rfl)) (pgs_cons (pg_name (i := 9) sc_law_near.nd rfl (Or.inl rfl)) (pgs_cons (pg_name (i := 10) sc_law_near.nd rfl (Or.inl rfl)) pgs_nil)))))
      (pss_one (ps_if (pt_cmpR op_notIn_seq (pv 8) (pv 3) (by rfl)) (pss_cons (ps_expr (pe_bm PySem.F.plainAttrs_list PySem.F.slot_list_append PySem.F.type_list_append mt_append (pv 3) (pa_cons (pv 8) pa_nil)))
      (pss_one (ps_expr (pe_bm PySem.F.plainAttrs_list PySem.F.slot_list_append PySem.F.type_list_append mt_append (pv 4) (pa_cons (pv 8) pa_nil))))) pss_nil))))))))
      (pss_one (ps_ret (pv 3))))), ?_⟩
  have n2 := ok.n2
  refine ⟨_, rfl, by show 1 ≤ sizeLine; decide, fun Kn hKn => ⟨_, rfl, by show 1 ≤ sizeLine; decide, fun L hL => ⟨_, _, rfl, ?_⟩⟩⟩
  have s1 := (same_upd (o := .lst [.int (s : Int)]) hKn).trans (same_upd (o := .lst [.int (s : Int)]) hL)
  have nKL : Kn ≠ L := fun z => by subst z; rw [upd_same] at hL; cases hL
  have eK1 : upd (upd H Kn (.lst [.int (s : Int)])) L (.lst [.int (s : Int)]) Kn = some (.lst (intV [s])) := by rw [upd_ne nKL]; exact upd_same
  have eL1 : upd (upd H Kn (.lst [.int (s : Int)])) L (.lst [.int (s : Int)]) L = some (.lst (intV [s])) := upd_same
  have hLH : H L = none := none_back (same_upd (o := .lst [.int (s : Int)]) hKn) hL
  generalize upd (upd H Kn (.lst [.int (s : Int)])) L (.lst [.int (s : Int)]) = H1 at s1 eK1 eL1
  refine ⟨fun m σ H6 => (∃ x1 x2 x3 x4 x5 x6, σ = [some (.ref av), some (.ref u), some (.int (s : Int)), some (.ref Kn), some (.ref L), x1, x2, x3, x4, x5, x6]) ∧ ∃ kn ls, Same H H6 ∧ H6 Kn = some (.lst (intV kn)) ∧ H6 L = some (.lst (intV ls)) ∧ NearI n l sm s kn ls ∧ (∀ t ∈ kn, t ∉ ls → NClosed l sm kn t) ∧ m = 2 * (n - kn.length) + ls.length ∧ m ≤ 100,
    ⟨_, ⟨none, none, none, none, none, none, rfl⟩, [s], [s], s1, eK1, eL1, ⟨by simp, fun t ht => by rw [List.mem_singleton.mp ht]; exact sn, by simp, fun t ht => by rw [List.mem_singleton.mp ht]; exact .refl, fun _ h => h⟩, fun t h1 h2 => absurd h1 h2, rfl, by simp; omega⟩, ?_⟩
  rintro m σ H6 ⟨⟨z1, z2, z3, z4, z5, z6, rfl⟩, kn, ls, s6, eK6, eL6, NI, cl, rfl, mb⟩
  refine ⟨_, rfl, Nat.zero_le _, fun Z2 hZ2 => ?_⟩
  have b2 : Kn ≠ Z2 := fun z => by subst z; rw [eK6] at hZ2; cases hZ2
  have b3 : L ≠ Z2 := fun z => by subst z; rw [eL6] at hZ2; cases hZ2
  have s7 := s6.trans (same_upd (o := .lst []) hZ2)
  have eK7 : upd H6 Z2 (.lst []) Kn = some (.lst (intV kn)) := by rw [upd_ne b2]; exact eK6
  have eL7 : upd H6 Z2 (.lst []) L = some (.lst (intV ls)) := by rw [upd_ne b3]; exact eL6
  refine ⟨L, Z2, _, rfl, rfl, .inl (.inl eL7), .inl (.inl upd_same), _, rfl, ite2 (fun h0 => ?_) (fun h0 => ?_)⟩
  · generalize upd H6 Z2 (.lst []) = H7 at s7 eK7 eL7
    have hne : ls ≠ [] := fun e => by subst e; cases h0
    obtain ⟨r, uu, rfl⟩ : ∃ r uu, ls = r ++ [uu] := ⟨ls.dropLast, ls.getLast hne, (List.dropLast_concat_getLast hne).symm⟩
    refine ⟨fun σ' H' => (∃ x1 x2 x3 x4 x5 x6, σ' = [some (.ref av), some (.ref u), some (.int (s : Int)), some (.ref Kn), some (.ref L), x1, x2, x3, x4, x5, x6]) ∧ ∃ kn' ls', Same H H' ∧ H' Kn = some (.lst (intV kn')) ∧ H' L = some (.lst (intV ls')) ∧ NearI n l sm s kn' ls' ∧ (∀ t ∈ kn', t ∉ ls' → NClosed l sm kn' t) ∧ 2 * (n - kn'.length) + ls'.length < 2 * (n - kn.length) + (r ++ [uu]).length,
      fun σ' H' ⟨a1, kn', ls', b1, b2, b3, b4, b5, b6⟩ => ⟨_, b6, a1, kn', ls', b1, b2, b3, b4, b5, rfl, by omega⟩, ?_⟩
    have lst : (intV (r ++ [uu]))[(intV (r ++ [uu])).length - 1]? = some (.int (uu : Int)) := by simp [intV]
    refine ⟨_, rfl, .inl ⟨rfl, _, .inl (.inl eL7)⟩, L, _, .int (uu : Int), rfl, rfl, eL7, lst, ?_⟩
    have hLx : ∀ {x : Addr} {o : HO}, x = L → H x = none := fun e => by rw [e]; exact hLH
    have s8 : Same H (upd H7 L (.lst (intV (r ++ [uu])).dropLast)) := same_at s7 hLH
    have eK8 : upd H7 L (.lst (intV (r ++ [uu])).dropLast) Kn = some (.lst (intV kn)) := by rw [upd_ne nKL]; exact eK7
    have eL8 : upd H7 L (.lst (intV (r ++ [uu])).dropLast) L = some (.lst (intV r)) := by rw [upd_same]; simp [intV]
    generalize upd H7 L (.lst (intV (r ++ [uu])).dropLast) = H8 at s8 eK8 eL8
    have un : uu ∈ kn := NI.lk uu (by simp)
    refine ⟨_, rfl, u, rfl, ⟨_, .inl (.inl (s8 _ _ esm))⟩, ?_⟩
    refine for_it walk_list (fun i σ H9 => (∃ x2 x3 x4 x5 x6, σ = [some (.ref av), some (.ref u), some (.int (s : Int)), some (.ref Kn), some (.ref L), some (.int (uu : Int)), x2, x3, x4, x5, x6]) ∧ ∃ kn' ls', Same H H9 ∧ H9 Kn = some (.lst (intV kn')) ∧ H9 L = some (.lst (intV ls')) ∧ NearI n l sm s kn' ls' ∧ (∀ t ∈ kn', t ∉ ls' → t ≠ uu → NClosed l sm kn' t) ∧ uu ∈ kn' ∧ NClosed l (sm.take i) kn' uu ∧ 2 * (n - kn'.length) + ls'.length ≤ 2 * (n - kn.length) + r.length)
      ⟨⟨z2, z3, z4, z5, z6, rfl⟩, kn, r, s8, eK8, eL8, ⟨NI.nd, NI.lt, NI.start, NI.path, fun t ht => NI.lk t (List.mem_append_left _ ht)⟩, fun t h1 h2 h3 => cl t h1 (fun h => by
        rcases List.mem_append.mp h with h | h
        · exact h2 h
        · exact h3 (List.mem_singleton.mp h)), un, fun a ha => by simp at ha, Nat.le_refl _⟩ (fun i σ H2 _ p => by
        obtain ⟨_, kn', ls', s9, _⟩ := p
        exact .inl (.inl (s9 _ _ esm))) ?_ ?_
    · rintro i x σ H9' H9 hi ⟨⟨y2, y3, y4, y5, y6, rfl⟩, kn', ls', s9, eK9, eL9, NI', cl', un', cu', m9⟩ ⟨rfl, hx⟩
      unfold intV at hx
      rw [List.getElem?_map] at hx
      obtain ⟨a, ha, rfl⟩ := Option.map_eq_some_iff.mp hx
      have hal := smb a (List.mem_of_getElem? ha)
      obtain ⟨d, hd⟩ : ∃ d, l[a]? = some d := ⟨_, List.getElem?_eq_getElem hal⟩
      have okd := ok.acts d (List.mem_of_getElem? hd)
      have tk : sm.take (i + 1) = sm.take i ++ [a] := by rw [List.take_add_one, ha]; rfl
      refine forT_any (fun x H10 => Same H9 H10 ∧ ∃ t us os, x = .ref t ∧ H10 t = some (.tup us) ∧ All2 (OutV H10) us os ∧ ((d.1 = uu ∧ os = d.2) ∨ (d.1 ≠ uu ∧ os = []))) (fun Q' hQ => ?_) ?_
      · obtain ⟨u0, hu0, p0, q0, us, rfl, e1, e2, ao⟩ := al.get hd
        refine ⟨_, rfl, _, rfl, av, aus, _, _, rfl, rfl, .inl (.inl (s9 _ _ ea)), atI_nat hu0, p0, _, 0, _, rfl, rfl, .inl (.inl (s9 _ _ e1)), rfl, _, rfl, rfl, _, rfl, ite2 (fun h1 => ?_) (fun h1 => ?_)⟩
        · refine ⟨_, rfl, _, rfl, av, aus, _, _, rfl, rfl, .inl (.inl (s9 _ _ ea)), atI_nat hu0, p0, _, 1, _, rfl, rfl, .inl (.inl (s9 _ _ e1)), rfl, ?_⟩
          have e : d.1 = uu := by have := V.int.inj (of_decide_eq_true h1); omega
          exact hQ _ _ ⟨Same.refl _, q0, us, d.2, rfl, s9 _ _ e2, ao.imp fun x y z => z.n (same_n s9), .inl ⟨e, rfl⟩⟩
        · refine ⟨by show 0 ≤ sizeLine; decide, fun Ty hTy => ?_⟩
          have e : d.1 ≠ uu := fun z => h1 (decide_eq_true (by rw [z]))
          exact hQ _ _ ⟨same_upd hTy, Ty, [], [], rfl, upd_same, All2.nil, .inr ⟨e, rfl⟩⟩
      · rintro _ H10 ⟨s10, t, us, os, rfl, et, ao, hos⟩
        have ol : os.length ≤ 4 := by
          rcases hos with ⟨_, rfl⟩ | ⟨_, rfl⟩
          · exact okd.len
          · simp
        have s11 := s9.trans s10
        refine ⟨t, rfl, ⟨us, .inl (.inl et)⟩, ?_⟩
        have hKH : H Kn = none := by
          cases e : H Kn with
          | none => rfl
          | some o => rw [hKn] at e; cases e
        refine for_it walk_tup (fun j σ H11 => (∃ x3 x4 x5 x6, σ = [some (.ref av), some (.ref u), some (.int (s : Int)), some (.ref Kn), some (.ref L), some (.int (uu : Int)), some (.int (a : Int)), x3, x4, x5, x6]) ∧ ∃ kn'' ls'', Same H H11 ∧ (∀ b o, b ≠ Kn → b ≠ L → H10 b = some o → H11 b = some o) ∧ H11 Kn = some (.lst (intV kn'')) ∧ H11 L = some (.lst (intV ls'')) ∧ NearI n l sm s kn'' ls'' ∧ (∀ t ∈ kn'', t ∉ ls'' → t ≠ uu → NClosed l sm kn'' t) ∧ uu ∈ kn'' ∧ NClosed l (sm.take i) kn'' uu ∧ (∀ o ∈ os.take j, o.target ∈ kn'') ∧ 2 * (n - kn''.length) + ls''.length ≤ 2 * (n - kn.length) + r.length)
          ⟨⟨y3, y4, y5, y6, rfl⟩, kn', ls', s11, fun _ _ _ _ h => h, s10 _ _ eK9, s10 _ _ eL9, NI', cl', un', cu', fun o ho => by simp at ho, m9⟩ (fun j σ H11 _ p => by
            obtain ⟨_, kn'', ls'', _, sx, e1, e2, _⟩ := p
            refine .inl (.inl (sx t _ (fun z => ?_) (fun z => ?_) et))
            · subst z; rw [s10 _ _ eK9] at et; cases et
            · subst z; rw [s10 _ _ eL9] at et; cases et) ?_ ?_
        · rintro j x' σ H11' H11 hj ⟨⟨w3, w4, w5, w6, rfl⟩, kn'', ls'', s12, sx, eK, eL, NI2, cl2, un2, cu2, co2, m2⟩ ⟨rfl, hx'⟩
          obtain ⟨o, ho, a0, pa0, rfl, g1, g2⟩ := ao.get' hx'
          have nt : ∀ {ys : List V} {b : Addr}, H10 b = some (.tup ys) → b ≠ Kn ∧ b ≠ L := fun {ys b} hb => ⟨fun z => (by subst z; rw [s10 _ _ eK9] at hb; cases hb), fun z => (by subst z; rw [s10 _ _ eL9] at hb; cases hb)⟩
          have g1' := sx _ _ (nt g1).1 (nt g1).2 g1
          refine ⟨a0, _, rfl, .inl (.inl g1'), rfl, _, _, rfl, _, _, rfl, _, _, rfl, _, _, rfl, rfl, ?_⟩
          have om : o ∈ d.2 ∧ d.1 = uu := by
            rcases hos with ⟨h, rfl⟩ | ⟨_, rfl⟩
            · exact ⟨List.mem_of_getElem? ho, h⟩
            · simp at ho
          have otn := (okd.outs o om.1).t
          have tk2 : os.take (j + 1) = os.take j ++ [o] := by rw [List.take_add_one, ho]; rfl
          have kl := NI2.len
          refine ⟨_, rfl, _, rfl, Kn, _, rfl, .inl (.inl (.inl eK)), rfl, all_flat _, _, rfl, ite2 (fun h1 => ?_) (fun h1 => ?_)⟩
          · have h1 : (!inV (V.int (o.target : Int)) (intV kn'')) = true := h1
            rw [inV_ints] at h1
            have nk : o.target ∉ kn'' := by simpa using h1
            have kl5 := nodup_len (l := o.target :: kn'') (m := List.range n) (List.nodup_cons.mpr ⟨nk, NI2.nd⟩) fun x hx => by
              rcases List.mem_cons.mp hx with rfl | hx
              · exact List.mem_range.mpr otn
              · exact List.mem_range.mpr (NI2.lt x hx)
            rw [List.length_range, List.length_cons] at kl5
            have mb2 : 2 * (n - kn.length) + (r ++ [uu]).length ≤ 100 := mb
            rw [List.length_append] at mb2
            refine ⟨_, rfl, .inl ⟨rfl, _, .inl (.inl eK)⟩, _, rfl, Kn, _, _, rfl, rfl, eK, Nat.lt_of_le_of_lt (by simp; omega : (intV kn'').length ≤ 10) (by decide), ?_⟩
            have eLC : upd H11 Kn (.lst (intV kn'' ++ [.int (o.target : Int)])) L = some (.lst (intV ls'')) := by rw [upd_ne nKL.symm]; exact eL
            refine ⟨_, rfl, .inl ⟨rfl, _, .inl (.inl eLC)⟩, _, rfl, L, _, _, rfl, rfl, eLC, Nat.lt_of_le_of_lt (by simp; omega : (intV ls'').length ≤ 100) (by decide), ?_⟩
            have up : ∀ t ∈ kn'', t ∈ kn'' ++ [o.target] := fun t ht => List.mem_append_left _ ht
            refine ⟨⟨_, _, _, _, rfl⟩, kn'' ++ [o.target], ls'' ++ [o.target], same_at (same_at s12 hKH) hLH, fun b ob h1 h2 e => by rw [upd_ne h2, upd_ne h1]; exact sx b ob h1 h2 e, ?_, ?_, ⟨?_, fun t ht => ?_, up _ NI2.start, fun t ht => ?_, fun t ht => ?_⟩, fun t h1 h2 h3 => ?_, up _ un2, cu2.mono up, fun o' ho' => ?_, ?_⟩
            · rw [upd_ne nKL, upd_same]; unfold intV; rw [List.map_append]; rfl
            · rw [upd_same]; unfold intV; rw [List.map_append]; rfl
            · rw [List.nodup_append]
              exact ⟨NI2.nd, by simp, fun a ha b hb => by rw [List.mem_singleton.mp hb]; exact fun z => nk (by rw [← z]; exact ha)⟩
            · rcases List.mem_append.mp ht with z | z
              · exact NI2.lt t z
              · rw [List.mem_singleton.mp z]; exact otn
            · rcases List.mem_append.mp ht with z | z
              · exact NI2.path t z
              · rw [List.mem_singleton.mp z]
                exact .step (NI2.path uu un2) (List.mem_of_getElem? ha) hd om.2 om.1
            · rcases List.mem_append.mp ht with z | z
              · exact up _ (NI2.lk t z)
              · rw [List.mem_singleton.mp z]; simp
            · rcases List.mem_append.mp h1 with z | z
              · exact (cl2 t z (fun q => h2 (List.mem_append_left _ q)) h3).mono up
              · exact absurd (List.mem_append_right _ z) h2
            · rw [tk2] at ho'
              rcases List.mem_append.mp ho' with z | z
              · exact up _ (co2 o' z)
              · rw [List.mem_singleton.mp z]; simp
            · simp only [List.length_append, List.length_cons, List.length_nil]
              omega
          · have h1 : ¬ (!inV (V.int (o.target : Int)) (intV kn'')) = true := h1
            rw [inV_ints] at h1
            have nk : o.target ∈ kn'' := by simpa using h1
            refine ⟨⟨_, _, _, _, rfl⟩, kn'', ls'', s12, sx, eK, eL, NI2, cl2, un2, cu2, fun o' ho' => ?_, m2⟩
            rw [tk2] at ho'
            rcases List.mem_append.mp ho' with z | z
            · exact co2 o' z
            · rw [List.mem_singleton.mp z]; exact nk
        · rintro σ H11 ⟨⟨w3, w4, w5, w6, rfl⟩, kn'', ls'', s12, sx, eK, eL, NI2, cl2, un2, cu2, co2, m2⟩
          rw [ao.1, List.take_length] at co2
          refine ⟨⟨_, _, _, _, _, rfl⟩, kn'', ls'', s12, eK, eL, NI2, cl2, un2, ?_, m2⟩
          rw [tk]
          intro a' ha' d' hd' e' o' ho'
          rcases List.mem_append.mp ha' with z | z
          · exact cu2 a' z d' hd' e' o' ho'
          · rw [List.mem_singleton.mp z] at hd'
            rw [hd] at hd'
            cases hd'
            rcases hos with ⟨h, rfl⟩ | ⟨h, rfl⟩
            · exact co2 o' ho'
            · exact absurd e' h
    · rintro σ H9 ⟨⟨y2, y3, y4, y5, y6, rfl⟩, kn', ls', s9, eK9, eL9, NI', cl', un', cu', m9⟩
      have il : (intV sm).length = sm.length := List.length_map _
      rw [il, List.take_length] at cu'
      refine ⟨⟨_, _, _, _, _, _, rfl⟩, kn', ls', s9, eK9, eL9, NI', fun t h1 h2 => ?_, by simp only [List.length_append, List.length_cons, List.length_nil]; omega⟩
      by_cases e : t = uu
      · rw [e]; exact cu'
      · exact cl' t h1 h2 e
  · have hne : ls = [] := by
      cases ls with
      | nil => rfl
      | cons a b => exact absurd rfl h0
    subst hne
    exact ⟨_, rfl, k _ Kn kn s7 eK7 ⟨NI.start, NI.path, fun t ht => cl t ht (by simp)⟩ NI.nd NI.lt⟩
end
end Lc
set_option Elab.async false
set_option linter.all false
set_option maxRecDepth 100000
set_option maxHeartbeats 4000000
/-! list(zip(xs, ys)) of two lists -/
namespace LcLZ
open PySem PySem.Spec PyProof.Rows L2 LcR
theorem nolen_zip : typeLookup (.type "zip") "__len__" = pure none := am_miss_of_fast (by decide +kernel)
theorem nohint_zip : typeLookup (.type "zip") "__length_hint__" = pure none := am_miss_of_fast (by decide +kernel)
/-- the zip before its i-th turn; S is the list that grows -/
def ZSt (h : Heap) (z TI TO i1 i2 l1 l2 S : Addr) (xs ys : Array Value) (i : Nat) : Prop :=
  IsPair h TI (.ref i1) (.ref i2) ∧ h.IsListIter i1 l1 i ∧ h.IsListIter i2 l2 i ∧ h.IsList l1 xs ∧ h.IsList l2 ys ∧
    ((IsZip h z TI TO .none ∧ ∃ a b, IsPair h TO a b) ∨ ∃ T f oT, IsZipHeld h z TI TO T f ∧ h.get? T = some oT ∧ T ≠ z ∧ T ≠ i1 ∧ T ≠ i2 ∧ T ≠ S)
structure Off (z TI TO i1 i2 l1 l2 S : Addr) : Prop where
  z : z < S
  TI : TI < S
  TO : TO < S
  i1 : i1 < S
  i2 : i2 < S
  l1 : l1 < S
  l2 : l2 < S
structure ZG (h : Heap) (S : Addr) (xs ys : Array Value) (as : List Addr) : Prop where
  rise : as.Pairwise (· < ·)
  above : ∀ a ∈ as, S < a
  pairs : ∀ (j : Nat) (a : Addr), as[j]? = some a → ∃ x y, xs[j]? = some x ∧ ys[j]? = some y ∧ IsPair h a x y
theorem ZG.there {h : Heap} {S : Addr} {xs ys : Array Value} {as : List Addr} (g : ZG h S xs ys as) {a : Addr} (ha : a ∈ as) : a < h.objs.size := by
  obtain ⟨j, hj⟩ := List.mem_iff_getElem?.mp ha
  obtain ⟨_, _, _, _, e⟩ := g.pairs j a hj
  exact Heap.lt_size e
section
variable {prog : Program} {w : World} {A : Around} {E : Value → Shared → Prop} {s : Shared} {z TI TO i1 i2 l1 l2 S : Addr} {xs ys : Array Value}
theorem ZSt.frame {h h' : Heap} {i : Nat} (O : Off z TI TO i1 i2 l1 l2 S) (st : ZSt h z TI TO i1 i2 l1 l2 S xs ys i) (hk : ∀ b o, b ≠ S → h.get? b = some o → h'.get? b = some o) : ZSt h' z TI TO i1 i2 l1 l2 S xs ys i := by
  obtain ⟨hTI, h1, h2, hl1, hl2, hz⟩ := st
  refine ⟨hk _ _ (Nat.ne_of_lt O.TI) hTI, h1.at fun o e => hk _ o (Nat.ne_of_lt O.i1) e, h2.at fun o e => hk _ o (Nat.ne_of_lt O.i2) e, hl1.at fun o e => hk _ o (Nat.ne_of_lt O.l1) e, hl2.at fun o e => hk _ o (Nat.ne_of_lt O.l2) e, ?_⟩
  rcases hz with ⟨hz, a, b, hTO⟩ | ⟨T, f, oT, hz, hT, r1, r2, r3, r4⟩
  · exact .inl ⟨hk _ _ (Nat.ne_of_lt O.z) hz, a, b, hk _ _ (Nat.ne_of_lt O.TO) hTO⟩
  · exact .inr ⟨T, f, oT, hk _ _ (Nat.ne_of_lt O.z) hz, hk _ _ r4 hT, r1, r2, r3, r4⟩
theorem zl_item {i : Nat} {x y : Value} {Q : Option Value → Shared → Prop} (D : ZipApart z TI TO i1 i2 l1 l2) (st : ZSt s.heap z TI TO i1 i2 l1 l2 S xs ys i) (hS : S < s.heap.objs.size) (ex : xs[i]? = some x) (ey : ys[i]? = some y)
    (hQ : ∀ h', ZSt h' z TI TO i1 i2 l1 l2 S xs ys (i + 1) → IsPair h' s.heap.objs.size x y → (∀ c o, c ≠ z → c ≠ TO → c ≠ i1 → c ≠ i2 → s.heap.get? c = some o → h'.get? c = some o) → Q (some (.ref s.heap.objs.size)) { s with heap := h' }) :
    wpAny (model prog w) A (pyNext (.ref z)) Q E s := by
  obtain ⟨hTI, h1, h2, hl1, hl2, hz⟩ := st
  have lt : ∀ {c o}, s.heap.get? c = some o → s.heap.objs.size ≠ c := fun e => Nat.ne_of_gt (Heap.lt_size e)
  have n1 : s.heap.objs.size ≠ i1 := let ⟨_, e, _⟩ := h1; lt e
  have n2 : s.heap.objs.size ≠ i2 := let ⟨_, e, _⟩ := h2; lt e
  rcases hz with ⟨hz, a, b, hTO⟩ | ⟨T, f, oT, hz, hT, r1, r2, r3, r4⟩
  · refine wpAny_pyNext_zip_item D hz hTI hTO h1 h2 hl1 hl2 ex ey fun h' a1 a2 a3 a4 a5 a6 hk => ?_
    exact hQ h' ⟨hk _ _ D.TIz D.TITO D.TIi1 D.TIi2 hTI, a3, a4, hl1.at fun o e => hk _ o D.l1z D.l1TO D.l1i1 D.l1i2 e, hl2.at fun o e => hk _ o D.l2z D.l2TO D.l2i1 D.l2i2 e,
      .inr ⟨s.heap.objs.size, false, _, a1, a5, lt hz, n1, n2, Nat.ne_of_gt hS⟩⟩ a5 hk
  · refine wpAny_pyNext_zip_item_held D hz hT hTI h1 h2 hl1 hl2 ex ey fun h' a1 a3 a4 a5 a6 hk => ?_
    exact hQ h' ⟨hk _ _ D.TIz D.TIi1 D.TIi2 hTI, a3, a4, hl1.at fun o e => hk _ o D.l1z D.l1i1 D.l1i2 e, hl2.at fun o e => hk _ o D.l2z D.l2i1 D.l2i2 e,
      .inr ⟨T, true, oT, a1, hk _ _ r1 r2 r3 hT, r1, r2, r3, r4⟩⟩ a5 fun c o c1 c2 c3 c4 e => hk c o c1 c3 c4 e
theorem zl_done {Q : Option Value → Shared → Prop} (hh : A.handled = none) (D : ZipApart z TI TO i1 i2 l1 l2) (st : ZSt s.heap z TI TO i1 i2 l1 l2 S xs ys (min xs.size ys.size))
    (hQ : ∀ h', (∀ c o, c ≠ z → c ≠ TO → c ≠ i1 → c ≠ i2 → s.heap.get? c = some o → h'.get? c = some o) → Q none { s with heap := h' }) : wpAny (model prog w) A (pyNext (.ref z)) Q E s := by
  obtain ⟨hTI, h1, h2, hl1, hl2, hz⟩ := st
  have hend : xs[min xs.size ys.size]? = none ∨ ys[min xs.size ys.size]? = none := by
    rcases Nat.le_total xs.size ys.size with h | h
    · exact .inl (Array.getElem?_eq_none (by rw [Nat.min_eq_left h]; exact Nat.le_refl _))
    · exact .inr (Array.getElem?_eq_none (by rw [Nat.min_eq_right h]; exact Nat.le_refl _))
  rcases hz with ⟨hz, a, b, hTO⟩ | ⟨T, f, oT, hz, hT, r1, r2, r3, r4⟩
  · exact wpAny_pyNext_zip_end hh D hz hTI hTO h1 h2 hl1 hl2 hend fun h' hk => hQ h' hk
  · exact wpAny_pyNext_zip_end_held hh D hz hT hTI h1 h2 hl1 hl2 hend fun h' hk => hQ h' fun c o c1 c2 c3 c4 e => hk c o c1 c3 c4 e
end
section
variable {prog : Program} {w : World} {A : Around} {s : Shared} {R : Result → Shared → Prop} {z TI TO i1 i2 l1 l2 S : Addr} {xs ys : Array Value}
theorem zl_loop (hh : A.handled = none) (D : ZipApart z TI TO i1 i2 l1 l2) (O : Off z TI TO i1 i2 l1 l2 S) (hn : min xs.size ys.size ≤ sizeLine) (res : Value) {h₁ : Heap}
    (hR : ∀ h' tk acc c as, (∀ b o, b ≠ S → b ≠ z → b ≠ TO → b ≠ i1 → b ≠ i2 → h₁.get? b = some o → h'.get? b = some o) → h'.get? S = some { cls := .type "list", dict := none, data := .seq acc c, slots := #[] } → as.length = min xs.size ys.size → ZG h' S xs ys as →
      acc.toList = as.map Value.ref → R (.ok (.ret res)) { s with heap := h', toks := tk }) :
    ∀ (k i : Nat) (h : Heap) (tk c : Nat) (acc : Array Value) (as : List Addr), min xs.size ys.size - i = k → i ≤ min xs.size ys.size → ZSt h z TI TO i1 i2 l1 l2 S xs ys i → (∀ b o, b ≠ S → b ≠ z → b ≠ TO → b ≠ i1 → b ≠ i2 → h₁.get? b = some o → h.get? b = some o) →
      h.get? S = some { cls := .type "list", dict := none, data := .seq acc c, slots := #[] } → acc.toList = as.map Value.ref → as.length = i → ZG h S xs ys as →
      codeAny (model prog w) A (.builtin "list.extend.loop" ⟨[.ref S, .ref z, res], []⟩) R { s with heap := h, toks := tk } := by
  have off : ∀ {a : Addr}, S < a → a ≠ z ∧ a ≠ TO ∧ a ≠ i1 ∧ a ≠ i2 := fun {a} h => ⟨Nat.ne_of_gt (Nat.lt_trans O.z h), Nat.ne_of_gt (Nat.lt_trans O.TO h), Nat.ne_of_gt (Nat.lt_trans O.i1 h), Nat.ne_of_gt (Nat.lt_trans O.i2 h)⟩
  have offS : S ≠ z ∧ S ≠ TO ∧ S ≠ i1 ∧ S ≠ i2 := ⟨Nat.ne_of_gt O.z, Nat.ne_of_gt O.TO, Nat.ne_of_gt O.i1, Nat.ne_of_gt O.i2⟩
  intro k
  induction k with
  | zero =>
    intro i h tk c acc as hk hi hst hkeep hS hacc hal hG
    have hin : i = min xs.size ys.size := by omega
    subst hin
    refine codeAny_builtin PySem.F.entry_extend_loop ?_
    rw [Around.under_plainId PySem.F.plain_extend_loop _]
    show wpAny _ A.in1 (pyNext (.ref z) >>= _) _ _ _
    refine wpAny_bind (zl_done (s := { s with heap := h, toks := tk }) (A := A.in1) hh D hst fun h' he => ?_)
    refine wpAny_pure (hR h' tk acc c as (fun b o h0 h1 h2 h3 h4 e => he b o h1 h2 h3 h4 (hkeep b o h0 h1 h2 h3 h4 e)) (he S _ offS.1 offS.2.1 offS.2.2.1 offS.2.2.2 hS) (by omega) ⟨hG.rise, hG.above, fun j a hj => ?_⟩ hacc)
    obtain ⟨x, y, e1, e2, e3⟩ := hG.pairs j a hj
    obtain ⟨o1, o2, o3, o4⟩ := off (hG.above a (List.mem_of_getElem? hj))
    exact ⟨x, y, e1, e2, he a _ o1 o2 o3 o4 e3⟩
  | succ k ih =>
    intro i h tk c acc as hk hi hst hkeep hS hacc hal hG
    have hlt : i < min xs.size ys.size := by omega
    have hix : i < xs.size := Nat.lt_of_lt_of_le hlt (Nat.min_le_left ..)
    have hiy : i < ys.size := Nat.lt_of_lt_of_le hlt (Nat.min_le_right ..)
    have ex := Array.getElem?_eq_getElem hix
    have ey := Array.getElem?_eq_getElem hiy
    have hsz : acc.size = i := by rw [← Array.length_toList, hacc, List.length_map, hal]
    refine codeAny_builtin PySem.F.entry_extend_loop ?_
    rw [Around.under_plainId PySem.F.plain_extend_loop _]
    show wpAny _ A.in1 (pyNext (.ref z) >>= _) _ _ _
    refine wpAny_bind (zl_item (s := { s with heap := h, toks := tk }) (S := S) D hst (Heap.lt_size hS) ex ey fun h' hst' ht hkp => ?_)
    dsimp only at ht hkp ⊢
    have hS' := hkp S _ offS.1 offS.2.1 offS.2.2.1 offS.2.2.2 hS
    have up : ∀ b o, b ≠ S → h'.get? b = some o → (h'.update S (Obj.mapSeq (·.push (Value.ref h.objs.size)))).get? b = some o := fun b o hb e => (Heap.get?_update_other _ _ (Ne.symm hb)).trans e
    have hSl : S < h.objs.size := Heap.lt_size hS
    show wpAny _ A.in1 (updateSeq S (·.push (Value.ref h.objs.size)) >>= _) _ _ _
    refine wpAny_bind ?_
    refine wpAny_updateSeq hS' rfl (wpAny_pure ⟨plainId_quiet PySem.F.plain_extend_loop _, ih (i + 1) _ tk _ (acc.push (Value.ref h.objs.size)) (as ++ [h.objs.size]) (by omega) hlt (hst'.frame O up)
      (fun b o h0 h1 h2 h3 h4 e => up b o h0 (hkp b o h1 h2 h3 h4 (hkeep b o h0 h1 h2 h3 h4 e))) (Heap.get?_update_self _ hS' rfl) (by rw [Array.toList_push, hacc, List.map_append]; rfl) (by rw [List.length_append, hal]; rfl) ⟨?_, ?_, ?_⟩⟩) (by rw [hsz]; omega) (by show (acc.push (Value.ref h.objs.size)).size ≤ sizeLine + 1; rw [Array.size_push, hsz]; omega)
    · refine List.pairwise_append.mpr ⟨hG.rise, List.pairwise_singleton _ _, fun a ha b hb => ?_⟩
      rw [List.mem_singleton.mp hb]
      exact hG.there ha
    · intro a ha
      rcases List.mem_append.mp ha with ha | ha
      · exact hG.above a ha
      · rw [List.mem_singleton.mp ha]; exact hSl
    · intro j b hj
      rcases Nat.lt_trichotomy j as.length with h1 | h1 | h1
      · rw [List.getElem?_append_left h1] at hj
        obtain ⟨x', y', e1, e2, e3⟩ := hG.pairs j b hj
        have hb := hG.above b (List.mem_of_getElem? hj)
        obtain ⟨o1, o2, o3, o4⟩ := off hb
        exact ⟨x', y', e1, e2, up b _ (Nat.ne_of_gt hb) (hkp b _ o1 o2 o3 o4 e3)⟩
      · subst h1
        have hb : h.objs.size = b := by simpa using hj
        subst hb
        exact ⟨_, _, by rw [hal]; exact ex, by rw [hal]; exact ey, up _ _ (Nat.ne_of_gt hSl) ht⟩
      · have hnone : (as ++ [h.objs.size])[j]? = none := List.getElem?_eq_none (by rw [List.length_append, List.length_singleton]; omega)
        rw [hnone] at hj; cases hj
theorem zl_hint {E : Value → Shared → Prop} (hT : s.TypeIs (.ref z) "zip") {Q : Bool → Shared → Prop} (h : Q true s) : wpAny (model prog w) A (Builtin.List.listLengthHint (.ref z)) Q E s := by
  unfold Builtin.List.listLengthHint
  refine wpAny_bind (wpAny_specialOf hT nolen_zip ?_)
  show wpAny _ A (specialOf (Value.ref z) (Str.ofString "__length_hint__") >>= _) _ _ _
  refine wpAny_bind (wpAny_specialOf hT nohint_zip ?_)
  exact wpAny_pure h
theorem ZSt.type {h : Heap} {i : Nat} {s : Shared} (e : s.heap = h) (st : ZSt h z TI TO i1 i2 l1 l2 S xs ys i) : s.TypeIs (.ref z) "zip" := by
  subst e
  obtain ⟨_, _, _, _, _, hz⟩ := st
  rcases hz with ⟨hz, _⟩ | ⟨T, f, oT, hz, _⟩
  · exact ⟨_, hz, rfl⟩
  · exact ⟨_, hz, rfl⟩
theorem zl_extend (hh : A.handled = none) (D : ZipApart z TI TO i1 i2 l1 l2) (O : Off z TI TO i1 i2 l1 l2 S) (hz : IsZip s.heap z TI TO .none) (st : ZSt s.heap z TI TO i1 i2 l1 l2 S xs ys 0) (res : Value) (c₀ : Nat) (hS : s.heap.get? S = some { cls := .type "list", data := .seq #[] c₀ })
    (hR : ∀ h' tk acc c as, (∀ b o, b ≠ S → b ≠ z → b ≠ TO → b ≠ i1 → b ≠ i2 → s.heap.get? b = some o → h'.get? b = some o) → h'.get? S = some { cls := .type "list", dict := none, data := .seq acc c, slots := #[] } → as.length = min xs.size ys.size → ZG h' S xs ys as →
      acc.toList = as.map Value.ref → R (.ok (.ret res)) { s with heap := h', toks := tk }) (hn : min xs.size ys.size ≤ sizeLine) :
    wpAny (model prog w) A.in1 (Builtin.List.listExtendWith (.ref S) (.ref z) res)
      (fun fin s' => match fin with | .done f => R (.ok f) s' | .again c' => c'.quiet = true ∧ codeAny (model prog w) A c' R s') (fun e s' => R (.error e) s') s := by
  have key : ∀ (h : Heap) (c₁ tk : Nat), (∀ b o, b ≠ S → s.heap.get? b = some o → h.get? b = some o) →
      h.get? S = some { cls := .type "list", data := .seq #[] c₁ } → codeAny (model prog w) A (.builtin "list.extend.loop" ⟨[.ref S, .ref z, res], []⟩) R { s with heap := h, toks := tk } := by
    intro h c₁ tk hk hS₁
    exact zl_loop (s := s) (h₁ := s.heap) hh D O hn res hR (min xs.size ys.size) 0 h tk c₁ #[] [] (Nat.sub_zero _) (Nat.zero_le _) (st.frame O hk) (fun b o hb _ _ _ _ e => hk b o hb e) hS₁ rfl rfl
      ⟨List.Pairwise.nil, (fun _ ha => nomatch ha), (fun j a hj => by simp at hj)⟩
  unfold Builtin.List.listExtendWith
  refine wpAny_bind (wpAny_typeOf (T := "zip") (st.type rfl) ?_)
  have h1 : Builtin.List.listSameRef (.ref S) (.ref z) = false := by simp [Builtin.List.listSameRef, Nat.ne_of_gt O.z]
  have h2 : (Value.type "zip" == Value.type "list") = false := by decide
  have h3 : (Value.type "zip" == Value.type "tuple") = false := by decide
  simp only [h1, h2, h3, Bool.or_false, Bool.false_eq_true, if_false]
  refine wpAny_bind (wpAny_pyIter_zip hz ?_)
  refine wpAny_bind (wpAny_holding (zl_hint (st.type rfl) ?_))
  refine wpAny_ite_split (fun _ => ?_) (fun _ => wpAny_pure ⟨plainId_quiet PySem.F.plain_extend_loop _, key _ c₀ _ (fun b o _ e => e) hS⟩)
  refine wpAny_bind (wpAny_rule ?_)
  refine wpAny_bind ?_
  show wpAny _ _ (updateSeq S (·.push .none) >>= fun _ => updateSeq S (·.pop)) _ _ _
  refine wpAny_bind (wpAny_updateSeq hS rfl ?_)
  have hS₂ := Heap.get?_update_self (Obj.mapSeq (·.push Value.none)) hS rfl
  refine wpAny_updateSeq (hz := by seq_fits) hS₂ rfl ?_
  have hS₃ := Heap.get?_update_self (Obj.mapSeq (·.pop)) hS₂ rfl
  refine wpAny_pure ⟨plainId_quiet PySem.F.plain_extend_loop _, key _ _ _ (fun b o hb e => ?_) hS₃⟩
  exact (Heap.get?_update_other _ _ (Ne.symm hb)).trans ((Heap.get?_update_other _ _ (Ne.symm hb)).trans e)
theorem zl_init (hh : A.handled = none) (D : ZipApart z TI TO i1 i2 l1 l2) (O : Off z TI TO i1 i2 l1 l2 S) (hz : IsZip s.heap z TI TO .none) (st : ZSt s.heap z TI TO i1 i2 l1 l2 S xs ys 0) (hS : s.heap.get? S = some { cls := .type "list", data := .seq #[] })
    (hR : ∀ h' tk acc c as, (∀ b o, b ≠ S → b ≠ z → b ≠ TO → b ≠ i1 → b ≠ i2 → s.heap.get? b = some o → h'.get? b = some o) → h'.get? S = some { cls := .type "list", dict := none, data := .seq acc c, slots := #[] } → as.length = min xs.size ys.size → ZG h' S xs ys as →
      acc.toList = as.map Value.ref → R (.ok (.ret .none)) { s with heap := h', toks := tk }) (hn : min xs.size ys.size ≤ sizeLine) :
    wpAny (model prog w) A.in1 (Builtin.«list.__init__» ⟨[.ref S, .ref z], []⟩)
      (fun fin s' => match fin with | .done f => R (.ok f) s' | .again c' => c'.quiet = true ∧ codeAny (model prog w) A c' R s') (fun e s' => R (.error e) s') s := by
  show wpAny _ _ (do let old ← Builtin.List.listItems (.ref S); Builtin.List.listUpdate (.ref S) (fun _ => #[]); letGo old.toList.reverse; Builtin.List.listExtendWith (.ref S) (.ref z) .none) _ _ s
  refine wpAny_bind ?_
  unfold Builtin.List.listItems
  refine wpAny_bind (wpAny_seqItems hS rfl (wpAny_pure ?_))
  show wpAny _ _ (updateSeq S (fun _ => #[]) >>= fun _ => letGo (#[] : Array Value).toList.reverse >>= fun _ => Builtin.List.listExtendWith (.ref S) (.ref z) .none) _ _ s
  refine wpAny_bind (wpAny_updateSeq hS rfl ?_)
  have hS₂ := Heap.get?_update_self (Obj.mapSeq (fun _ => (#[] : Array Value))) hS rfl
  have oth : ∀ b o, b ≠ S → s.heap.get? b = some o → (s.heap.update S (Obj.mapSeq (fun _ => (#[] : Array Value)))).get? b = some o :=
    fun b o hb e => (Heap.get?_update_other _ _ (Ne.symm hb)).trans e
  refine wpAny_bind (wpAny_letGo ?_)
  refine zl_extend hh D O (oth _ _ (Nat.ne_of_lt O.z) hz) (st.frame O oth) .none _ hS₂ (fun h' tk acc c as hk hS' hl hG hacc => ?_) hn
  exact hR h' tk acc c as (fun b o hb h1 h2 h3 h4 e => hk b o hb h1 h2 h3 h4 (oth b o hb e)) hS' hl hG hacc
/-- list of a zip object that was just made -/
theorem zl_call {E : Value → Shared → Prop} {Q : Value → Shared → Prop} (hh : A.handled = none) (D : ZipApart z TI TO i1 i2 l1 l2) (O : Off z TI TO i1 i2 l1 l2 s.heap.objs.size) (hz : IsZip s.heap z TI TO .none) (st : ZSt s.heap z TI TO i1 i2 l1 l2 s.heap.objs.size xs ys 0) (hn : min xs.size ys.size ≤ sizeLine)
    (hQ : ∀ h' tk acc c as, (∀ b o, b ≠ z → b ≠ TO → b ≠ i1 → b ≠ i2 → s.heap.get? b = some o → h'.get? b = some o) → h'.get? s.heap.objs.size = some { cls := .type "list", dict := none, data := .seq acc c, slots := #[] } → as.length = min xs.size ys.size → ZG h' s.heap.objs.size xs ys as →
      acc.toList = as.map Value.ref → Q (.ref s.heap.objs.size) { s with heap := h', toks := tk }) :
    wpAny (model prog w) A (call (.type "list") [.ref z]) Q E s := by
  refine callType_codes (Q₁ := fun obj s₁ => obj = .ref s.heap.objs.size ∧ s₁ = { s with heap := s.heap.push { cls := .type "list", data := .seq #[] } }) PySem.F.called_list (PySem.F.typeCall_list_1 _) PySem.F.entry_list_init
    (code_list_new _ ⟨rfl, rfl⟩) fun obj s₁ h₁ => ?_
  obtain ⟨rfl, rfl⟩ := h₁
  have hS : (s.heap.push { cls := .type "list", data := .seq #[] }).get? s.heap.objs.size = some { cls := .type "list", data := .seq #[] } := Heap.get?_push_size _ rfl
  refine ⟨⟨_, hS, rfl⟩, PySem.F.args_list_init_2 _ _, zl_init (A := A.in1) hh D O (Heap.get?_push_of_some _ hz) (st.frame O fun b o _ e => Heap.get?_push_of_some _ e) hS (fun h' tk acc c as hk hS' hl hG hacc => ?_) hn⟩
  exact ⟨rfl, hQ h' tk acc c as (fun b o h1 h2 h3 h4 e => hk b o (Nat.ne_of_lt (Heap.lt_size e)) h1 h2 h3 h4 (Heap.get?_push_of_some _ e)) hS' hl hG hacc⟩
end
/-! ### over the layer -/
def putP : Hp → List Addr → List (V × V) → Hp
  | H, a :: as, p :: ps => putP (upd H a (.tup [p.1, p.2])) as ps
  | H, _, _ => H
theorem putP_off {b : Addr} : ∀ (as : List Addr) (ps : List (V × V)) (H : Hp), b ∉ as → putP H as ps b = H b
  | [], _, _, _ => rfl
  | _ :: _, [], _, _ => rfl
  | a :: as, p :: ps, H, h => by
    show putP (upd H a (.tup [p.1, p.2])) as ps b = H b
    rw [putP_off as ps _ (fun z => h (List.mem_cons_of_mem _ z)), upd_ne (fun z => h (by rw [z]; exact List.mem_cons_self))]
theorem putP_at : ∀ (as : List Addr) (ps : List (V × V)) (H : Hp), as.length = ps.length → as.Nodup → ∀ (i : Nat) a p, as[i]? = some a → ps[i]? = some p → putP H as ps a = some (.tup [p.1, p.2])
  | [], _, _, _, _, i, a, p, h, _ => by simp at h
  | _ :: _, [], _, h, _, _, _, _, _, _ => by cases h
  | a :: as, p :: ps, H, h, hn, 0, b, q, ea, ep => by
    cases ea
    cases ep
    show putP (upd H a (.tup [p.1, p.2])) as ps a = _
    rw [putP_off as ps _ (List.nodup_cons.mp hn).1, upd_same]
  | a :: as, p :: ps, H, h, hn, i + 1, b, q, ea, ep => putP_at as ps _ (Nat.succ.inj h) (List.nodup_cons.mp hn).2 i b q (by simpa using ea) (by simpa using ep)
def rListZip (K : PySem.W.Frag) : List V → Hp → VK → Prop := fun vs H1 Q => ∃ (a b : Addr) (xs ys : List V), vs = [.ref a, .ref b] ∧ SqL K H1 a xs ∧ SqL K H1 b ys ∧ xs.length = ys.length ∧
  ∀ (H' : Hp) (p : Addr) (ts : List Addr), Same H1 H' → H1 p = none → H' p = some (.lst (ts.map V.ref)) → ts.length = xs.length → (∀ (i : Nat) t x y, ts[i]? = some t → xs[i]? = some x → ys[i]? = some y → H' t = some (.tup [x, y])) → Q (.ref p) H'
def tListZip (K : PySem.W.Frag) (ta : TA) : TE := fun σ H Q => ta σ H fun vs H1 => rListZip K vs H1 Q
theorem vals_get {xs : List V} {us : List Value} (r : Vals xs us) : ∀ {i : Nat} {x : V} {u : Value}, xs[i]? = some x → us[i]? = some u → RelV x u := by
  induction r with
  | nil => intro i x u h _; simp at h
  | cons r t ih =>
    intro i x u h1 h2
    cases i with
    | zero => cases h1; cases h2; exact r
    | succ i => exact ih (by simpa using h1) (by simpa using h2)
section
variable {X : Cx}
theorem zip_laid {pins : List (Addr × Obj)} {σ : L2.St} {H : Hp} {s : Shared} {h' : Heap} {tk N S : Nat} {xs ys : List V} {us ws : List Value} {acc : Array Value} {c : Nat} {as : List Addr} (I : Inv X pins σ H s) (hN : N = s.heap.objs.size) (hNS : N ≤ S) (r1 : Vals xs us) (r2 : Vals ys ws) (hl0 : xs.length = ys.length) (hz : xs.length ≤ sizeLine)
    (hk : ∀ b o, s.heap.get? b = some o → h'.get? b = some o) (hS : h'.get? S = some { cls := .type "list", dict := none, data := .seq acc c, slots := #[] }) (hl : as.length = xs.length) (hG : ZG h' S us.toArray ws.toArray as) (hacc : acc.toList = as.map Value.ref) :
    ∃ H' : Hp, Same H H' ∧ H S = none ∧ H' S = some (.lst (as.map V.ref)) ∧ (∀ (i : Nat) t x y, as[i]? = some t → xs[i]? = some x → ys[i]? = some y → H' t = some (.tup [x, y])) ∧ Inv X pins σ H' { s with heap := h', toks := tk } := by
  subst hN
  have hSn : S ∉ as := fun z => Nat.lt_irrefl _ (hG.above _ z)
  have nd : as.Nodup := List.Pairwise.imp (fun {a b} (h : a < b) => Nat.ne_of_lt h) hG.rise
  have new : ∀ t ∈ as, H t = none := fun t ht => I.hok.fresh (Nat.le_trans hNS (Nat.le_of_lt (hG.above t ht)))
  have newS : H S = none := I.hok.fresh hNS
  have pl : (xs.zip ys).length = xs.length := by rw [List.length_zip]; omega
  have atP := putP_at as (xs.zip ys) (upd H S (.lst (as.map V.ref))) (by omega) nd
  have off : ∀ b, b ∉ as → b ≠ S → putP (upd H S (.lst (as.map V.ref))) as (xs.zip ys) b = H b := fun b h1 h2 => by rw [putP_off as _ _ h1, upd_ne h2]
  have low : ∀ b o, s.heap.get? b = some o → b ∉ as ∧ b ≠ S := fun b o e => ⟨fun z => absurd (Heap.lt_size e) (Nat.not_lt.mpr (Nat.le_trans hNS (Nat.le_of_lt (hG.above b z)))), Nat.ne_of_lt (Nat.lt_of_lt_of_le (Heap.lt_size e) hNS)⟩
  have kp : ∀ b u, H b = some u → (putP (upd H S (.lst (as.map V.ref))) as (xs.zip ys)) b = some u := fun b u e => by
    rw [off b (fun z => by rw [new b z] at e; cases e) (fun z => by rw [z, newS] at e; cases e)]
    exact e
  have eS : putP (upd H S (.lst (as.map V.ref))) as (xs.zip ys) S = some (.lst (as.map V.ref)) := by rw [putP_off as _ _ hSn, upd_same]
  refine ⟨putP (upd H S (.lst (as.map V.ref))) as (xs.zip ys), kp, newS, eS, fun i t x y h1 h2 h3 => atP i t (x, y) h1 (by rw [List.getElem?_zip_eq_some]; exact ⟨h2, h3⟩), ?_⟩
  refine I.call' (ch := []) rfl ⟨fun b o q _ _ _ => hk b o q, fun b o q _ _ _ => ⟨o.slots, hk b o q⟩, fun b o q n _ => ?_, fun b o q _ => ⟨o, hk b o q⟩, fun b xs q => kp b _ q, fun b o u q => kp b _ q, fun b ps q => ⟨#[], by rw [kp b _ q]; simp⟩⟩ (fun b u q => ?_) I.bare fun b z => by simp at z
  · obtain ⟨z1, z2⟩ := low b o q
    rw [off b z1 z2]
    exact n
  · by_cases hb : b ∈ as
    · obtain ⟨j, e1⟩ := List.mem_iff_getElem?.mp hb
      have jl : j < xs.length := by have := (List.getElem?_eq_some_iff.mp e1).1; omega
      have ex := List.getElem?_eq_getElem jl
      have ey := List.getElem?_eq_getElem (by omega : j < ys.length)
      have e3 := atP j b (xs[j], ys[j]) e1 (by rw [List.getElem?_zip_eq_some]; exact ⟨ex, ey⟩)
      rw [e3] at q
      cases q
      obtain ⟨u1, w1, f1, f2, f3⟩ := hG.pairs j b e1
      have g1 : us[j]? = some u1 := by simpa using f1
      have g2 : ws[j]? = some w1 := by simpa using f2
      exact ⟨by show 2 ≤ sizeLine; decide, [u1, w1], .cons (vals_get r1 ex g1) (.cons (vals_get r2 ey g2) .nil), ⟨_, f3, rfl, _, rfl⟩⟩
    · by_cases hb2 : b = S
      · rw [hb2] at q ⊢
        rw [eS] at q
        cases q
        refine ⟨by rw [List.length_map]; omega, acc.toList, c, by rw [hacc]; exact LiI.vals_refs as, ?_⟩
        rw [Array.toArray_toList]
        exact hS
      · rw [off b hb hb2] at q
        exact (I.hok b u q).stay (fun d v _ y => hk d v y) (fun d y => kp d _ y) fun d xs y => kp d _ y
variable {e e2 : Expr} {ta : TA} {p p2 pos pos2 : Pos}
theorem pe_listZip (hc : X.calm = true) (hgd : Gl X "list") (hmd : X.mg "list" = none) (hgz : Gl X "zip") (hmz : X.mg "zip" = none) (ha : PA X [e, e2] ta)
    (hs : starEach [e, e2] X.env = (false, eval e X.env) :: starEach [e2] X.env := by rfl) (hpl : (backTo pos2 (starEach [e2] X.env)).any (·.1) = false := by rfl)
    (na : starEach [Expr.Call (.Name "zip" p2) [e, e2] [] pos2] X.env = (false, eval (.Call (.Name "zip" p2) [e, e2] [] pos2) X.env) :: starEach [] X.env := by rfl) :
    PE X (.Call (.Name "list" p) [.Call (.Name "zip" p2) [e, e2] [] pos2] [] pos) (tListZip X.K ta) := by
  refine ⟨fun pins s σ H Q I h => ?_⟩
  refine Call_ (ld_blt I hgd hmd PyProof.Rows.boot_list (PyProof.Rows.callWith_type1 (args_cons ?_ na) na))
  refine Call_ (ld_blt I hgz hmz PyProof.Rows.boot_zip (PyProof.Rows.callWith_type1 (thn (ha.run pos2 pins s σ H _ I h) fun us s1 ⟨vs, H1, I1, r1, q1⟩ => ?_) hs hpl))
  obtain ⟨a, b, xs, ys, ex, hqx, hqy, hl, q⟩ := q1
  subst ex
  cases r1 with
  | cons r rr =>
    cases rr with
    | cons r' rr =>
      cases rr
      cases r
      cases r'
      obtain ⟨its, rv, p1, hz1⟩ := I1.list hqx
      obtain ⟨its2, rv2, p2, hz2⟩ := I1.list hqy
      have e1 := rv.length
      have e2 := rv2.length
      have hmin : min its.toArray.size its2.toArray.size = xs.length := by rw [List.size_toArray, List.size_toArray, ← e1, ← e2, hl, Nat.min_self]
      refine call_zip_2 p1.isList p2.isList fun h' hz' hTI hTO h1 h2 hs5 hk => args_nil ?_
      have la : a < s1.heap.objs.size := p1.lt
      have lb : b < s1.heap.objs.size := p2.lt
      have D := PySem.W.ktu_apart s1.heap.objs.size a b la lb
      have O : Off (s1.heap.objs.size + 4) (s1.heap.objs.size + 2) (s1.heap.objs.size + 3) s1.heap.objs.size (s1.heap.objs.size + 1) a b h'.objs.size := by
        rw [hs5]
        exact ⟨Nat.lt_succ_self _, by show s1.heap.objs.size + 2 < s1.heap.objs.size + 5; omega, by show s1.heap.objs.size + 3 < s1.heap.objs.size + 5; omega, by show s1.heap.objs.size < s1.heap.objs.size + 5; omega, by show s1.heap.objs.size + 1 < s1.heap.objs.size + 5; omega, Nat.lt_of_lt_of_le la (Nat.le_add_right _ _), Nat.lt_of_lt_of_le lb (Nat.le_add_right _ _)⟩
      refine zl_call (s := { s1 with heap := h' }) (I1.ok.hd hc) D O hz' ⟨hTI, h1, h2, p1.isList.at fun o e => hk _ _ e, p2.isList.at fun o e => hk _ _ e, .inl ⟨hz', _, _, hTO⟩⟩ (by rw [hmin, e1]; rw [← e1]; exact hz1) fun h'' tk acc c as hk2 hS hal hG hacc => ?_
      have hle : s1.heap.objs.size ≤ h'.objs.size := by omega
      have keep : ∀ b o, s1.heap.get? b = some o → h''.get? b = some o := fun b o eb => by
        have hlt := Heap.lt_size eb
        exact hk2 b o (Nat.ne_of_lt (Nat.lt_of_lt_of_le hlt (Nat.le_add_right _ _))) (Nat.ne_of_lt (Nat.lt_of_lt_of_le hlt (Nat.le_add_right _ _))) (Nat.ne_of_lt hlt) (Nat.ne_of_lt (Nat.lt_of_lt_of_le hlt (Nat.le_add_right _ _))) (hk _ _ eb)
      obtain ⟨H', k1, k2, k3, k4, J⟩ := zip_laid (tk := tk) I1 rfl hle rv rv2 hl hz1 keep hS (hal.trans hmin) hG hacc
      exact ⟨.ref _, H', J, rfl, q H' _ as k1 k2 k3 (hal.trans hmin) k4⟩
end
end LcLZ
set_option Elab.async false
set_option linter.all false
set_option maxRecDepth 100000
set_option maxHeartbeats 4000000
namespace Lc
open PySem PySem.Spec PyProof.Rows L2 LcR
open LC (Sz FarOk Had psum wsum Part RowI RowOk)
/-- picks of one act at each state -/
structure FullOk (n : Nat) (l : List ActD) (c : List Nat) : Prop where
  len : c.length = n
  at_ : ∀ (s a : Nat), c[s]? = some a → ∃ d, l[a]? = some d ∧ d.1 = s
def stopP (n : Nat) (g c : List Nat) : List (Option Nat) := (List.range n).map fun s => if s ∈ g then none else c[s]?
theorem stopP_len (n : Nat) (g c : List Nat) : (stopP n g c).length = n := by unfold stopP; simp
theorem stopP_at {n : Nat} {g c : List Nat} {s : Nat} (h : s < n) : pk (stopP n g c) s = if s ∈ g then none else c[s]? := by
  unfold stopP pk
  rw [List.getElem?_map, List.getElem?_range h]
  rfl
theorem stopP_some {n : Nat} {g c : List Nat} {s a : Nat} (h : pk (stopP n g c) s = some a) : s < n ∧ s ∉ g ∧ c[s]? = some a := by
  have hs : s < n := by have := pk_lt h; rw [stopP_len] at this; exact this
  rw [stopP_at hs] at h
  split at h
  · cases h
  · exact ⟨hs, by assumption, h⟩
theorem stopP_ok {n : Nat} {l : List ActD} {g c : List Nat} (h : FullOk n l c) (gn : ∀ s ∈ g, s < n) : PkOk n l g (stopP n g c) :=
  ⟨stopP_len n g c, fun s a e => h.at_ s a (stopP_some e).2.2, fun s hs => by rw [stopP_at (gn s hs), if_pos hs]⟩
theorem worth_some {kvs : List (DKey × V)} {g : List Nat} (ek : kvs.map (·.1) = g.map keyN) (s : Nat) : (valV kvs (keyN s)).isSome = decide (s ∈ g) := by
  rw [← valV_any, Bool.eq_iff_iff, List.any_eq_true, decide_eq_true_iff]
  constructor
  · rintro ⟨kv, h1, h2⟩
    have : kv.1 ∈ kvs.map (·.1) := List.mem_map.mpr ⟨kv, h1, rfl⟩
    rw [ek] at this
    obtain ⟨t, ht, e⟩ := List.mem_map.mp this
    have h3 : kv.1 = keyN s := by simpa using h2
    rw [keyN_inj (h3.symm.trans e.symm)]
    exact ht
  · intro hs
    have : keyN s ∈ kvs.map (·.1) := by rw [ek]; exact List.mem_map.mpr ⟨s, hs, rfl⟩
    obtain ⟨kv, h1, h2⟩ := List.mem_map.mp this
    exact ⟨kv, h1, by simp [h2]⟩
/-- the acts picked at states that are no goals -/
def someA (n : Nat) (g c : List Nat) : List Nat := ((List.range n).filter fun s => !decide (s ∈ g)).map fun s => c.getD s 0
theorem someA_mem {n : Nat} {g c : List Nat} (hl : c.length = n) (a : Nat) : a ∈ someA n g c ↔ ∃ s, pk (stopP n g c) s = some a := by
  unfold someA
  rw [List.mem_map]
  constructor
  · rintro ⟨s, hs, rfl⟩
    obtain ⟨h1, h2⟩ := List.mem_filter.mp hs
    have h1 := List.mem_range.mp h1
    refine ⟨s, ?_⟩
    rw [stopP_at h1, if_neg (by simpa using h2), List.getD_eq_getElem?_getD, List.getElem?_eq_getElem (by omega)]
    rfl
  · rintro ⟨s, e⟩
    obtain ⟨h1, h2, h3⟩ := stopP_some e
    exact ⟨s, List.mem_filter.mpr ⟨List.mem_range.mpr h1, by simpa using h2⟩, by rw [List.getD_eq_getElem?_getD, h3]; rfl⟩
theorem npath {n : Nat} {l : List ActD} {g c : List Nat} (fok : FullOk n l c) {s t : Nat} (h : NPath l (someA n g c) s t) : LC.Path (hsOf n l) (pk (stopP n g c)) s t := by
  induction h with
  | refl => exact .refl
  | @step u a d o h1 h2 h3 h4 h5 ih =>
    obtain ⟨s', e⟩ := (someA_mem fok.len a).mp h2
    obtain ⟨d', hd', e'⟩ := fok.at_ s' a (stopP_some e).2.2
    rw [h3] at hd'
    cases hd'
    have : s' = u := e'.symm.trans h4
    subst this
    have := LC.Path.step (t := (o.target, o.odds)) ih e (by rw [out_of h3]; exact List.mem_map.mpr ⟨o, h5, rfl⟩)
    exact this
theorem near_far {n : Nat} {l : List ActD} {g c ks : List Nat} {s : Nat} {far : Nat → Option Nat} (fok : FullOk n l c) (gn : ∀ s ∈ g, s < n) (F : FarOk (hsOf n l) g (pk (stopP n g c)) far) (h : NearOk l (someA n g c) s ks) : (∃ t ∈ ks, t ∈ g) ↔ far s ≠ none := by
  constructor
  · rintro ⟨t, h1, h2⟩
    refine LC.far_path F (npath fok (h.path t h1)) ?_
    rw [(F.f0 t).mpr ⟨h2, by rw [stopP_at (gn t h2), if_pos h2]⟩]
    simp
  · intro e
    cases q : far s with
    | none => exact absurd q e
    | some k =>
      obtain ⟨t, h1, h2, _⟩ := LC.near_goal F (D := (· ∈ ks)) (fun u a hu ea t ht => by
        obtain ⟨d, hd, e'⟩ := fok.at_ u a (stopP_some ea).2.2
        rw [out_of hd] at ht
        obtain ⟨o, ho, rfl⟩ := List.mem_map.mp ht
        exact h.closed u hu a ((someA_mem fok.len a).mpr ⟨u, ea⟩) d hd e' o ho) k s q h.start
      exact ⟨t, h1, h2⟩
theorem filter_ne {α : Type} {l : List α} {q : α → Bool} : l.filter q ≠ [] ↔ ∃ x ∈ l, q x = true := by
  constructor
  · intro h
    obtain ⟨x, hx⟩ := List.exists_mem_of_ne_nil _ h
    obtain ⟨h1, h2⟩ := List.mem_filter.mp hx
    exact ⟨x, h1, h2⟩
  · rintro ⟨x, h1, h2⟩
    exact List.ne_nil_of_mem (List.mem_filter.mpr ⟨h1, h2⟩)
theorem paired_mk {α β : Type} {F : α → β → Prop} : ∀ {xs : List α} {ys : List β}, xs.length = ys.length → (∀ (i : Nat) x y, xs[i]? = some x → ys[i]? = some y → F x y) → Paired F xs ys
  | [], [], _, _ => .nil
  | [], _ :: _, h, _ => by cases h
  | _ :: _, [], h, _ => by cases h
  | x :: xs, y :: ys, h, r => .cons (r 0 x y rfl rfl) (paired_mk (Nat.succ.inj h) fun i a b ha hb => r (i + 1) a b (by simpa using ha) (by simpa using hb))
section
variable {P : Program} {w : World} {K : PySem.W.Frag} {mg : Str → Option Value} {base : Heap}
def sp_law_by (K : PySem.W.Frag) : Sp := fun vs H Q _ => ∃ (v : V) (n : Nat) (l : List ActD) (u : Addr) (c : List Nat) (y : V) (g : List Nat), vs = [.int (n : Int), v, .ref u, y] ∧ ActsL H v l ∧ OkActs n l ∧ n ≤ 6 ∧ H u = some (.lst (intV c)) ∧ FullOk n l c ∧ WorthsV K H y g ∧ (∀ s ∈ g, s < n) ∧
  ∀ H' a us q far, Same H H' → H' a = some (.lst us) → All2 (IsR K H') us q → q.length = n → PkOk n l g (stopP n g c) → Had (hsOf n l) g (pk (stopP n g c)) (numN q) far → (∀ x ∈ q, Sz 2169 2158 x) → Q (.ref a) H'
theorem c_law_by (T : Tx K mg) : C8.Cal P w K mg base 6 "_law_by" (sp_law_by K) [] := by
  obtain ⟨fd, F⟩ := T.f_law_by
  refine calD F T.g_law_by sc_law_by (fun _ _ _ _ _ _ us hl => match us, hl with | [_, _, _, _], _ => rfl) (fun vs H Q E h => ?_) (fun cdv A outer s H vs Q E hr h => ?_)
  · obtain ⟨_, _, _, _, _, _, _, rfl, _⟩ := h; rfl
  obtain ⟨v, n, l, u, c, y, g, rfl, hv, ok, n6, hu, fok, hy, gn, k⟩ := h
  refine ⟨_, (pss_cons (ps_set (i := 4) sc_law_by.nd rfl (Or.inr rfl) (pe_lc (own := [("state", 8)]) (g := gName 8) (te := (tOp (rIxL K) (tVar 2) (tVar 8))) (by rfl) sc_law_by.nd (pi_range1 (by rfl) T.b_range (pa_cons (pv 0) pa_nil)) (blkOk_by (own := [("state", 8)]) (N := N_law_by) (sc := defScope s_law_by) (by decide +kernel)) (fun _ _ _ _ _ => (pg_name (i := 8) sc_law_by.nd rfl (Or.inl rfl))) (fun _ _ _ _ _ => (pts_one (pt_cmp (pc_dnotin (hu1 hr) (pv 8) (pv 3))))) (fun _ _ _ _ _ => (pe_ix ix_list (pv 2) (pv 8) (fun _ _ => rfl)))))
      (pss_cons (ps_setLc (i := 5) (own := [("state", 8)]) (g := gName 8) (tt := (tB (tOp (rNeNil K) (tLc (iList K (tCall sp_law_near [] C8.E0 (tCons (tVar 1) (tCons (tVar 4) (tCons (tVar 8) tNil))))) (gName 16) (tB (tDIn (tVar 16) (tVar 3))) (tVar 16) [16]) (tLst tNil)))) (by rfl) sc_law_by.nd rfl rfl (sw_true rfl rfl rfl (by decide +kernel)) (pi_range1 (by rfl) T.b_range (pa_cons (pv 0) pa_nil)) (blkOk_by (own := [("state", 8)]) (N := N_law_by) (sc := defScope s_law_by) (by decide +kernel)) (fun _ _ _ _ _ => (pg_name (i := 8) sc_law_by.nd rfl (Or.inl rfl))) (fun _ _ _ _ _ => (pts_one (pt_cmpR (op_neNil hr.units0) (pe_lc (own := [("goal", 16)]) (g := gName 16) (by rfl) sc_law_by.nd (pi_list (C8.pe_c (c_law_near T) hr (by decide) (by rfl) (pa_cons (pv 1) (pa_cons (pv 4) (pa_cons (pv 8) pa_nil))))) (blkOk_in (own := [("goal", 16)]) (N := N_law_by) rfl (by decide +kernel)) (fun _ _ _ _ _ => (pg_name (i := 16) sc_law_by.nd rfl (Or.inl rfl))) (fun _ _ _ _ _ => (pts_one (pt_cmp (pc_din (hu1 hr) (pv 16) (pv 3))))) (fun _ _ _ _ _ => (pv 16))) (pe_lst pa_nil) (nomark _)))) (fun _ _ _ _ _ => (pv 8)))
      (pss_cons (ps_setLc (i := 6) (own := [("state", 8)]) (g := gName 8) (by rfl) sc_law_by.nd rfl rfl (sw_true rfl rfl rfl (by decide +kernel)) (pi_list (pv 5)) (blkOk_by (own := [("state", 8)]) (N := N_law_by) (sc := defScope s_law_by) (by decide +kernel)) (fun _ _ _ _ _ => (pg_name (i := 8) sc_law_by.nd rfl (Or.inl rfl))) (fun _ _ _ _ _ => (pts_one (pt_cmp (pc_dnotin (hu1 hr) (pv 8) (pv 3))))) (fun _ _ _ _ _ => (pv 8)))
      (pss_cons (ps_set (i := 7) sc_law_by.nd rfl (Or.inl rfl) (pe_lst pa_nil))
      (pss_cons (ps_for PassesOwn.never rfl (pi_list (pv 6)) (pg_name (i := 8) sc_law_by.nd rfl (Or.inl rfl))
      (pss_cons (ps_par (i := 9) (j := 10) (by rfl) sc_law_by.nd rfl rfl (by decide) rfl rfl (pa_cons (pe_op op_rep (pe_lst (pa_cons (C8.pe_mk (c_Ratio_1 T) hr (by decide) (by rfl) (pa_cons pe_int pa_nil)) pa_nil)) (pe_op op_add (pe_callB call_len (by rfl) T.b_len (by decide +kernel) (pa_cons (pv 6) pa_nil)) pe_int)) (pa_cons pe_int pa_nil)) (by rfl))
      (pss_cons (ps_for PassesOwn.never rfl (pi_tup (pe_ix ix_tup (pe_ix ix_list (pv 1) (pe_ix ix_list (pv 2) (pv 8) (fun _ _ => rfl)) (fun _ _ => rfl)) pe_int (fun _ _ => rfl))) (pg_tup rfl (pgs_cons (pg_name (i := 11) sc_law_by.nd rfl (Or.inl rfl)) (pgs_cons (pg_name (i := 12) sc_law_by.nd rfl (Or.inl rfl)) (pgs_cons (pg_name (i := 13) sc_law_by.nd rfl (Or.inl rfl)) (pgs_cons (pg_name (i := 14) sc_law_by.nd rfl (Or.inl rfl)) pgs_nil)))))
      (pss_cons (ps_set (i := 10) sc_law_by.nd rfl (Or.inl rfl) (pe_op op_add (pv 10) (pv 11)))
      (pss_one (ps_if (pt_cmp (pc_din (hu1 hr) (pv 12) (pv 3))) (pss_one (ps_asg (pe_op (op_Radd T hr (by decide)) (pe_ix ix_list (pv 9) (pe_un un_neg pe_int) (fun _ _ => rfl)) (pe_op (op_Rmul T hr (by decide)) (pe_dget (hu1 hr) (pv 3) (pv 12) (fun _ _ => rfl)) (pv 11))) (pg_sub (pv 9) (pe_un un_neg pe_int) set_list))) (pss_one (ps_if (pt_cmpR op_in_seq (pv 12) (pv 6) (by rfl)) (pss_one (ps_asg (pe_op (op_Rsub T hr (by decide)) (pe_ix ix_list (pv 9) (pe_bm PySem.F.plainAttrs_list PySem.F.slot_list_index PySem.F.type_list_index mt_index (pv 6) (pa_cons (pv 12) pa_nil)) (fun _ _ => rfl)) (pv 11)) (pg_sub (pv 9) (pe_bm PySem.F.plainAttrs_list PySem.F.slot_list_index PySem.F.type_list_index mt_index (pv 6) (pa_cons (pv 12) pa_nil)) set_list))) pss_nil))))))
      (pss_cons (ps_asg (pe_op (op_Radd T hr (by decide)) (pe_ix ix_list (pv 9) (pe_bm PySem.F.plainAttrs_list PySem.F.slot_list_index PySem.F.type_list_index mt_index (pv 6) (pa_cons (pv 8) pa_nil)) (fun _ _ => rfl)) (pv 10)) (pg_sub (pv 9) (pe_bm PySem.F.plainAttrs_list PySem.F.slot_list_index PySem.F.type_list_index mt_index (pv 6) (pa_cons (pv 8) pa_nil)) set_list))
      (pss_one (ps_expr (pe_bm PySem.F.plainAttrs_list PySem.F.slot_list_append PySem.F.type_list_append mt_append (pv 7) (pa_cons (pv 9) pa_nil))))))))
      (pss_cons (ps_set (i := 15) sc_law_by.nd rfl (Or.inr rfl) (pe_callTy (call_dictP rfl) (by rfl) T.b_dict (by decide +kernel) (pa_cons (LcLZ.pe_listZip rfl (by rfl) T.b_list (by rfl) T.b_zip (pa_cons (pv 6) (pa_cons (C8.pe_c (c_law_solved T) hr (by decide) (by rfl) (pa_cons (pv 7) pa_nil)) pa_nil))) pa_nil)))
      (pss_one (ps_ret (pe_lc (own := [("state", 8)]) (g := gName 8) (te := (tDGet2 (tVar 3) (tVar 8) (tDGet2 (tVar 15) (tVar 8) (tMake (CRatio K) (sp_Ratio_init K) [.int 1] C8.E0 (tCons (tC (.int 0)) tNil))))) (by rfl) sc_law_by.nd (pi_range1 (by rfl) T.b_range (pa_cons (pv 0) pa_nil)) (blkOk_by (own := [("state", 8)]) (N := N_law_by) (sc := defScope s_law_by) (by decide +kernel)) (fun _ _ _ _ _ => (pg_name (i := 8) sc_law_by.nd rfl (Or.inl rfl))) (fun _ _ _ _ _ => pts_nil) (fun _ _ _ _ _ => (pe_dget2 (hu1 hr) (pv 3) (pv 8) (pe_dget2 (hu1 hr) (pv 15) (pv 8) (C8.pe_mk (c_Ratio_1 T) hr (by decide) (by rfl) (pa_cons pe_int pa_nil)) ⟨rfl, rfl, rfl, rfl⟩) ⟨rfl, rfl, rfl, rfl⟩))))))))))), ?_⟩
  obtain ⟨av, aus, rfl, ea, al⟩ := id hv
  obtain ⟨d, kvs, rfl, ed, ek, ew⟩ := hy
  have cl := fok.len
  have pok := stopP_ok fok gn
  have pn : ∀ s a, pk (stopP n g c) s = some a → s < n := fun s a e => (stopP_some e).1
  obtain ⟨far, fo⟩ : ∃ far, FarOk (hsOf n l) g (pk (stopP n g c)) far := ⟨_, LC.dist_ok (h := hsOf n l) pn gn⟩
  -- the acts picked where no goal is
  refine ⟨_, rfl, (n : Int), rfl, by omega, by omega, fun S hS => ?_⟩
  rw [Int.toNat_natCast]
  refine lcm walk_range hS (Nat.le_trans n6 (by decide)) (fun s => !decide (s ∈ g)) (fun s y _ => y = .int ((c.getD s 0 : Nat) : Int)) (fun _ _ _ _ _ h => h) (fun _ _ => trivial) (fun i x H5 H' kN' kY hi s y kn ky => ?_) (fun H1 ys s1 eS kp => ?_)
  · obtain ⟨rfl, ex⟩ := y
    obtain rfl : x = V.int ((i : Nat) : Int) := ex.trans (congrArg V.int (Int.zero_add _))
    refine ⟨rfl, ⟨_, rfl, _, rfl, d, _, rfl, .inl ⟨kvs, keyN i, .inl (s _ _ ed), rfl, rfl⟩, _, rfl, ite2 (fun h0 => ?_) (fun h0 => ?_)⟩⟩
    · have hc : c[i]? = some (c.getD i 0) := by rw [List.getD_eq_getElem?_getD, List.getElem?_eq_getElem (by omega)]; rfl
      refine ⟨_, rfl, _, rfl, u, _, _, _, rfl, rfl, .inl (.inl (s _ _ hu)), atI_nat (intV_get hc), ky _ _ (Same.refl _) ?_ rfl⟩
      have h0 : (!(valV kvs (keyN i)).isSome) = true := h0
      rw [worth_some ek] at h0
      exact h0
    · refine kn _ (Same.refl _) ?_
      have h0 : ¬ (!(valV kvs (keyN i)).isSome) = true := h0
      rw [worth_some ek] at h0
      simpa using h0
  have eys := kept_map (f := fun s => V.int ((c.getD s 0 : Nat) : Int)) kp
  have eys : ys = intV (someA n g c) := by rw [eys]; unfold someA intV; rw [List.map_map]; rfl
  subst eys
  clear kp
  have sA : ∀ a ∈ someA n g c, a < l.length := fun a ha => by
    obtain ⟨s, e⟩ := (someA_mem cl a).mp ha
    exact pok.lt s a e
  -- the states that come to a goal
  refine ⟨_, rfl, (n : Int), rfl, by omega, by omega, fun Fl hFl => ?_⟩
  rw [Int.toNat_natCast]
  refine lcm walk_range hFl (Nat.le_trans n6 (by decide)) (fun s => (far s).isSome) (fun s y _ => y = .int (s : Nat)) (fun _ _ _ _ _ h => h) (fun _ _ => trivial) (fun i x H5 H' kN' kY hi s y kn ky => ?_) (fun H2 ys s2 eF kp => ?_)
  · obtain ⟨rfl, ex⟩ := y
    obtain rfl : x = V.int ((i : Nat) : Int) := ex.trans (congrArg V.int (Int.zero_add _))
    refine ⟨rfl, ?_⟩
    refine ⟨_, rfl, _, rfl, _, rfl, .ref av, n, l, S, someA n g c, i, rfl, hv.s (s1.trans s), ok, s _ _ eS, sA, hi, fun H6 Kn ks s6 eK nok knd klt => ?_⟩
    refine ⟨Kn, rfl, ⟨_, .inl (.inl eK)⟩, fun D3 hD3 => ?_⟩
    have kl : ks.length ≤ n := by
      have := nodup_len knd (m := List.range n) fun x hx => List.mem_range.mpr (klt x hx)
      rwa [List.length_range] at this
    have il : (intV ks).length = ks.length := List.length_map _
    have s06 := (s1.trans s).trans s6
    refine lcm walk_list hD3 (Nat.le_trans (by omega : (intV ks).length ≤ 6) (by decide)) (fun j => decide (ks.getD j 0 ∈ g)) (fun j y _ => y = .int ((ks.getD j 0 : Nat) : Int)) (fun _ _ _ _ _ h => h) (fun H1 s => .inl (.inl (s _ _ eK))) (fun j x H7 H8 kN2 kY2 hj s7 y kn2 ky2 => ?_) (fun H7 zs s7 e7 kp7 => ?_)
    · obtain ⟨rfl, hx⟩ := y
      have hjk : j < ks.length := by omega
      have gd : ks[j]? = some (ks.getD j 0) := by rw [List.getD_eq_getElem?_getD, List.getElem?_eq_getElem hjk]; rfl
      rw [intV_get gd] at hx
      cases hx
      refine ⟨rfl, ⟨_, rfl, _, rfl, d, _, rfl, .inl ⟨kvs, keyN (ks.getD j 0), .inl ((s06.trans s7) _ _ ed), rfl, rfl⟩, _, rfl, ite2 (fun h0 => ?_) (fun h0 => ?_)⟩⟩
      · rw [worth_some ek] at h0
        exact ⟨_, rfl, ky2 _ _ (Same.refl _) h0 rfl⟩
      · rw [worth_some ek] at h0
        exact kn2 _ (Same.refl _) (by simpa using h0)
    have ezs := kept_map (f := fun j => V.int ((ks.getD j 0 : Nat) : Int)) kp7
    have ezs : zs = intV (ks.filter fun t => decide (t ∈ g)) := by
      rw [ezs, il, ← filter_getD ks fun t => decide (t ∈ g)]
      unfold intV
      rw [List.map_map]
      rfl
    have nf := near_far fok gn fo nok
    refine ⟨Nat.zero_le _, fun Z hZ => ?_⟩
    have s8 := (same_upd (o := .lst []) hZ)
    refine ⟨D3, Z, zs, rfl, rfl, .inl (.inl (s8 _ _ e7)), .inl (.inl upd_same), _, rfl, ite2 (fun h0 => ?_) (fun h0 => ?_)⟩
    · refine ⟨_, rfl, ky _ _ (s6.trans (s7.trans s8)) ?_ rfl⟩
      have hne : (ks.filter fun t => decide (t ∈ g)) ≠ [] := fun e => by
        rw [ezs, e] at h0
        cases h0
      obtain ⟨t, h1, h2⟩ := filter_ne.mp hne
      have := nf.mp ⟨t, h1, of_decide_eq_true h2⟩
      cases e : far i with
      | none => exact absurd e this
      | some m => rfl
    · refine kn _ (s6.trans (s7.trans s8)) ?_
      cases e : far i with
      | none => rfl
      | some m =>
        obtain ⟨t, h1, h2⟩ := nf.mpr (by rw [e]; simp)
        have hne := filter_ne (q := fun t => decide (t ∈ g)).mpr ⟨t, h1, decide_eq_true h2⟩
        exfalso
        apply h0
        rw [ezs]
        cases q : ks.filter fun t => decide (t ∈ g) with
        | nil => exact absurd q hne
        | cons a b => rfl
  have eys := kept_ints kp
  subst eys
  clear kp
  rw [show (((List.range n).filter fun s => (far s).isSome).map fun j : Nat => V.int (j : Int)) = intV ((List.range n).filter fun s => (far s).isSome) from rfl] at eF
  generalize hfl : ((List.range n).filter fun s => (far s).isSome) = fl at eF
  have flm : ∀ s, s ∈ fl ↔ far s ≠ none := fun s => by
    rw [← hfl, List.mem_filter, List.mem_range]
    constructor
    · rintro ⟨_, h⟩ e
      rw [e] at h
      cases h
    · intro e
      refine ⟨fo.lt s e, ?_⟩
      cases q : far s with
      | none => exact absurd q e
      | some m => rfl
  have fld : fl.Nodup := by rw [← hfl]; exact List.nodup_range.filter _
  have fll : fl.length ≤ n := by
    have := nodup_len fld (m := List.range n) fun x hx => List.mem_range.mpr (fo.lt x ((flm x).mp hx))
    rwa [List.length_range] at this
  have il : (intV fl).length = fl.length := List.length_map _
  have s12 := s1.trans s2
  -- those of them that are no goals
  refine ⟨_, rfl, Fl, rfl, ⟨_, .inl (.inl eF)⟩, fun O hO => ?_⟩
  refine lcm walk_list hO (Nat.le_trans (by omega : (intV fl).length ≤ 6) (by decide)) (fun j => !decide (fl.getD j 0 ∈ g)) (fun j y _ => y = .int ((fl.getD j 0 : Nat) : Int)) (fun _ _ _ _ _ h => h) (fun H1 s => .inl (.inl (s _ _ eF))) (fun j x H5 H' kN' kY hj s y kn ky => ?_) (fun H3 ys s3 e3 kp => ?_)
  · obtain ⟨rfl, hx⟩ := y
    have gd : fl[j]? = some (fl.getD j 0) := by rw [List.getD_eq_getElem?_getD, List.getElem?_eq_getElem (by omega)]; rfl
    rw [intV_get gd] at hx
    cases hx
    refine ⟨rfl, ⟨_, rfl, _, rfl, d, _, rfl, .inl ⟨kvs, keyN (fl.getD j 0), .inl ((s12.trans s) _ _ ed), rfl, rfl⟩, _, rfl, ite2 (fun h0 => ?_) (fun h0 => ?_)⟩⟩
    · have h0 : (!(valV kvs (keyN (fl.getD j 0))).isSome) = true := h0
      rw [worth_some ek] at h0
      exact ⟨_, rfl, ky _ _ (Same.refl _) h0 rfl⟩
    · have h0 : ¬ (!(valV kvs (keyN (fl.getD j 0))).isSome) = true := h0
      rw [worth_some ek] at h0
      exact kn _ (Same.refl _) (by simpa using h0)
  have eys := kept_map (f := fun j => V.int (fl.getD j 0 : Nat)) kp
  have eos : ys = intV (fl.filter fun s => !decide (s ∈ g)) := by
    rw [eys, il, ← filter_getD fl fun s => !decide (s ∈ g)]
    unfold intV
    rw [List.map_map]
    rfl
  have ond : (fl.filter fun s => !decide (s ∈ g)).Nodup := fld.filter _
  have om : ∀ s, s ∈ (fl.filter fun s => !decide (s ∈ g)) ↔ ∃ k, far s = some (k + 1) := fun s => by
    rw [List.mem_filter, flm s]
    constructor
    · rintro ⟨h1, h2⟩
      have h2 : s ∉ g := by simpa using h2
      cases e : far s with
      | none => exact absurd e h1
      | some m =>
        cases m with
        | zero => exact absurd ((fo.f0 s).mp e).1 h2
        | succ m => exact ⟨m, rfl⟩
    · rintro ⟨m, e⟩
      refine ⟨by rw [e]; simp, ?_⟩
      have : s ∉ g := fun hg => by
        rw [(fo.f0 s).mpr ⟨hg, by rw [stopP_at (gn s hg), if_pos hg]⟩] at e
        cases e
      simpa using this
  generalize (fl.filter fun s => !decide (s ∈ g)) = os at eos ond om
  subst eos
  clear eys kp
  have s23 := s12.trans s3
  have osn : ∀ s ∈ os, s < n := fun s hs => by
    obtain ⟨m, e⟩ := (om s).mp hs
    exact fo.lt s (by rw [e]; simp)
  have N5 : os.length ≤ 5 := by
    by_cases h0 : os = []
    · rw [h0]; decide
    · obtain ⟨s0, hs0⟩ := List.exists_mem_of_ne_nil _ h0
      have zero : ∀ m s, far s = some m → ∃ t, far t = some 0 := by
        intro m
        induction m with
        | zero => exact fun s e => ⟨s, e⟩
        | succ m ih =>
          intro s e
          obtain ⟨a, _, t, _, et⟩ := fo.fS s m e
          exact ih t.1 et
      obtain ⟨m, em⟩ := (om s0).mp hs0
      obtain ⟨t, et⟩ := zero _ _ em
      have tn : t < n := fo.lt t (by rw [et]; simp)
      have to : t ∉ os := fun z => by obtain ⟨m, e⟩ := (om t).mp z; rw [et] at e; cases e
      have := nodup_len (l := t :: os) (m := List.range n) (List.nodup_cons.mpr ⟨to, ond⟩) fun x hx => by
        rcases List.mem_cons.mp hx with rfl | hx
        · exact List.mem_range.mpr tn
        · exact List.mem_range.mpr (osn x hx)
      simp at this
      omega
  have ol : (intV os).length = os.length := List.length_map _
  refine ⟨Nat.zero_le _, fun Rw hRw => ?_⟩
  have SO : ∀ {H1 : Hp}, Same H3 H1 → SqL K H1 O (intV os) := fun s => .inl (.inl (s _ _ e3))
  refine ⟨_, rfl, O, rfl, ⟨intV os, SO (same_upd hRw)⟩, ?_⟩
  refine for_it walk_list (fun i σ H4 => (∃ x1 x2 x3 x4 x5 x6 x7, σ = [some (.int (n : Int)), some (.ref av), some (.ref u), some (.ref d), some (.ref S), some (.ref Fl), some (.ref O), some (.ref Rw), x1, x2, x3, x4, x5, x6, x7, none, none]) ∧ Same H3 H4 ∧ ∃ rws rs, H4 Rw = some (.lst rws) ∧ All2 (fun u r => NumsL K H4 u r ∧ u ≠ .ref Rw) rws rs ∧ rs.length = i ∧ (∀ r ∈ rs, r.length = os.length + 1) ∧ LC.SzR 6 0 rs ∧ ∀ (j : Nat) s r, os[j]? = some s → rs[j]? = some r → RowOk (hsOf n l) (pk (stopP n g c)) os far s r)
    ⟨⟨none, none, none, none, none, none, none, rfl⟩, same_upd hRw, [], [], upd_same, All2.nil, rfl, fun _ h => by simp at h, fun _ h => by simp at h, fun j s r _ h => by simp at h⟩ (fun i σ H4 _ p => SO p.2.1) ?_ ?_
  · rintro i x σ H4 H5 hi ⟨⟨x1, x2, x3, x4, x5, x6, x7, rfl⟩, s4, rws, rs, eRw, aR, rl, rlen, rsz, rok⟩ ⟨rfl, hx⟩
    unfold intV at hx
    rw [List.getElem?_map] at hx
    obtain ⟨s0, hs0, rfl⟩ := Option.map_eq_some_iff.mp hx
    have so : s0 ∈ os := List.mem_of_getElem? hs0
    have ix0 : os.idxOf s0 = i := LC.idx_at ond hs0
    have hiN : i < os.length := (List.getElem?_eq_some_iff.mp hs0).1
    obtain ⟨m0, em0⟩ := (om s0).mp so
    obtain ⟨a0, ea0, _⟩ := fo.fS s0 m0 em0
    obtain ⟨dd, hdd, _⟩ := pok.at_ s0 a0 ea0
    have hc0 := (stopP_some ea0).2.2
    have okd := ok.acts dd (List.mem_of_getElem? hdd)
    have out := out_of (n := n) hdd
    have sn0 := osn s0 so
    refine fun x dx hx hdx ne => mR1 hx hdx ne fun H6 s6 hz => ⟨rfl, by show 1 ≤ sizeLine; decide, fun Lz hLz => ?_⟩
    have s7 := s6.trans (same_upd (o := .lst [.ref x]) hLz)
    have s47 := s4.trans s7
    refine ⟨_, rfl, _, os.length, rfl, .inl ⟨_, SO s47, ol.symm⟩, _, _, rfl, rfl, ?_⟩
    have kn1 : ((os.length : Int) + 1).toNat = os.length + 1 := by omega
    refine ⟨Lz, (os.length : Int) + 1, [.ref x], rfl, rfl, upd_same, by omega, by omega, ?_, fun RW hRW => ?_⟩
    · rw [kn1]
      exact Nat.le_trans (by simp; omega : [V.ref x].length * (os.length + 1) ≤ 6) (by decide)
    rw [kn1]
    have flt : (List.replicate (os.length + 1) [V.ref x]).flatten = List.replicate (os.length + 1) (V.ref x) := by simp
    rw [flt]
    refine ⟨_, _, rfl, ?_⟩
    have hx7 : IsR K (upd (upd H6 Lz (.lst [.ref x])) RW (.lst (List.replicate (os.length + 1) (V.ref x)))) (.ref x) 0 := (show IsR K H6 (.ref x) 0 from hz).n ((sameN_new hLz).trans (sameN_new hRW))
    have s48 : Same H3 (upd (upd H6 Lz (.lst [.ref x])) RW (.lst (List.replicate (os.length + 1) (V.ref x)))) := s47.trans (same_upd hRW)
    have s78 : Same H5 (upd (upd H6 Lz (.lst [.ref x])) RW (.lst (List.replicate (os.length + 1) (V.ref x)))) := s7.trans (same_upd hRW)
    have eR8 : upd (upd H6 Lz (.lst [.ref x])) RW (.lst (List.replicate (os.length + 1) (V.ref x))) RW = some (.lst (List.replicate (os.length + 1) (V.ref x))) := upd_same
    have nRW : H5 RW = none := none_back s7 hRW
    generalize upd (upd H6 Lz (.lst [.ref x])) RW (.lst (List.replicate (os.length + 1) (V.ref x))) = H8 at hx7 s48 s78 eR8
    have a8 : All2 (IsR K H8) (List.replicate (os.length + 1) (V.ref x)) (List.replicate (os.length + 1) 0) := ⟨by simp, fun j u q h1 h2 => by
      rw [(List.mem_replicate.mp (List.mem_of_getElem? h1)).2, (List.mem_replicate.mp (List.mem_of_getElem? h2)).2]
      exact hx7⟩
    have sH8 := s23.trans s48
    obtain ⟨u0, hu0, p0, q0, us, rfl, e1, e2, ao⟩ := al.get hdd
    refine ⟨_, rfl, _, rfl, _, rfl, u, _, _, _, rfl, rfl, .inl (.inl (sH8 _ _ hu)), atI_nat (intV_get hc0), av, aus, _, _, rfl, rfl, .inl (.inl (sH8 _ _ ea)), atI_nat hu0, p0, _, 1, _, rfl, rfl, .inl (.inl (sH8 _ _ e1)), rfl, q0, rfl, ⟨us, .inl (.inl (sH8 _ _ e2))⟩, ?_⟩
    have pl : (prs dd).length = dd.2.length := List.length_map _
    have ul : us.length = (prs dd).length := ao.1.trans pl.symm
    have pl4 : (prs dd).length ≤ 4 := by have := okd.len; omega
    have nR5 : RW ≠ Rw := fun z => by subst z; rw [eRw] at nRW; cases nRW
    have frz : ∀ {b : Addr} {ys : List V}, H b = some (.tup ys) → b ≠ RW := fun {b ys} hb z => by subst z; rw [(s23.trans s4) _ _ hb] at nRW; cases nRW
    refine for_it walk_tup (fun j σ H10 => (∃ x4 x5 x6 x7, σ = [some (.int (n : Int)), some (.ref av), some (.ref u), some (.ref d), some (.ref S), some (.ref Fl), some (.ref O), some (.ref Rw), some (.int (s0 : Int)), some (.ref RW), some (.int (wsum ((prs dd).take j) : Nat)), x4, x5, x6, x7, none, none]) ∧ Same H5 H10 ∧ ∃ ws r, H10 RW = some (.lst ws) ∧ All2 (IsR K H10) ws r ∧ RowI os.length (wsum ((prs dd).take j)) r ∧ Part os far ((prs dd).take j) r)
      ⟨⟨x4, x5, x6, x7, rfl⟩, s78, _, _, eR8, a8, LC.rowI_zero _, LC.part_zero _⟩ (fun j σ H10 _ p => .inl (.inl (((s23.trans s4).trans p.2.1) _ _ e2))) ?_ ?_
    · rintro j x' σ H10 H11 hj ⟨⟨y4, y5, y6, y7, rfl⟩, s10, ws, r, eRW, aw, RI, PT⟩ ⟨rfl, hx'⟩
      obtain ⟨o, ho, b, pb, rfl, eb, _⟩ := ao.get' hx'
      obtain ⟨t, od, ht, hod⟩ : ∃ t od, o.target = t ∧ o.odds = od := ⟨_, _, rfl, rfl⟩
      have hp : (prs dd)[j]? = some (t, od) := by unfold prs; rw [List.getElem?_map, ho, ← ht, ← hod]; rfl
      rw [ht, hod] at eb
      have okt : od ≤ 10 := by rw [← hod]; exact (okd.outs o (List.mem_of_getElem? ho)).o2
      have tk : (prs dd).take (j + 1) = (prs dd).take j ++ [(t, od)] := by rw [List.take_add_one, hp]; rfl
      have wj := wsum_le okd j
      have wj1 : wsum ((prs dd).take j) ≤ 40 := by
        have := wsum_le okd 4
        rw [List.take_of_length_le (by omega)] at this
        have h2 : wsum ((prs dd).take j) ≤ 10 * j := wj
        omega
      have od4 : Sz 4 0 ((od : Int) : Rat) := LC.sz_int (by show od ≤ 2 ^ 4; omega)
      have SRW : SqL K H11 RW ws := .inl (.inl eRW)
      have wl : ws.length = os.length + 1 := aw.1.trans RI.len
      have s311 : Same H3 H11 := s4.trans s10
      have sH11 := s23.trans s311
      have nxt : ∀ {H12 : Hp} {q' : Rat} {v' : V} {jj : Nat}, Same H11 H12 → IsR K H12 v' q' → RowI os.length (wsum ((prs dd).take j) + od) (r.set jj q') → Part os far ((prs dd).take j ++ [(t, od)]) (r.set jj q') →
          Same H5 (upd H12 RW (.lst (ws.set jj v'))) ∧ ∃ ws2 r2, upd H12 RW (.lst (ws.set jj v')) RW = some (.lst ws2) ∧ All2 (IsR K (upd H12 RW (.lst (ws.set jj v')))) ws2 r2 ∧ RowI os.length (wsum ((prs dd).take (j + 1))) r2 ∧ Part os far ((prs dd).take (j + 1)) r2 := fun {H12 q' v' jj} s12 hv' hR hP => by
        have sn : SameN H12 (upd H12 RW (.lst (ws.set jj v'))) := sameN_upd (s12 _ _ eRW) (fun z => z)
        refine ⟨same_at (s10.trans s12) nRW, ws.set jj v', r.set jj q', upd_same, all2_set (aw.imp fun x y z => z.n ((same_n s12).trans sn)) jj (hv'.n sn), ?_, ?_⟩
        · rw [tk, wsum_snoc]; exact hR
        · rw [tk]; exact hP
      have sg : (V.int ((wsum ((prs dd).take j) : Nat) + (od : Int))) = V.int (wsum ((prs dd).take (j + 1)) : Nat) := by rw [tk, wsum_snoc, Int.natCast_add]
      refine ⟨b, _, rfl, .inl (.inl (sH11 _ _ eb)), rfl, _, _, rfl, _, _, rfl, _, _, rfl, _, _, rfl, rfl, ?_⟩
      refine ⟨_, rfl, _, rfl, _, _, rfl, rfl, ?_⟩
      refine ⟨_, rfl, _, rfl, d, _, rfl, .inl ⟨kvs, keyN t, .inl (sH11 _ _ ed), rfl, rfl⟩, _, rfl, ite2 (fun h1 => ?_) (fun h1 => ?_)⟩
      · rw [worth_some ek] at h1
        have tg := of_decide_eq_true h1
        have ft0 : far t = some 0 := (fo.f0 t).mpr ⟨tg, by rw [stopP_at (gn t tg), if_pos tg]⟩
        have ft : far t ≠ none := by rw [ft0]; simp
        have to : t ∉ os := fun z => by obtain ⟨m, e⟩ := (om t).mp z; rw [ft0] at e; cases e
        obtain ⟨uw, hw1, hw2⟩ := ew t tg
        obtain ⟨q1, hq1⟩ : ∃ q1, r[os.length]? = some q1 := ⟨_, List.getElem?_eq_getElem (by rw [RI.len]; omega)⟩
        obtain ⟨y, hy, ry⟩ := aw.get hq1
        refine ⟨_, rfl, _, rfl, RW, ws, _, y, rfl, rfl, SRW, atI_last' wl hy, ?_⟩
        refine ⟨_, rfl, _, rfl, d, uw, rfl, .inl ⟨kvs, keyN t, .inl (sH11 _ _ ed), rfl, hw1.symm⟩, _, rfl, ?_⟩
        refine ⟨1, (od : Int), 0, 0, 4, 0, hw2.n (same_n sH11), .inr ⟨_, rfl, rfl⟩, LC.sz_int (i := 1) (t := 0) (by decide), od4, by omega, by omega, fun H12 m s12 hm => ?_⟩
        refine ⟨q1, 1 * (od : Rat), 6, 0, 4, 0, ry.n (same_n s12), .inl hm, RI.sz (t := 6) (by omega) hq1, by rw [Rat.one_mul]; exact od4, by omega, by omega, fun H13 v' s13 hv' => ?_⟩
        refine ⟨_, rfl, _, rfl, RW, ws, _, os.length, rfl, rfl, (s12.trans s13) _ _ eRW, ?_, ?_⟩
        · unfold ixN
          rw [if_neg (by omega), if_pos (by omega), wl]
          congr 1
          omega
        · exact ⟨⟨_, _, _, _, by rw [← sg]; rfl⟩, nxt (s12.trans s13) hv' (RI.last hq1) (PT.far_ to ft hq1)⟩
      · rw [worth_some ek] at h1
        have tg : t ∉ g := fun z => h1 (decide_eq_true z)
        refine ⟨_, rfl, _, rfl, O, intV os, rfl, .inl (SO s311), rfl, all_flat _, _, rfl, ite2 (fun h0 => ?_) (fun h0 => ?_)⟩
        · have h0 : inV (V.int (t : Int)) (intV os) = true := h0
          rw [inV_ints] at h0
          have to := of_decide_eq_true h0
          have il : os.idxOf t < os.length := List.idxOf_lt_length_of_mem to
          obtain ⟨q1, hq1⟩ : ∃ q1, r[os.idxOf t]? = some q1 := ⟨_, List.getElem?_eq_getElem (by rw [RI.len]; omega)⟩
          obtain ⟨y, hy, ry⟩ := aw.get hq1
          refine ⟨_, rfl, _, rfl, .inl ⟨rfl, _, SO s311⟩, _, rfl, O, intV os, .int (t : Int), os.idxOf t, .int (t : Int), rfl, rfl, SO s311, rfl, all_flat os, (idx_f to).1, (idx_f to).2.1, (idx_f to).2.2, ⟨RW, ws, _, y, rfl, rfl, SRW, atI_nat hy, _, rfl, ?_⟩⟩
          refine ⟨q1, (od : Int), 6, 0, 4, 0, ry, .inr ⟨_, rfl, rfl⟩, RI.sz (t := 6) (by omega) hq1, od4, by omega, by omega, fun H12 v' s12 hv' => ?_⟩
          refine ⟨_, rfl, _, rfl, .inl ⟨rfl, _, SO (s311.trans s12)⟩, _, rfl, O, intV os, .int (t : Int), os.idxOf t, .int (t : Int), rfl, rfl, SO (s311.trans s12), rfl, all_flat os, (idx_f to).1, (idx_f to).2.1, (idx_f to).2.2, ⟨RW, ws, _, os.idxOf t, rfl, rfl, s12 _ _ eRW, ix_nat (by omega), ?_⟩⟩
          exact ⟨⟨_, _, _, _, by rw [← sg]; rfl⟩, nxt s12 hv' (RI.sub hq1) (PT.open_ to rfl hq1)⟩
        · have h0 : ¬ inV (V.int (t : Int)) (intV os) = true := h0
          rw [inV_ints] at h0
          have to : t ∉ os := fun z => h0 (decide_eq_true z)
          have ft : far t = none := by
            cases e : far t with
            | none => rfl
            | some m =>
              cases m with
              | zero => exact absurd ((fo.f0 t).mp e).1 tg
              | succ m => exact absurd ((om t).mpr ⟨m, e⟩) to
          refine ⟨⟨_, _, _, _, by rw [← sg]; rfl⟩, s10, ws, r, eRW, aw, ?_, ?_⟩
          · rw [tk, wsum_snoc]; exact RI.more
          · rw [tk]; exact PT.none_ to ft
    · rintro σ H10 ⟨⟨y4, y5, y6, y7, rfl⟩, s10, ws, r, eRW, aw, RI, PT⟩
      rw [ul, List.take_length] at RI PT
      rw [ul, List.take_length]
      have s310 : Same H3 H10 := s4.trans s10
      have W40 : wsum (prs dd) ≤ 40 := by
        have := wsum_le okd 4
        rw [List.take_of_length_le pl4] at this
        exact this
      obtain ⟨q1, hq1⟩ : ∃ q1, r[i]? = some q1 := ⟨_, List.getElem?_eq_getElem (by rw [RI.len]; omega)⟩
      obtain ⟨y, hy, ry⟩ := aw.get hq1
      have wl : ws.length = os.length + 1 := aw.1.trans RI.len
      refine ⟨_, rfl, _, rfl, .inl ⟨rfl, _, SO s310⟩, _, rfl, O, intV os, .int (s0 : Int), os.idxOf s0, .int (s0 : Int), rfl, rfl, SO s310, rfl, all_flat os, (idx_f so).1, (idx_f so).2.1, (idx_f so).2.2, ?_⟩
      rw [ix0]
      refine ⟨RW, ws, _, y, rfl, rfl, .inl (.inl eRW), atI_nat hy, _, rfl, ?_⟩
      refine ⟨q1, ((wsum (prs dd) : Nat) : Int), 6, 0, 6, 0, ry, .inr ⟨_, rfl, rfl⟩, RI.sz (t := 6) (by omega) hq1, LC.sz_int (by show wsum (prs dd) ≤ 2 ^ 6; omega), by omega, by omega, fun H12 v' s12 hv' => ?_⟩
      refine ⟨_, rfl, _, rfl, .inl ⟨rfl, _, SO (s310.trans s12)⟩, _, rfl, O, intV os, .int (s0 : Int), os.idxOf s0, .int (s0 : Int), rfl, rfl, SO (s310.trans s12), rfl, all_flat os, (idx_f so).1, (idx_f so).2.1, (idx_f so).2.2, ?_⟩
      rw [ix0]
      refine ⟨RW, ws, _, i, rfl, rfl, s12 _ _ eRW, ix_nat (by omega), ?_⟩
      have sn : SameN H12 (upd H12 RW (.lst (ws.set i v'))) := sameN_upd (s12 _ _ eRW) (fun z => z)
      have s13 : Same H5 (upd H12 RW (.lst (ws.set i v'))) := same_at (s10.trans s12) nRW
      have n13 : NumsL K (upd H12 RW (.lst (ws.set i v'))) (.ref RW) (r.set i (q1 + (wsum (prs dd) : Rat))) := ⟨RW, _, rfl, upd_same, all2_set (aw.imp fun x y z => z.n ((same_n s12).trans sn)) i (hv'.n sn)⟩
      have eRw13 := s13 _ _ eRw
      generalize upd H12 RW (.lst (ws.set i v')) = H13 at s13 n13 eRw13
      have rwl : rws.length ≤ 5 := by have := aR.1; omega
      refine ⟨_, rfl, .inl ⟨rfl, _, .inl (.inl eRw13)⟩, _, rfl, Rw, rws, _, rfl, rfl, eRw13, Nat.lt_of_le_of_lt rwl (by decide), ?_⟩
      have neR : V.ref RW ≠ .ref Rw := fun z => nR5 (by cases z; rfl)
      refine ⟨⟨_, _, _, _, _, _, _, rfl⟩, same_at (s4.trans s13) hRw, rws ++ [.ref RW], rs ++ [r.set i (q1 + (wsum (prs dd) : Rat))], upd_same, ?_, by rw [List.length_append, rl]; rfl, fun r' hr' => ?_, fun r' hr' => ?_, fun jj s r' hs hr' => ?_⟩
      · exact (aR.imp fun x y z => ⟨(z.1.s s13).upd_ z.2 eRw13, z.2⟩).snoc ⟨n13.upd_ neR eRw13, neR⟩
      · rcases List.mem_append.mp hr' with z | z
        · exact rlen r' z
        · rw [List.mem_singleton.mp z, List.length_set]
          exact RI.len
      · rcases List.mem_append.mp hr' with z | z
        · exact rsz r' z
        · rw [List.mem_singleton.mp z]
          exact RI.fin hiN hq1 W40
      · by_cases hj : jj < rs.length
        · rw [List.getElem?_append_left hj] at hr'
          exact rok jj s r' hs hr'
        · have ej : jj = rs.length := by
            have := (List.getElem?_eq_some_iff.mp hr').1
            rw [List.length_append] at this
            have h1 : [r.set i (q1 + (wsum (prs dd) : Rat))].length = 1 := rfl
            omega
          subst ej
          rw [List.getElem?_append_right (Nat.le_refl _), Nat.sub_self] at hr'
          cases hr'
          rw [rl, hs0] at hs
          cases hs
          exact PT.own so ix0 hq1 fun b eb => by
            rw [ea0] at eb
            cases eb
            exact out
  · rintro σ H4 ⟨⟨x1, x2, x3, x4, x5, x6, x7, rfl⟩, s4, rws, rs, eRw, aR, rl, rlen, rsz, rok⟩
    have s24 := s23.trans s4
    have SY : LC.Sys (hsOf n l) g (pk (stopP n g c)) far os rs := ⟨fo, ond, om, ⟨by rw [rl, ol], rlen⟩, rok⟩
    have tr := LC.sys_triv SY pok.ok.at_ (hs_ok ok)
    refine ⟨_, rfl, _, rfl, .ref Rw, os.length, rs, rfl, ⟨Rw, rws, rfl, eRw, aR.imp fun x y z => z.1⟩, SY.sh, N5, tr, rsz, fun H5 a5 us q s5 e5 aq ql sol qz => ?_⟩
    have ul : us.length = os.length := aq.1.trans ql
    refine ⟨O, a5, intV os, us, rfl, SO (s4.trans s5), .inl (.inl e5), by rw [ol, ul], fun H5' p6 ts s5' hp6 e6 tl tt => ?_⟩
    have zl : ((os.map keyN).zip us).length = os.length := by rw [List.length_zip, List.length_map]; omega
    refine ⟨p6, ts, (os.map keyN).zip us, rfl, .inl (.inl e6), paired_mk (by omega) fun i t kv ht hkv => ?_, fun pf hpf => ?_⟩
    · rw [List.getElem?_zip_eq_some] at hkv
      obtain ⟨h1, h2⟩ := hkv
      rw [List.getElem?_map] at h1
      obtain ⟨s0, hs0, e⟩ := Option.map_eq_some_iff.mp h1
      have := tt i t _ _ ht (intV_get hs0) h2
      rw [← e]
      exact .inl (.inl this)
    have fg : ∀ t, valV (mergeK [] ((os.map keyN).zip us)) (keyN t) = valV ((os.map keyN).zip us) (keyN t) := fun t => by
      rw [merge_get _ _ _ (by rw [zip_fst os us ul]; exact List.pairwise_map.mpr (ond.imp fun h e => h (keyN_inj e)))]
      cases valV ((os.map keyN).zip us) (keyN t) <;> rfl
    generalize mergeK [] ((os.map keyN).zip us) = FD at fg
    have s56 := s5'.trans (same_upd (o := .dK FD) hpf)
    have s6 := (s24.trans s5).trans s56
    have e6 : upd H5' pf (.dK FD) pf = some (.dK FD) := upd_same
    generalize upd H5' pf (.dK FD) = H6 at s6 s56 e6
    refine ⟨_, rfl, (n : Int), rfl, by omega, by omega, fun To hTo => ?_⟩
    rw [Int.toNat_natCast]
    have xN : solV os.length q os.length = -1 := by unfold solV; rw [if_neg (by omega), if_pos rfl]; grind
    refine lcm walk_range hTo (Nat.le_trans n6 (by decide)) (fun _ => true) (fun i y H1 => IsR K H1 y (LC.X os far (solV os.length q) i)) (fun i y H1 H2 s z => z.n s) (fun H1 s => trivial) (fun i x H8 H1 kN' kY hi s y kn ky => ?_) (fun H7 ys s7 e7 kp => ?_)
    · obtain ⟨rfl, ex⟩ := y
      obtain rfl : x = V.int ((i : Nat) : Int) := ex.trans (congrArg V.int (Int.zero_add _))
      have s68 := s6.trans s
      refine ⟨rfl, yes ⟨_, rfl, d, rfl, .inl ⟨kvs, .inl (s68 _ _ ed)⟩, _, rfl, _, rfl, pf, rfl, .inl ⟨FD, .inl (s _ _ e6)⟩, _, rfl, fun x dx hx hdx ne => mR1 hx hdx ne fun H9 s9 hz => ⟨rfl, ?_⟩⟩⟩
      by_cases io : i ∈ os
      · obtain ⟨m, em⟩ := (om i).mp io
        have ig : i ∉ g := fun hg => by
          rw [(fo.f0 i).mpr ⟨hg, by rw [stopP_at (gn i hg), if_pos hg]⟩] at em
          cases em
        have wn : valV kvs (keyN i) = none := by
          have := worth_some ek i
          rw [decide_eq_false ig] at this
          cases e : valV kvs (keyN i) with
          | none => rfl
          | some z => rw [e] at this; cases this
        have il : os.idxOf i < os.length := List.idxOf_lt_length_of_mem io
        have ie : os[os.idxOf i]? = some i := by rw [List.getElem?_eq_getElem il, List.getElem_idxOf il]
        obtain ⟨g1, hg1⟩ : ∃ g1, q[os.idxOf i]? = some g1 := ⟨_, List.getElem?_eq_getElem (by omega)⟩
        obtain ⟨y1, hy1, ry1⟩ := aq.get hg1
        refine ⟨some y1, .inl ⟨FD, keyN i, .inl ((s.trans s9) _ _ e6), rfl, by rw [fg i, zip_get os us _ i ond ie ul, hy1]⟩, none, .inl ⟨kvs, keyN i, .inl ((s68.trans s9) _ _ ed), rfl, wn.symm⟩, ky _ _ s9 rfl ?_⟩
        have e : LC.X os far (solV os.length q) i = g1 := by
          unfold LC.X solV numN
          rw [if_pos io, if_pos il, if_neg (by omega), hg1, Rat.add_zero]
          rfl
        rw [e]
        exact ry1.n (same_n (s56.trans (s.trans s9)))
      · refine ⟨none, .inl ⟨FD, keyN i, .inl ((s.trans s9) _ _ e6), rfl, by rw [fg i, zip_none io]⟩, ?_⟩
        by_cases ig : i ∈ g
        · obtain ⟨uw, hw1, hw2⟩ := ew i ig
          refine ⟨some uw, .inl ⟨kvs, keyN i, .inl ((s68.trans s9) _ _ ed), rfl, hw1.symm⟩, ky _ _ s9 rfl ?_⟩
          have ft : far i ≠ none := by rw [(fo.f0 i).mpr ⟨ig, by rw [stopP_at (gn i ig), if_pos ig]⟩]; simp
          have e : LC.X os far (solV os.length q) i = 1 := by unfold LC.X; rw [if_neg io, if_pos ft, xN]; grind
          rw [e]
          exact hw2.n (same_n (s68.trans s9))
        · have wn : valV kvs (keyN i) = none := by
            have := worth_some ek i
            rw [decide_eq_false ig] at this
            cases e : valV kvs (keyN i) with
            | none => rfl
            | some z => rw [e] at this; cases this
          have ft : far i = none := by
            cases e : far i with
            | none => rfl
            | some m =>
              cases m with
              | zero => exact absurd ((fo.f0 i).mp e).1 ig
              | succ m => exact absurd ((om i).mpr ⟨m, e⟩) io
          refine ⟨none, .inl ⟨kvs, keyN i, .inl ((s68.trans s9) _ _ ed), rfl, wn.symm⟩, ky _ _ s9 rfl ?_⟩
          have e : LC.X os far (solV os.length q) i = 0 := by unfold LC.X; rw [if_neg io, if_neg (by rw [ft]; simp)]
          rw [e]
          exact hz
    · obtain ⟨l1, l2⟩ := kp.all
      have tlen : ((List.range n).map fun i => LC.X os far (solV os.length q) i).length = n := by simp
      have nv : ∀ t, numN ((List.range n).map fun i => LC.X os far (solV os.length q) i) t = LC.X os far (solV os.length q) t := fun t => by
        unfold numN
        by_cases ht : t < n
        · rw [List.getElem?_map, List.getElem?_range ht]
          rfl
        · rw [List.getElem?_eq_none (by rw [tlen]; omega)]
          have no : t ∉ os := fun z => ht (osn t z)
          have nf : far t = none := by
            cases e : far t with
            | none => rfl
            | some m => exact absurd (fo.lt t (by rw [e]; simp)) ht
          unfold LC.X
          rw [if_neg no, if_neg (by rw [nf]; simp)]
          rfl
      have aT : All2 (IsR K H7) ys ((List.range n).map fun i => LC.X os far (solV os.length q) i) := all2_of (by rw [l1, tlen]) fun i y hy => by
        have hi : i < n := by have := (List.getElem?_eq_some_iff.mp hy).1; omega
        exact ⟨_, by rw [List.getElem?_map, List.getElem?_range hi]; rfl, l2 i y hy⟩
      refine k _ To ys _ far (s6.trans s7) e7 aT tlen pok (LC.sys_had SY pok.ok (hs_ok ok) xN sol nv) fun x hx => ?_
      obtain ⟨i, hi, rfl⟩ := List.mem_map.mp hx
      unfold LC.X
      split
      · rename_i io
        have il : os.idxOf i < os.length := List.idxOf_lt_length_of_mem io
        unfold solV numN
        rw [if_pos il, if_neg (by omega), List.getElem?_eq_getElem (by omega), Rat.add_zero]
        exact qz _ (List.getElem_mem _)
      · split
        · rw [xN]
          rw [show -(-1 : Rat) = ((1 : Int) : Rat) by grind]
          exact (LC.sz_int (i := 1) (t := 0) (by decide)).mono (by omega) (by omega)
        · exact LC.sz_zero _ _
end
end Lc
set_option Elab.async false
set_option linter.all false
set_option maxRecDepth 100000
set_option maxHeartbeats 4000000
namespace Lc
open PySem PySem.Spec PyProof.Rows L2 LcR
/-- all ways to pick one act at each of the first s states -/
def choices (l : List ActD) : Nat → List (List Nat)
  | 0 => [[]]
  | s + 1 => (actsAt l s).flatMap fun a => (choices l s).map (· ++ [a])
theorem actsAt_mem {l : List ActD} {s a : Nat} : a ∈ actsAt l s ↔ ∃ d, l[a]? = some d ∧ d.1 = s := by
  unfold actsAt
  rw [List.mem_filter, List.mem_range, decide_eq_true_iff]
  constructor
  · rintro ⟨h1, h2⟩
    rw [List.getElem?_eq_getElem h1] at h2
    exact ⟨_, List.getElem?_eq_getElem h1, by simpa using h2⟩
  · rintro ⟨d, h1, h2⟩
    exact ⟨(List.getElem?_eq_some_iff.mp h1).1, by rw [h1]; simp [h2]⟩
theorem actsAt_len (l : List ActD) (s : Nat) : (actsAt l s).length ≤ l.length := by
  unfold actsAt
  exact Nat.le_trans (List.length_filter_le _ _) (by simp)
theorem choices_mem {l : List ActD} : ∀ {s : Nat} {c : List Nat}, c ∈ choices l s ↔ c.length = s ∧ ∀ (t a : Nat), c[t]? = some a → ∃ d, l[a]? = some d ∧ d.1 = t
  | 0, c => by
    unfold choices
    rw [List.mem_singleton]
    constructor
    · rintro rfl
      exact ⟨rfl, fun t a h => by simp at h⟩
    · rintro ⟨h, _⟩
      exact List.length_eq_zero_iff.mp h
  | s + 1, c => by
    unfold choices
    rw [List.mem_flatMap]
    constructor
    · rintro ⟨a, ha, hc⟩
      obtain ⟨c', hc', rfl⟩ := List.mem_map.mp hc
      obtain ⟨h1, h2⟩ := choices_mem.mp hc'
      refine ⟨by rw [List.length_append, h1]; rfl, fun t b e => ?_⟩
      by_cases ht : t < c'.length
      · rw [List.getElem?_append_left ht] at e
        exact h2 t b e
      · have e2 := (List.getElem?_eq_some_iff.mp e).1
        rw [List.length_append] at e2
        have : t = s := by simp at e2; omega
        subst this
        rw [List.getElem?_append_right (by omega), h1, Nat.sub_self] at e
        cases e
        exact actsAt_mem.mp ha
    · rintro ⟨h1, h2⟩
      have hne : c ≠ [] := fun e => by rw [e] at h1; cases h1
      obtain ⟨c', a, rfl⟩ : ∃ c' a, c = c' ++ [a] := ⟨c.dropLast, c.getLast hne, (List.dropLast_concat_getLast hne).symm⟩
      rw [List.length_append] at h1
      have l1 : c'.length = s := by simpa using h1
      refine ⟨a, actsAt_mem.mpr (h2 s a (by rw [List.getElem?_append_right (by omega), l1, Nat.sub_self]; rfl)), List.mem_map.mpr ⟨c', choices_mem.mpr ⟨l1, fun t b e => h2 t b ?_⟩, rfl⟩⟩
      rw [List.getElem?_append_left (List.getElem?_eq_some_iff.mp e).1]
      exact e
theorem choices_full {n : Nat} {l : List ActD} {c : List Nat} : c ∈ choices l n ↔ FullOk n l c := by
  rw [choices_mem]
  exact ⟨fun h => ⟨h.1, h.2⟩, fun h => ⟨h.1, h.2⟩⟩
theorem flatMap_len {α β : Type} {f : α → List β} {m : Nat} : ∀ {l : List α}, (∀ a ∈ l, (f a).length ≤ m) → (l.flatMap f).length ≤ l.length * m
  | [], _ => by simp
  | a :: l, h => by
    have h1 := h a List.mem_cons_self
    have h2 := flatMap_len (l := l) fun b hb => h b (List.mem_cons_of_mem _ hb)
    rw [List.flatMap_cons, List.length_append, List.length_cons, Nat.succ_mul]
    omega
theorem choices_len {l : List ActD} (h : l.length ≤ 15) : ∀ s, (choices l s).length ≤ 15 ^ s
  | 0 => by simp [choices]
  | s + 1 => by
    unfold choices
    refine Nat.le_trans (flatMap_len (m := 15 ^ s) fun a _ => by rw [List.length_map]; exact choices_len h s) ?_
    rw [Nat.pow_succ, Nat.mul_comm]
    exact Nat.mul_le_mul_left _ (Nat.le_trans (actsAt_len l s) h)
/-- lists of numbers, each in a list of its own -/
def LL (H : Hp) (us : List V) (cs : List (List Nat)) : Prop := All2 (fun u c => ∃ b, u = .ref b ∧ H b = some (.lst (intV c))) us cs
theorem LL.s {H H' : Hp} {us : List V} {cs : List (List Nat)} (h : LL H us cs) (s : Same H H') : LL H' us cs := h.imp fun x y ⟨b, e, hb⟩ => ⟨b, e, s _ _ hb⟩
def ChoicesV (H : Hp) (v : V) (cs : List (List Nat)) : Prop := ∃ a us, v = .ref a ∧ H a = some (.lst us) ∧ LL H us cs
theorem ChoicesV.s {H H' : Hp} {v : V} {cs : List (List Nat)} (h : ChoicesV H v cs) (s : Same H H') : ChoicesV H' v cs := by
  obtain ⟨a, us, rfl, e, al⟩ := h
  exact ⟨a, us, rfl, s _ _ e, al.s s⟩
section
variable {P : Program} {w : World} {K : PySem.W.Frag} {mg : Str → Option Value} {base : Heap}
def sp_law_choices : Sp := fun vs H Q _ => ∃ (v : V) (n : Nat) (l : List ActD), vs = [.int (n : Int), v] ∧ ActsL H v l ∧ OkActs n l ∧ n ≤ 5 ∧ l.length ≤ 15 ∧
  ∀ H' v', Same H H' → ChoicesV H' v' (choices l n) → Q v' H'
theorem c_law_choices (T : Tx K mg) : C8.Cal P w K mg base 1 "_law_choices" sp_law_choices [] := by
  obtain ⟨fd, F⟩ := T.f_law_choices
  refine calD F T.g_law_choices sc_law_choices (fun _ _ _ _ _ _ us hl => match us, hl with | [_, _], _ => rfl) (fun vs H Q E h => ?_) (fun cdv A outer s H vs Q E hr h => ?_)
  · obtain ⟨_, _, _, rfl, _⟩ := h; rfl
  obtain ⟨v, n, l, rfl, hv, ok, n5, l15, k⟩ := h
  refine ⟨_, (pss_cons (ps_set (i := 2) sc_law_choices.nd rfl (Or.inl rfl) (pe_lst (pa_cons (pe_lst pa_nil) pa_nil)))
      (pss_cons (ps_for PassesOwn.never rfl (pi_range1 (by rfl) T.b_range (pa_cons (pv 0) pa_nil)) (pg_name (i := 3) sc_law_choices.nd rfl (Or.inr rfl))
      (pss_cons (ps_setLc (i := 4) (own := [("act", 6), ("one", 7)]) (g := gTup K 2 (gCons (gName 6) (gCons (gName 7) (gNil)))) (tt := (tB (tOp rEq (tOp (rIxT K) (tVar 7) (tC (.int 0))) (tVar 3)))) (by rfl) sc_law_choices.nd rfl rfl (sw_true rfl rfl rfl (by decide +kernel)) (pi_enum (by rfl) T.b_enumerate (pa_cons (pv 1) pa_nil)) (blkOk_by (own := [("act", 6), ("one", 7)]) (N := N_law_choices) (sc := defScope s_law_choices) (by decide +kernel)) (fun _ _ _ _ _ => (pg_tup rfl (pgs_cons (pg_name (i := 6) sc_law_choices.nd rfl (Or.inl rfl)) (pgs_cons (pg_name (i := 7) sc_law_choices.nd rfl (Or.inl rfl)) pgs_nil)))) (fun _ _ _ _ _ => (pts_one (pt_cmpR op_eq (pe_ix ix_tup (pv 7) pe_int (fun _ _ => rfl)) (pv 3) (nomark _)))) (fun _ _ _ _ _ => (pv 6)))
      (pss_cons (ps_set (i := 5) sc_law_choices.nd rfl (Or.inl rfl) (pe_lst pa_nil))
      (pss_cons (ps_for PassesOwn.never rfl (pi_list (pv 4)) (pg_name (i := 6) sc_law_choices.nd rfl (Or.inr rfl))
      (pss_one (ps_set (i := 5) sc_law_choices.nd rfl (Or.inl rfl) (pe_op op_cat (pv 5) (pe_lc (own := [("choice", 8)]) (g := gName 8) (by rfl) sc_law_choices.nd (pi_list (pv 2)) (blkOk_by (own := [("choice", 8)]) (N := N_law_choices) (sc := defScope s_law_choices) (by decide +kernel)) (fun _ _ _ _ _ => (pg_name (i := 8) sc_law_choices.nd rfl (Or.inl rfl))) (fun _ _ _ _ _ => pts_nil) (fun _ _ _ _ _ => (pe_op op_cat (pv 8) (pe_lst (pa_cons (pv 6) pa_nil)))))))))
      (pss_one (ps_set (i := 2) sc_law_choices.nd rfl (Or.inl rfl) (pv 5)))))))
      (pss_one (ps_ret (pv 2))))), ?_⟩
  obtain ⟨av, aus, rfl, ea, al⟩ := id hv
  have ul : aus.length = l.length := al.1
  refine ⟨Nat.zero_le _, fun C0 hC0 => ⟨by show 1 ≤ sizeLine; decide, fun F0 hF0 => ?_⟩⟩
  have s1 := (same_upd (o := .lst []) hC0).trans (same_upd (o := .lst [.ref C0]) hF0)
  have cv0 : ChoicesV (upd (upd H C0 (.lst [])) F0 (.lst [.ref C0])) (.ref F0) (choices l 0) := by
    refine ⟨F0, _, rfl, upd_same, ⟨rfl, fun i x y hx hy => ?_⟩⟩
    cases i with
    | zero =>
      cases hx
      cases hy
      exact ⟨C0, rfl, (same_upd hF0) _ _ upd_same⟩
    | succ i => simp at hx
  generalize upd (upd H C0 (.lst [])) F0 (.lst [.ref C0]) = H1 at s1 cv0
  refine ⟨_, rfl, (n : Int), rfl, by omega, by omega, ?_⟩
  rw [Int.toNat_natCast]
  refine for_it walk_range (fun i σ H2 => (∃ v2 x3 x4 x5 x6, σ = [some (.int (n : Int)), some (.ref av), some v2, x3, x4, x5, x6, none, none] ∧ ChoicesV H2 v2 (choices l i)) ∧ Same H H2)
    ⟨⟨_, none, none, none, none, rfl, cv0⟩, s1⟩ (fun _ _ _ _ _ => trivial) ?_ ?_
  · rintro i x σ H2' H2 hi ⟨⟨v2, x3, x4, x5, x6, rfl, cv⟩, s2⟩ ⟨rfl, ex⟩
    obtain rfl : x = V.int ((i : Nat) : Int) := ex.trans (congrArg V.int (Int.zero_add _))
    refine ⟨_, rfl, av, aus, rfl, .inl (.inl (s2 _ _ ea)), fun M hM => ?_⟩
    refine lcm walk_enum hM (Nat.le_trans (by omega : aus.length ≤ 15) (by decide)) (fun j => decide ((l[j]?.map (·.1)) = some i)) (fun j y _ => y = .int (j : Nat)) (fun _ _ _ _ _ h => h) (fun H' s => .inl (.inl ((s2.trans s) _ _ ea))) (fun j z H5 H' kN kY hj s y kn ky => ?_) (fun H3 ys s3 e3 kp => ?_)
    · obtain ⟨Tp, x1, y1, rfl, hT, rfl, hx, hy⟩ := y
      cases hx
      obtain ⟨d, hd, p, q, ws, rfl, e1, e2, e3⟩ := al.get' hy
      have s6 := (s2.trans s).trans (same_upd (o := .tup [V.int (j : Nat), V.ref p]) hT)
      refine ⟨_, _, rfl, .inl (.inl upd_same), rfl, _, _, rfl, _, _, rfl, rfl, rfl, ?_⟩
      refine ⟨_, rfl, p, _, 0, _, rfl, rfl, .inl (.inl (s6 _ _ e1)), rfl, _, rfl, rfl, decide (d.1 = i), ?_, ite2 (fun h0 => ?_) (fun h0 => ?_)⟩
      · show V.bl (decide (V.int (d.1 : Int) = V.int (i : Int))) = V.bl (decide (d.1 = i))
        rw [dec_int]
        exact congrArg V.bl (by rw [Bool.eq_iff_iff]; simp; omega)
      · exact ⟨_, rfl, ky _ _ (same_upd hT) (by simp [hd, of_decide_eq_true h0]) rfl⟩
      · exact kn _ (same_upd hT) (by simp [hd]; exact fun z => h0 (decide_eq_true z))
    have e9 := kept_ints kp
    rw [ul] at e9
    rw [show ys = intV (actsAt l i) from e9] at e3
    clear e9 kp
    have s23 := s2.trans s3
    have cv3 := cv.s s3
    refine ⟨Nat.zero_le _, fun L0 hL0 => ?_⟩
    have s4 := s23.trans (same_upd (o := .lst []) hL0)
    have cv4 := cv3.s (same_upd (o := .lst []) hL0)
    have e4 := same_upd (o := .lst []) hL0 _ _ e3
    have cvL : ChoicesV (upd H3 L0 (.lst [])) (.ref L0) (((actsAt l i).take 0).flatMap fun a => (choices l i).map (· ++ [a])) := ⟨L0, [], rfl, upd_same, All2.nil⟩
    generalize upd H3 L0 (.lst []) = H4 at s4 cv4 e4 cvL
    have al15 : (actsAt l i).length ≤ 15 := Nat.le_trans (actsAt_len l i) l15
    have cl : (choices l i).length ≤ 15 ^ 4 := Nat.le_trans (choices_len l15 i) (Nat.pow_le_pow_right (by decide) (by omega))
    refine ⟨_, rfl, M, rfl, ⟨_, .inl (.inl e4)⟩, ?_⟩
    refine for_it walk_list (fun j σ H5 => (∃ vl x6, σ = [some (.int (n : Int)), some (.ref av), some v2, some (.int (i : Int)), some (.ref M), some vl, x6, none, none] ∧ ChoicesV H5 vl (((actsAt l i).take j).flatMap fun a => (choices l i).map (· ++ [a]))) ∧ Same H4 H5)
      ⟨⟨_, x6, rfl, cvL⟩, Same.refl _⟩ (fun j σ H5 _ p => .inl (.inl (p.2 _ _ e4))) ?_ ?_
    · rintro j x σ H5' H5 hj ⟨⟨vl, y6, rfl, cvl⟩, s5⟩ ⟨rfl, hx⟩
      unfold intV at hx
      rw [List.getElem?_map] at hx
      obtain ⟨a, ha, rfl⟩ := Option.map_eq_some_iff.mp hx
      obtain ⟨fa, fus, rfl, ef, fl⟩ := cv4.s s5
      obtain ⟨la, lus, rfl, el, ll⟩ := cvl
      have tk : (actsAt l i).take (j + 1) = (actsAt l i).take j ++ [a] := by rw [List.take_add_one, ha]; rfl
      refine ⟨_, rfl, _, rfl, fa, rfl, ⟨fus, .inl (.inl ef)⟩, fun D hD => ?_⟩
      have lul : lus.length ≤ 15 * 15 ^ 4 := by
        rw [ll.1]
        refine Nat.le_trans (flatMap_len (m := 15 ^ 4) fun a _ => by rw [List.length_map]; exact cl) (Nat.mul_le_mul_right _ ?_)
        rw [List.length_take]
        omega
      have ful : fus.length ≤ 15 ^ 4 := by rw [fl.1]; exact cl
      refine lc_it walk_list (fun m H6 => Same H5 H6 ∧ ∃ zs, H6 D = some (.lst zs) ∧ All2 (fun u c => (∃ b, u = .ref b ∧ H6 b = some (.lst (intV c))) ∧ u ≠ .ref D) zs (((choices l i).take m).map (· ++ [a])) ∧ zs.length = m) ⟨same_upd hD, [], upd_same, by rw [List.take_zero]; exact All2.nil, rfl⟩ (fun m H6 _ p => .inl (.inl (p.1 _ _ ef))) (fun m x H6' H6 hm pv y => ?_) (fun H6 pv => ?_)
      · obtain ⟨s6, zs, eD, az, zl⟩ := pv
        obtain ⟨rfl, hx⟩ := y
        obtain ⟨c, hc, b, rfl, eb⟩ := fl.get' hx
        have cl5 : c.length = i := (choices_mem.mp (List.mem_of_getElem? hc)).1
        refine ⟨rfl, yes ⟨_, rfl, _, rfl, by show 1 ≤ sizeLine; decide, fun A hA => ?_⟩⟩
        have t7 := same_upd (o := .lst [.int (a : Int)]) hA
        refine ⟨b, A, _, _, rfl, rfl, t7 _ _ (s6 _ _ eb), upd_same, Nat.le_trans (by simp; omega : (intV c).length + [V.int (a : Int)].length ≤ 10) (by decide), fun B hB => ?_⟩
        have t8 := t7.trans (same_upd (o := .lst (intV c ++ [.int (a : Int)])) hB)
        have eD8 := t8 _ _ eD
        have nB : B ≠ D := fun z => by subst z; rw [t7 _ _ eD] at hB; cases hB
        have tk2 : (choices l i).take (m + 1) = (choices l i).take m ++ [c] := by rw [List.take_add_one, hc]; rfl
        refine ⟨zs, eD8, Nat.lt_of_le_of_lt (by rw [zl]; omega : zs.length ≤ 15 ^ 4) (by decide), same_at (s6.trans t8) hD, zs ++ [.ref B], upd_same, ?_, by rw [List.length_append, zl]; rfl⟩
        rw [tk2, List.map_append]
        have up : ∀ {b' : Addr} {o : HO}, b' ≠ D → upd (upd H6 A (.lst [.int (a : Int)])) B (.lst (intV c ++ [.int (a : Int)])) b' = some o → upd (upd (upd H6 A (.lst [.int (a : Int)])) B (.lst (intV c ++ [.int (a : Int)]))) D (.lst (zs ++ [.ref B])) b' = some o := fun {b' o} h e => by rw [upd_ne h]; exact e
        refine All2.snoc (az.imp fun x y z => ?_) ⟨⟨B, rfl, up nB (by rw [upd_same]; unfold intV; rw [List.map_append]; rfl)⟩, fun z => nB (V.ref.inj z)⟩
        obtain ⟨⟨b', rfl, hb'⟩, hne⟩ := z
        exact ⟨⟨b', rfl, up (fun z => hne (by rw [z])) (t8 _ _ hb')⟩, hne⟩
      obtain ⟨s6, zs, eD, az, zl⟩ := pv
      have el6 := s6 _ _ el
      refine ⟨la, D, lus, zs, rfl, rfl, el6, eD, Nat.le_trans (Nat.add_le_add lul (by rw [zl]; exact ful)) (by decide), fun p hp => ?_⟩
      have t7 := same_upd (o := .lst (lus ++ zs)) hp
      refine ⟨⟨_, _, rfl, p, lus ++ zs, rfl, upd_same, ?_⟩, s5.trans (s6.trans t7)⟩
      rw [tk, List.flatMap_append, List.flatMap_singleton]
      rw [fl.1, List.take_length] at az
      exact all2_append (ll.s (s6.trans t7)) (az.imp fun x y z => by
        obtain ⟨⟨b, e, hb⟩, _⟩ := z
        exact ⟨b, e, t7 _ _ hb⟩)
    · rintro σ H5 ⟨⟨vl, y6, rfl, cvl⟩, s5⟩
      have il : (intV (actsAt l i)).length = (actsAt l i).length := List.length_map _
      rw [il, List.take_length] at cvl
      exact ⟨_, rfl, ⟨_, _, _, _, _, rfl, cvl⟩, s4.trans s5⟩
  · rintro σ H2 ⟨⟨v2, x3, x4, x5, x6, rfl, cv⟩, s2⟩
    exact ⟨_, rfl, k H2 v2 s2 cv⟩
end
end Lc
set_option linter.all false
namespace LC
/-! ### picks of one act at each state have what the best ones have, if they agree where something is had -/
section
variable {h : Hs} {g : List Nat} {p p' : Pk} {q v : Nat → Rat} {far far' : Nat → Option Nat}
theorem full_eq (ok : h.Ok) (hp : p.Ok h g) (hp' : p'.Ok h g) (H : Had h g p q far) (up : ∀ s a, h.At s a → mean q (h.out a) ≤ q s) (H' : Had h g p' v far')
    (ag : ∀ s a, p s = some a → q s ≠ 0 → p' s = some a) : ∀ s, s < h.n → v s = q s := by
  have qn := H.nonneg ok hp
  have vn := H'.nonneg ok hp'
  have le : ∀ s, s < h.n → v s ≤ q s := had_le ok hp' H' qn (fun s hs => by rw [H.goal hs]; exact Rat.le_refl) fun s a e => up s a (hp'.at_ s a e)
  have ge : ∀ s, s < h.n → q s ≤ v s := by
    refine had_le ok hp H vn (fun s hs => by rw [H'.goal hs]; exact Rat.le_refl) fun s a e => ?_
    have at_ := hp.at_ s a e
    obtain ⟨oko, sn⟩ := at_.ok ok
    by_cases c : q s = 0
    · have h1 := mean_mono (u := v) (v := q) oko fun t ht => le t.1 (oko.2 t ht).1
      have h2 := up s a at_
      have h3 := vn s sn
      grind
    · have := H'.pick hp' (ag s a e c)
      rw [← this]
      exact Rat.le_refl
  intro s hs
  have a := le s hs
  have b := ge s hs
  grind
theorem full_le (ok : h.Ok) (hp : p.Ok h g) (hp' : p'.Ok h g) (H : Had h g p q far) (up : ∀ s a, h.At s a → mean q (h.out a) ≤ q s) (H' : Had h g p' v far') : ∀ s, s < h.n → v s ≤ q s :=
  had_le ok hp' H' (H.nonneg ok hp) (fun s hs => by rw [H.goal hs]; exact Rat.le_refl) fun s a e => up s a (hp'.at_ s a e)
end
end LC
set_option Elab.async false
set_option linter.all false
set_option maxRecDepth 100000
set_option maxHeartbeats 4000000
namespace Lc
open PySem PySem.Spec PyProof.Rows L2 LcR
open LC (Sz Had mean)
theorem merge_app : ∀ (more acc : List (DKey × V)), ((acc ++ more).map (·.1)).Nodup → mergeK acc more = acc ++ more
  | [], acc, _ => by simp [mergeK]
  | kv :: r, acc, h => by
    have hne : valV acc kv.1 = none := by
      cases e : valV acc kv.1 with
      | none => rfl
      | some z =>
        have h1 := valV_in e
        rw [List.map_append, List.map_cons, List.nodup_append] at h
        exact absurd rfl (h.2.2 kv.1 h1 kv.1 List.mem_cons_self)
    have e1 : putK acc kv.1 kv.2 = acc ++ [kv] := by
      unfold putK
      rw [valV_any, hne]
      rfl
    show mergeK (putK acc kv.1 kv.2) r = _
    rw [e1, merge_app r (acc ++ [kv]) (by rw [List.append_assoc]; exact h), List.append_assoc]
    rfl
/-- the greatest of what the choices have -/
structure BestOk (n : Nat) (l : List ActD) (g : List Nat) (cs : List (List Nat)) (q : List Rat) : Prop where
  len : q.length = n
  ge : ∀ c ∈ cs, ∀ v far, Had (hsOf n l) g (pk (stopP n g c)) v far → ∀ s, s < n → v s ≤ numN q s
  had : ∀ c ∈ cs, ∃ v far, Had (hsOf n l) g (pk (stopP n g c)) v far
  at_ : ∀ s, s < n → numN q s = 0 ∨ ∃ c ∈ cs, ∃ v far, Had (hsOf n l) g (pk (stopP n g c)) v far ∧ numN q s = v s
  sz : ∀ x ∈ q, Sz 2169 2158 x
theorem BestOk.snoc {n : Nat} {l : List ActD} {g : List Nat} {cs : List (List Nat)} {q tq : List Rat} {c : List Nat} {far : Nat → Option Nat} (B : BestOk n l g cs q) (ok : OkActs n l) (pok : PkOk n l g (stopP n g c)) (H : Had (hsOf n l) g (pk (stopP n g c)) (numN tq) far) (tl : tq.length = n) (tz : ∀ x ∈ tq, Sz 2169 2158 x)
    {q' : List Rat} (ql : q'.length = n) (hq : ∀ s, s < n → numN q' s = if numN q s < numN tq s then numN tq s else numN q s) : BestOk n l g (cs ++ [c]) q' := by
  refine ⟨ql, fun c' hc v far' H' s hs => ?_, fun c' hc => ?_, fun s hs => ?_, fun x hx => ?_⟩
  · rw [hq s hs]
    rcases List.mem_append.mp hc with z | z
    · have := B.ge c' z v far' H' s hs
      split <;> grind
    · rw [List.mem_singleton.mp z] at H'
      have := LC.had_unique (hs_ok ok) pok.ok H' H s hs
      rw [this]
      split <;> grind
  · rcases List.mem_append.mp hc with z | z
    · exact B.had c' z
    · rw [List.mem_singleton.mp z]
      exact ⟨_, far, H⟩
  · rw [hq s hs]
    split
    · exact .inr ⟨c, by simp, _, far, H, rfl⟩
    · rcases B.at_ s hs with z | ⟨c', h1, v, f, h2, h3⟩
      · exact .inl z
      · exact .inr ⟨c', List.mem_append_left _ h1, v, f, h2, h3⟩
  · obtain ⟨s, hs, rfl⟩ := List.getElem_of_mem hx
    have e : numN q' s = q'[s] := by unfold numN; rw [List.getElem?_eq_getElem hs]; rfl
    rw [← e, hq s (by omega)]
    have g1 : ∀ {qq : List Rat}, qq.length = n → (∀ x ∈ qq, Sz 2169 2158 x) → Sz 2169 2158 (numN qq s) := fun {qq} h1 h2 => by
      unfold numN
      rw [List.getElem?_eq_getElem (by omega)]
      exact h2 _ (List.getElem_mem _)
    split
    · exact g1 tl tz
    · exact g1 B.len B.sz
theorem best_zero {n : Nat} {l : List ActD} {g : List Nat} : BestOk n l g [] (List.replicate n 0) := by
  refine ⟨List.length_replicate, fun c hc => by simp at hc, fun c hc => by simp at hc, fun s hs => .inl ?_, fun x hx => ?_⟩
  · unfold numN
    rw [List.getElem?_replicate, if_pos hs]
    rfl
  · rw [(List.mem_replicate.mp hx).2]
    exact LC.sz_zero _ _
theorem dict_parts {K : PySem.W.Frag} {H6 : Hp} {g : List Nat} {ys : List V} (l1 : ys.length = g.length) (l2 : ∀ (i : Nat) y, ys[i]? = some y → ∃ t r s0, y = .ref t ∧ g[i]? = some s0 ∧ H6 t = some (.tup [.int (s0 : Nat), r]) ∧ IsR K H6 r 1) :
    ∃ (ps : List Addr) (rs : List V), ys = ps.map V.ref ∧ ps.length = g.length ∧ rs.length = g.length ∧ ∀ (j s0 : Nat), g[j]? = some s0 → ∃ t r, ps[j]? = some t ∧ rs[j]? = some r ∧ H6 t = some (.tup [.int (s0 : Nat), r]) ∧ IsR K H6 r 1 := by
  have key : ∀ m, m ≤ g.length → ∃ (ps : List Addr) (rs : List V), ys.take m = ps.map V.ref ∧ ps.length = m ∧ rs.length = m ∧ ∀ (j s0 : Nat), j < m → g[j]? = some s0 → ∃ t r, ps[j]? = some t ∧ rs[j]? = some r ∧ H6 t = some (.tup [.int (s0 : Nat), r]) ∧ IsR K H6 r 1 := by
    intro m
    induction m with
    | zero => exact fun _ => ⟨[], [], by simp, rfl, rfl, fun j s0 h => absurd h (Nat.not_lt_zero _)⟩
    | succ m ih =>
      intro hm
      obtain ⟨ps, rs, e1, e2, e3, e4⟩ := ih (by omega)
      have hy := List.getElem?_eq_getElem (by omega : m < ys.length)
      obtain ⟨t, r, s0, h1, h2, h3, h4⟩ := l2 m _ hy
      refine ⟨ps ++ [t], rs ++ [r], by rw [List.take_add_one, hy, e1, h1, List.map_append]; rfl, by rw [List.length_append, e2]; rfl, by rw [List.length_append, e3]; rfl, fun j s1 hj hs => ?_⟩
      by_cases c : j < m
      · obtain ⟨t', r', a1, a2, a3⟩ := e4 j s1 c hs
        exact ⟨t', r', by rw [List.getElem?_append_left (by omega)]; exact a1, by rw [List.getElem?_append_left (by omega)]; exact a2, a3⟩
      · have : j = m := by omega
        subst this
        rw [h2] at hs
        cases hs
        exact ⟨t, r, by rw [List.getElem?_append_right (by omega), e2, Nat.sub_self]; rfl, by rw [List.getElem?_append_right (by omega), e3, Nat.sub_self]; rfl, h3, h4⟩
  obtain ⟨ps, rs, e1, e2, e3, e4⟩ := key g.length (Nat.le_refl _)
  rw [List.take_of_length_le (by omega)] at e1
  exact ⟨ps, rs, e1, e2, e3, fun j s0 h => e4 j s0 (List.getElem?_eq_some_iff.mp h).1 h⟩
end Lc
set_option Elab.async false
set_option linter.all false
set_option maxRecDepth 100000
set_option maxHeartbeats 4000000
namespace Lc
open PySem PySem.Spec PyProof.Rows L2 LcR
open LC (Sz Had mean)
section
variable {P : Program} {w : World} {K : PySem.W.Frag} {mg : Str → Option Value} {base : Heap}
def sp_chance_by (K : PySem.W.Frag) : Sp := fun vs H Q _ => ∃ (v : V) (n : Nat) (l : List ActD) (u : V) (g : List Nat) (t : Addr) (c : List Nat), vs = [v, u, .ref t] ∧ HouseV K H v n l ∧ OkActs n l ∧ n ≤ 6 ∧ GoalV K H u g ∧ Asc g ∧ (∀ s ∈ g, s < n) ∧ H t = some (.tup (intV c)) ∧ FullOk n l c ∧
  ∀ H' a us q far, Same H H' → H' a = some (.tup us) → All2 (IsR K H') us q → q.length = n → PkOk n l g (stopP n g c) → Had (hsOf n l) g (pk (stopP n g c)) (numN q) far → (∀ x ∈ q, Sz 2169 2158 x) → Q (.ref a) H'
theorem ok_chance_by (T : Tx K mg) {f : Addr} {fd : FuncData} (F : FunD K "chance_by" "chance_by" (defArgs s_chance_by) (defBody s_chance_by) (defScope s_chance_by) [] [] f fd) : FnOk P w K mg base CX0 9 f fd P_chance_by (sp_chance_by K) := by
  refine fnD F sc_chance_by (fun vs H Q E h => ?_) (fun cdv A outer s H vs Q E hr h => ?_)
  · obtain ⟨_, _, _, _, _, _, _, rfl, _⟩ := h; rfl
  obtain ⟨v, n, l, u, g, t, c, rfl, hv, ok, n6, hg, asc, gn, et, fok, k⟩ := h
  refine ⟨_, (pss_cons (ps_expr (C8.pe_c (c_need_goal T) hr (by decide) (by rfl) (pa_cons (pv 0) (pa_cons (pv 1) pa_nil))))
      (pss_cons (ps_if (PW.pt (pw_or (pt_not (pt_val (pe_callB call_isi (by rfl) T.b_isinstance (by decide +kernel) (pa_cons (pv 2) (pa_cons (pe_bltn (v := .ty "tuple") (by rfl) T.b_tuple (by decide +kernel) rfl) pa_nil))))) (pw_or1 (pt_cmpR op_ne (pe_callB call_len (by rfl) T.b_len (by decide +kernel) (pa_cons (pv 2) pa_nil)) (pe_fld (pv 0) rfl) (nomark _))))) (pss_one ps_never) pss_nil)
      (pss_cons (ps_if (pt_not (pt_val (pe_callB (cr_all rfl) (by rfl) T.b_all (by decide +kernel) (pa_cons (pe_lc (own := [("state", 5), ("act", 6)]) (g := gTup K 2 (gCons (gName 5) (gCons (gName 6) (gNil)))) (te := (tAndV (tCall sp_is_integer [] C8.E0 (tCons (tVar 6) tNil)) (tOp (rIn K false) (tVar 6) (tMeth (CHouse K) "acts_at" (sp_acts_at K) [] C8.E0 (tVar 0) (tCons (tVar 5) tNil))))) (by rfl) sc_chance_by.nd (LcE.pi_enumT (by rfl) T.b_enumerate (pa_cons (pv 2) pa_nil)) (blkOk_by (own := [("state", 5), ("act", 6)]) (N := N_chance_by) (sc := defScope s_chance_by) (by decide +kernel)) (fun _ _ _ _ _ => (pg_tup rfl (pgs_cons (pg_name (i := 5) sc_chance_by.nd rfl (Or.inl rfl)) (pgs_cons (pg_name (i := 6) sc_chance_by.nd rfl (Or.inl rfl)) pgs_nil)))) (fun _ _ _ _ _ => pts_nil) (fun _ _ _ _ _ => (pe_and (C8.pe_c (c_is_integer T) hr (by decide) (by rfl) (pa_cons (pv 6) pa_nil)) (pe_one (pe_cmpR op_in_seq (pv 6) (C8.pe_mt (m_acts_at T) hr (by decide) (pv 0) (pa_cons (pv 5) pa_nil)) (by rfl)))))) pa_nil)))) (pss_one ps_never) pss_nil)
      (pss_cons (ps_set (i := 3) sc_chance_by.nd rfl (Or.inr rfl) (pe_dc (own := [("state", 5)]) (g := gName 5) (tv := (tMake (CRatio K) (sp_Ratio_init K) [.int 1] C8.E0 (tCons (tC (.int 1)) tNil))) (by rfl) sc_chance_by.nd (pi_tup (pv 1)) (blkOk_by (own := [("state", 5)]) (N := N_chance_by) (sc := defScope s_chance_by) (by decide +kernel)) (fun _ _ _ _ _ => (pg_name (i := 5) sc_chance_by.nd rfl (Or.inl rfl))) (fun _ _ _ _ _ => pts_nil) (fun _ _ _ _ _ => (pv 5)) (fun _ _ _ _ _ => (C8.pe_mk (c_Ratio_1 T) hr (by decide) (by rfl) (pa_cons pe_int pa_nil)))))
      (pss_cons (ps_setLc (i := 4) (own := [("state", 5), ("act", 6)]) (g := gTup K 2 (gCons (gName 5) (gCons (gName 6) (gNil)))) (by rfl) sc_chance_by.nd rfl rfl (sw_true rfl rfl rfl (by decide +kernel)) (LcE.pi_enumT (by rfl) T.b_enumerate (pa_cons (pv 2) pa_nil)) (blkOk_by (own := [("state", 5), ("act", 6)]) (N := N_chance_by) (sc := defScope s_chance_by) (by decide +kernel)) (fun _ _ _ _ _ => (pg_tup rfl (pgs_cons (pg_name (i := 5) sc_chance_by.nd rfl (Or.inl rfl)) (pgs_cons (pg_name (i := 6) sc_chance_by.nd rfl (Or.inl rfl)) pgs_nil)))) (fun _ _ _ _ _ => pts_nil) (fun _ _ _ _ _ => (pe_ifExp (pt_cmp (pc_din (hu1 hr) (pv 5) (pv 3))) pe_non (pv 6))))
      (pss_one (ps_ret (pe_callTy call_tuple_of (by rfl) T.b_tuple (by decide +kernel) (pa_cons (pe_ix ix_tup (C8.pe_c (c_had_by T) hr (by decide) (by rfl) (pa_cons (pv 0) (pa_cons (pv 4) (pa_cons (pv 3) pa_nil)))) pe_int (fun _ _ => rfl)) pa_nil))))))))), ?_⟩
  have plt := asc_lt asc
  have gd : g.Nodup := plt.imp fun h e => by omega
  have gl : g.length ≤ n := by
    have := nodup_len gd (m := List.range n) fun x hx => List.mem_range.mpr (gn x hx)
    rwa [List.length_range] at this
  have cl := fok.len
  have icl : (intV c).length = n := by unfold intV; rw [List.length_map]; exact cl
  have cat : ∀ (j : Nat) (y : V), (intV c)[j]? = some y → ∃ a : Nat, c[j]? = some a ∧ y = .int (a : Int) := fun j y h => by
    unfold intV at h
    rw [List.getElem?_map] at h
    obtain ⟨a, ha, rfl⟩ := Option.map_eq_some_iff.mp h
    exact ⟨a, ha, rfl⟩
  obtain ⟨xh, dxh, mh, vah, vsh, lkh, voh, rfl, eh, hh1, hh2, hh3⟩ := id hv
  refine ⟨_, rfl, _, rfl, .ref xh, n, l, u, g, rfl, hv, hg, asc, by omega, gn, fun H1 s1 => ?_⟩
  obtain ⟨ag, rfl, eg⟩ := id hg
  refine ⟨_, rfl, _, _, _, _, true, rfl, .ty _, .base (.tup (s1 _ _ et)), kit_ty (by decide +kernel), true, rfl, iteF ?_⟩
  refine ⟨_, rfl, _, (intV c).length, rfl, .inr ⟨_, .inl (.inl (s1 _ _ et)), rfl⟩, _, rfl, xh, _, dxh, _, _, rfl, s1 _ _ eh, T.cl_House, T.na_House_states, rfl, rfl, false, by simp [icl], iteF ?_⟩
  refine ⟨_, rfl, t, intV c, rfl, .inl (.inl (s1 _ _ et)), fun D hD => ?_⟩
  refine lcm LcE.walk_enumT hD (Nat.le_trans (by omega : (intV c).length ≤ 6) (by decide)) (fun _ => true) (fun j y _ => y = .bl true) (fun _ _ _ _ _ h => h) (fun H' s => .inl (.inl ((s1.trans s) _ _ et))) (fun i z H5' H5 kN kY hi s y kn ky => ?_) (fun H2 ys s2 e2 kp => ?_)
  · obtain ⟨Tp, x1, y1, rfl, hT, rfl, hx, hy⟩ := y
    cases hx
    obtain ⟨a, ha, rfl⟩ := cat i y1 hy
    have hi : i < (intV c).length := hi
    have t6 := same_upd (o := .tup [V.int (i : Nat), V.int (a : Int)]) hT
    have s6 := (s1.trans s).trans t6
    obtain ⟨d, hd, ds⟩ := fok.at_ i a ha
    refine ⟨_, _, rfl, .inl (.inl upd_same), rfl, _, _, rfl, _, _, rfl, rfl, rfl, yes ?_⟩
    refine ⟨_, rfl, (a : Int), rfl, _, rfl, iteT ?_⟩
    have hin : inV (.int (a : Int)) ((actsAt l i).map fun j : Nat => V.int (j : Int)) = true := by
      have e : inV (.int (a : Int)) ((actsAt l i).map fun j : Nat => V.int (j : Int)) = decide (a ∈ actsAt l i) := inV_ints a _
      rw [e, decide_eq_true_eq]
      exact mem_actsAt.mpr ⟨d, hd, ds⟩
    refine ⟨_, rfl, _, rfl, xh, dxh, _, rfl, s6 _ _ eh, rfl, _, rfl, .ref xh, n, l, i, rfl, hv.n (same_n s6), ok, by omega, fun H7 p2 s7 ep2 => ?_⟩
    refine ⟨p2, _, rfl, .inr (.inl (.inl ep2)), rfl, all_flat _, ?_⟩
    exact ky _ _ (t6.trans s7) rfl (congrArg V.bl hin)
  obtain ⟨l1, l2⟩ := kp.all
  have e3 := map_bl_all (H := H2) l1 l2
  have s12 := s1.trans s2
  refine ⟨D, List.replicate (intV c).length true, rfl, .inl (.inl (by rw [← e3]; exact e2)), ?_⟩
  rw [all_true]
  refine ⟨_, rfl, iteF ?_⟩
  have il : (g.map fun n : Nat => V.int (n : Int)).length = g.length := List.length_map _
  have S1 : SqT K H2 ag (g.map fun n : Nat => V.int (n : Int)) := .inl (.inl (s12 _ _ eg))
  refine ⟨_, rfl, ag, rfl, ⟨_, S1⟩, fun D hD => ?_⟩
  refine dc_it walk_tup (fun i H' => Same H2 H' ∧ ∃ fk, H' D = some (.dK fk) ∧ fk.map (·.1) = (g.take i).map keyN ∧ ∀ s ∈ g.take i, ∃ u, valV fk (keyN s) = some u ∧ IsR K H' u 1)
    ⟨same_upd hD, [], upd_same, by simp, fun s h => by simp at h⟩ (fun i H' _ p => same_seqT p.1 S1) ?_ ?_
  · rintro i x H3 H4 hi ⟨s3, fk, ef, efk, fw⟩ ⟨rfl, hx⟩
    rw [List.getElem?_map] at hx
    obtain ⟨s0, hs0, rfl⟩ := Option.map_eq_some_iff.mp hx
    have tk : g.take (i + 1) = g.take i ++ [s0] := by rw [List.take_add_one, hs0]; rfl
    have nk : s0 ∉ g.take i := fun hm => by
      have nd : (g.take (i + 1)).Nodup := gd.sublist (List.take_sublist _ _)
      rw [tk, List.nodup_append] at nd
      exact nd.2.2 s0 hm s0 (by simp) rfl
    have vn : valV fk (keyN s0) = none := by
      cases e : valV fk (keyN s0) with
      | none => rfl
      | some z =>
        have := valV_in e
        rw [efk] at this
        obtain ⟨t, ht, e2⟩ := List.mem_map.mp this
        exact absurd (by rw [← keyN_inj e2]; exact ht) nk
    have fl : fk.length ≤ 10 := by
      have := congrArg List.length efk
      rw [List.length_map, List.length_map, List.length_take] at this
      omega
    refine ⟨rfl, yes ⟨_, rfl, fun x dx hx hdx ne => mR1 hx hdx ne fun H5 s5 hz => ⟨rfl, ?_⟩⟩⟩
    have ef5 := s5 _ _ ef
    refine ⟨fk, keyN s0, rfl, ef5, Nat.lt_of_le_of_lt fl (by decide), ?_⟩
    have sn : SameN H5 (upd H5 D (.dK (putK fk (keyN s0) (.ref x)))) := sameN_upd ef5 (fun z => z)
    refine ⟨fun b o hb => by rw [upd_ne (ne_of_none hb hD)]; exact (s3.trans s5) _ _ hb, _, upd_same, ?_, fun s hs => ?_⟩
    · unfold putK
      rw [valV_any, vn, tk]
      simp [efk]
    · rw [valV_put]
      by_cases e : s = s0
      · subst e
        exact ⟨.ref x, by rw [if_pos rfl], (show IsR K H5 (.ref x) 1 from hz).n sn⟩
      · rw [if_neg (fun z => e (keyN_inj z))]
        rw [tk] at hs
        rcases List.mem_append.mp hs with z | z
        · obtain ⟨u', h1, h2⟩ := fw s z
          exact ⟨u', h1, h2.n ((same_n s5).trans sn)⟩
        · exact absurd (List.mem_singleton.mp z) e
  rintro H3 ⟨s3, fk, ef, efk, fw⟩
  rw [il, List.take_length] at efk fw
  have W3 : WorthsV K H3 (.ref D) g := ⟨D, fk, rfl, ef, efk, fw⟩
  have s13 := s12.trans s3
  have pok := stopP_ok fok gn
  refine ⟨_, rfl, t, intV c, rfl, .inl (.inl (s13 _ _ et)), fun D2 hD2 => ?_⟩
  refine lcm LcE.walk_enumT hD2 (Nat.le_trans (by omega : (intV c).length ≤ 6) (by decide)) (fun _ => true) (fun j y _ => y = pickV (if j ∈ g then none else c[j]?)) (fun _ _ _ _ _ h => h) (fun H' s => .inl (.inl ((s13.trans s) _ _ et))) (fun i z H5' H5 kN kY hi s y kn ky => ?_) (fun H4 ys s4 e4 kp => ?_)
  · obtain ⟨Tp, x1, y1, rfl, hT, rfl, hx, hy⟩ := y
    cases hx
    obtain ⟨a, ha, rfl⟩ := cat i y1 hy
    have t6 := same_upd (o := .tup [V.int (i : Nat), V.int (a : Int)]) hT
    have ef6 := (s.trans t6) _ _ ef
    refine ⟨_, _, rfl, .inl (.inl upd_same), rfl, _, _, rfl, _, _, rfl, rfl, rfl, yes ?_⟩
    refine ⟨_, rfl, _, rfl, D, _, rfl, .inl ⟨fk, keyN i, .inl ef6, rfl, rfl⟩, _, rfl, ite2 (fun h0 => ?_) (fun h0 => ?_)⟩
    · have sg : i ∈ g := by
        have h5 := mem_keys h0
        rw [efk] at h5
        obtain ⟨t, ht, e⟩ := List.mem_map.mp h5
        rw [← keyN_inj e]
        exact ht
      exact ky _ _ t6 rfl (by rw [if_pos sg]; rfl)
    · have sg : i ∉ g := fun z => h0 (by
        obtain ⟨u', h1, _⟩ := fw i z
        rw [h1]; rfl)
      exact ⟨_, rfl, ky _ _ t6 rfl (by rw [if_neg sg, ha]; rfl)⟩
  have ek := kept_map (f := fun j => pickV (if j ∈ g then none else c[j]?)) kp
  have ek : ys = (stopP n g c).map pickV := by
    rw [ek, List.filter_eq_self.mpr (fun _ _ => rfl), icl]
    unfold stopP
    rw [List.map_map]
    rfl
  subst ek
  have s14 := s13.trans s4
  refine ⟨_, rfl, _, rfl, _, rfl, .ref xh, n, l, .ref D2, stopP n g c, .ref D, g, rfl, hv.n (same_n s14), ok, n6, ⟨D2, rfl, e4⟩, pok, W3.s s4, gn, gd, fun H5 t5 a q D5 fk5 far s5 et5 hq ql eD5 kok fd had qz => ?_⟩
  obtain ⟨a', us, ea', ea, al⟩ := hq
  cases ea'
  refine ⟨t5, _, 0, .ref a, rfl, rfl, .inl (.inl et5), rfl, a, us, rfl, .inl ⟨.inl (.inl ea), fun p hp => ?_⟩⟩
  exact k _ p us q far (s14.trans (s5.trans (same_upd hp))) upd_same (al.imp fun x y z => z.n (same_n (same_upd hp))) ql pok had qz
theorem c_chance_by (T : Tx K mg) : C8.Cal P w K mg base 9 "chance_by" (sp_chance_by K) [] := by
  obtain ⟨fd, F⟩ := T.f_chance_by
  exact ⟨_, fd, P_chance_by, [], ok_chance_by T F, T.g_chance_by, F.kp, F.bindsN (fun _ _ _ _ _ _ us hl => match us, hl with | [_, _, _], _ => rfl), .nil⟩
end
end Lc
set_option Elab.async false
set_option linter.all false
set_option maxRecDepth 100000
set_option maxHeartbeats 4000000
namespace Lc
open PySem PySem.Spec PyProof.Rows L2 LcR
/-- how an own exception leaves: its dict is new and tells the part -/
def ErrOut (C : Addr) (z : Str) (H : Hp) (E : XK) : Prop := ∀ d H', Same H H' → H d = none → H' d = some (.xd [(("part" : Str), .str z)]) → E (.ref C) (some d) H'
section
variable {P : Program} {w : World} {K : PySem.W.Frag} {mg : Str → Option Value} {base : Heap}
def sp_exc_init (K : PySem.W.Frag) (C : Addr) : Sp := fun vs H Q _ => ∃ (a : Addr) (y : V), vs = [.ref a, y] ∧ H a = some (exo a C none) ∧ OexC K C ∧ PySem.W.findIn K (.ref C) "part" = some none ∧
  ∀ dx, H dx = none → dx ≠ a → Q .non (upd (upd H dx (exd dx [(("part" : Str), y)])) a (exo a C (some dx)))
theorem mk_exc {C : Addr} {z : Str} {σ : L2.St} {H : Hp} {Q : XK} (T : OexC K C) (hno : PySem.W.findIn K (.ref C) "part" = some none) (k : ErrOut C z H Q) : tMkO C (sp_exc_init K C) [] (tCons (tC (.str z)) tNil) σ H Q := by
  refine ⟨by show 1 ≤ 1000; decide, fun a ha => ⟨a, .str z, rfl, upd_same, T, hno, fun dx hdx ne => ⟨rfl, dx, _, upd_same, by rw [upd_ne ne, upd_same], ?_, k dx _ (fun b o hb => ?_) ?_ upd_same⟩⟩⟩
  · rw [upd_ne ne] at hdx; exact hdx
  · rw [upd_ne ne] at hdx
    have h1 : b ≠ dx := ne_of_none hb hdx
    have h2 : b ≠ a := ne_of_none hb ha
    rw [upd_ne h1, del_ne h2, upd_ne h2, upd_ne h1, upd_ne h2]
    exact hb
  · rw [upd_ne ne] at hdx; exact hdx
theorem ok_BadHouse_init (T : Tx K mg) {f : Addr} {fd : FuncData} (F : FunD K "__init__" "BadHouse.__init__" (defArgs s_BadHouse_init) (defBody s_BadHouse_init) (defScope s_BadHouse_init) [] [] f fd) : FnOk P w K mg base CX0 1 f fd P_BadHouse_init (sp_exc_init K (CBadHouse K)) := by
  refine fnD F sc_BadHouse_init (fun vs H Q E h => ?_) (fun cdv A outer s H vs Q E hr h => ?_)
  · obtain ⟨_, _, rfl, _⟩ := h; rfl
  obtain ⟨a, y, rfl, ea, to, hno, k⟩ := h
  refine ⟨_, (pss_one (ps_ost (pv 0) (pv 1))), ?_⟩
  exact ⟨_, rfl, _, rfl, a, _, rfl, to, hno, .inl ⟨ea, k⟩⟩
theorem ok_BadGoal_init (T : Tx K mg) {f : Addr} {fd : FuncData} (F : FunD K "__init__" "BadGoal.__init__" (defArgs s_BadGoal_init) (defBody s_BadGoal_init) (defScope s_BadGoal_init) [] [] f fd) : FnOk P w K mg base CX0 1 f fd P_BadGoal_init (sp_exc_init K (CBadGoal K)) := by
  refine fnD F sc_BadGoal_init (fun vs H Q E h => ?_) (fun cdv A outer s H vs Q E hr h => ?_)
  · obtain ⟨_, _, rfl, _⟩ := h; rfl
  obtain ⟨a, y, rfl, ea, to, hno, k⟩ := h
  refine ⟨_, (pss_one (ps_ost (pv 0) (pv 1))), ?_⟩
  exact ⟨_, rfl, _, rfl, a, _, rfl, to, hno, .inl ⟨ea, k⟩⟩
theorem ok_BadPlan_init (T : Tx K mg) {f : Addr} {fd : FuncData} (F : FunD K "__init__" "BadPlan.__init__" (defArgs s_BadPlan_init) (defBody s_BadPlan_init) (defScope s_BadPlan_init) [] [] f fd) : FnOk P w K mg base CX0 1 f fd P_BadPlan_init (sp_exc_init K (CBadPlan K)) := by
  refine fnD F sc_BadPlan_init (fun vs H Q E h => ?_) (fun cdv A outer s H vs Q E hr h => ?_)
  · obtain ⟨_, _, rfl, _⟩ := h; rfl
  obtain ⟨a, y, rfl, ea, to, hno, k⟩ := h
  refine ⟨_, (pss_one (ps_ost (pv 0) (pv 1))), ?_⟩
  exact ⟨_, rfl, _, rfl, a, _, rfl, to, hno, .inl ⟨ea, k⟩⟩
/-- need_house of a list -/
def sp_need_houseX (K : PySem.W.Frag) : Sp := fun vs H _ E => ∃ (a : Addr) (xs : List V), vs = [.ref a] ∧ H a = some (.lst xs) ∧ ErrOut (CBadHouse K) "house" H E
theorem ok_need_houseX (T : Tx K mg) {f : Addr} {fd : FuncData} (F : FunD K "need_house" "need_house" (defArgs s_need_house) (defBody s_need_house) (defScope s_need_house) [] [] f fd) : FnOk P w K mg base (L2.CX P w) 3 f fd P_need_house (sp_need_houseX K) := by
  obtain ⟨fi, FI⟩ := T.f_BadHouse_init
  refine F.ok (CX := L2.CX P w) sc_need_house (fun vs H Q E h => ?_) (fun cdv A outer s H vs Q E hr h => ?_)
  · obtain ⟨_, _, rfl, _⟩ := h; rfl
  obtain ⟨a, xs, rfl, ea, k⟩ := h
  refine ⟨_, pss_one (ps_if (pt_not (pt_val (pe_callB call_isi (by rfl) T.b_isinstance (by decide +kernel) (pa_cons (pv 0) (pa_cons (pe_glob (v := .ref (CHouse K)) (by rfl) T.g_House rfl) pa_nil)))))
    (pss_one (ps_raise rfl (takes_of rfl rfl rfl rfl) (pmk_oex T.oex_BadHouse T.in_BadHouse T.it_BadHouse (ok_BadHouse_init T FI) hr (FI.bindsN (fun _ _ _ _ _ _ us hl => match us, hl with | [_, _], _ => rfl)) .nil C8.pass0 (by rfl) T.g_BadHouse (pa_cons pe_str pa_nil)))) pss_nil), ?_⟩
  refine ⟨_, rfl, _, _, _, _, false, rfl, .own _, .base (.lst ea), T.kh_list, false, rfl, iteT ?_⟩
  exact mk_exc T.oex_BadHouse T.np_BadHouse k
end
end Lc
set_option Elab.async false
set_option linter.all false
set_option maxRecDepth 100000
set_option maxHeartbeats 4000000
/-! an error that a clause of several classes catches, kept under a name: it is tracked in the abstract heap behind the clause -/
namespace LcC
open PySem PySem.Spec PyProof.Rows L2
/-- the caught error at a: its class and its dict -/
def ErrO (a : Addr) (cls : Value) (d : Option Addr) : HO := .ext fun h => ∃ (o : Obj) (vs : Array Value), h.get? a = some o ∧ Zc cls d o ∧ o.data = .fields vs
section
variable {X : Cx} {pins : List (Addr × Obj)} {σ : L2.St} {H : Hp} {s : Shared} {a : Addr} {cls : Value} {d : Option Addr}
theorem note (I : Inv X pins σ H s) (ha : ∃ (o : Obj) (vs : Array Value), s.heap.get? a = some o ∧ Zc cls d o ∧ o.data = .fields vs) (na : H a = none) (nL : a ≠ X.env.locals) (n0 : X.s_0.heap.get? a = none)
    (np : ∀ p ∈ X.pn ++ pins, p.1 ≠ a) (nc : ∀ x c, X.env.cells.lookup x = some c → c ≠ a) : Inv X pins σ (upd H a (ErrO a cls d)) s := by
  have sm : ∀ b u, H b = some u → upd H a (ErrO a cls d) b = some u := fun b u e => by
    rw [upd_ne (ne_of_none e na)]
    exact e
  refine ⟨I.ok, I.os, I.bare, ⟨I.base.keep, I.base.slot, fun b o e n hx => ?_, I.base.there, fun b xs e => sm _ _ (I.base.tups b xs e), fun b o u e => sm _ _ (I.base.frzs b o u e), fun b ps e => ?_⟩,
    I.loc, I.cell, ?_, fun x c e => ?_, fun p hp => ?_, fun b u e => ?_, I.len⟩
  · have hb : b ≠ a := fun z => by
      rw [z, n0] at e
      cases e
    rw [upd_ne hb]
    exact I.base.free b o e n hx
  · obtain ⟨more, q⟩ := I.base.tbls b ps e
    exact ⟨more, sm _ _ q⟩
  · rw [upd_ne nL.symm]
    exact I.free
  · rw [upd_ne (nc x c e)]
    exact I.freeC x c e
  · obtain ⟨h1, h2, h3, h4, h5⟩ := I.pin p hp
    exact ⟨h1, by rw [upd_ne (np p hp)]; exact h2, h3, h4, h5⟩
  · by_cases hb : b = a
    · subst hb
      rw [upd_same] at e
      cases e
      exact ⟨ha, let ⟨o, _, q, _⟩ := ha; ⟨o, q⟩, fun h1 h2 ⟨o, vs, q, z, y⟩ st => ⟨o, vs, st _ q, z, y⟩⟩
    · rw [upd_ne hb] at e
      exact (I.hok b u e).stay (fun _ _ _ q => q) (fun c q => sm _ _ q) fun c xs q => sm _ _ q
theorem flies {B h h' : Heap} {l : List Env} {Z : Obj → Prop} (x : HandSPX.FlyingZ B l a Z h) (k : ∀ b o, h.get? b = some o → h'.get? b = some o) : HandSPX.FlyingZ B l a Z h' := by
  obtain ⟨x1, x2, x3, oe, vs, T, oT, ts, y1, y2, y3, y4, y5, y6, y7, y8, y9⟩ := x
  exact ⟨fun b o e => k b o (x1 b o e), x2, x3.of_keeps fun b o e _ => ⟨o, k b o e, rfl⟩, oe, vs, T, oT, ts, k _ _ y1, y2, y3, y4, y5, y6, k _ _ y7, y8, y9⟩
/-- what the clause wishes: the error is of one of its classes; behind the suite (slot i: the clause's name) the error is tracked -/
def wCatch (K : PySem.W.Frag) (cs : List Value) (i : Nat) (ts : Addr → Value → Option Addr → TS) (D : Ends) : WX := fun cls d σ H =>
  PySem.W.exmAny K cls cs = some true ∧ ∀ a, H a = none → ts a cls d { nx := fun σ' H' => H' a = none → D.nx (σ'.set i none) (upd H' a (ErrO a cls d)), rt := fun _ _ => False, bk := fun _ _ => False, ct := fun _ _ => False } (σ.set i (some (.ref a))) H
/-- try: body / except (x1, x2, x3) as n: suite, where each error of the body is of one of these classes -/
theorem ps_catch3 {x1 x2 x3 n : Str} {c1 c2 c3 : Value} {i : Nat} {body suite : List Stmt} {b₀ : Stmt} {p1 p2 p3 tpos pos pos' : Pos} {kk : Nat} {tb : WX → TS} {ts : Addr → Value → Option Addr → TS}
    (hs : X.stack = X.env :: X.outer) (hf : X.env.frame = some X.env.locals) (hex : X.ex = []) (hN : X.N.Nodup) (hi : X.N[i]? = some n) (hln : X.env.kindOf n = some .local)
    (g1 : Gl X x1) (m1 : X.mg x1 = some c1) (g2 : Gl X x2) (m2 : X.mg x2 = some c2) (g3 : Gl X x3) (m3 : X.mg x3 = some c3)
    (hb : ∀ (W : WX) (pn : List (Addr × Obj)) (xe : Value → Shared → Prop), Takes (X.tr pn xe) W → PassesOwn (model X.prog X.w) X.A X.env xe → PSs (X.tr pn xe) body (tb W))
    (hsu : ∀ (a : Addr) (oe : Obj) (cls : Value) (d : Option Addr) (pn : List (Addr × Obj)), Zc cls d oe → (∃ vs, oe.data = .fields vs) → PSs (X.suite a ((a, oe) :: pn)) (b₀ :: suite) (ts a cls d))
    (d1 : (x1 == ("__debug__" : Str)) = false := by decide) (d2 : (x2 == ("__debug__" : Str)) = false := by decide) (d3 : (x3 == ("__debug__" : Str)) = false := by decide) :
    PS X (.Try body [.ExceptHandler (some (.Tuple [.Name x1 p1, .Name x2 p2, .Name x3 p3] kk tpos)) (some n) (b₀ :: suite) pos'] [] [] pos) (fun D σ H => tb (wCatch X.K [c1, c2, c3] i ts D) D σ H) := by
  refine ⟨fun pins s σ H D I h => ?_⟩
  have ok := I.ok
  have hfr : X.A.frames = some (X.env :: X.outer) := by rw [ok.frames, hs]
  have hloc : Loc X.env.scope n := .inl hln
  refine wpAny_Try_except ?_
  have run := (hb (wCatch X.K [c1, c2, c3] i ts D) (X.pn ++ pins) (fun e s₁ => wpAny (model X.prog X.w) X.A (noteFrame e X.env) (fun _ s₂ => wpAny (model X.prog X.w) X.A (setFlight e none) (fun _ s₃ =>
    wpAny (model X.prog X.w) X.A (handleBy e X.env [.ExceptHandler (some (.Tuple [.Name x1 p1, .Name x2 p2, .Name x3 p3] kk tpos)) (some n) (b₀ :: suite) pos']) (SP X pins D) X.xe s₃) X.xe s₂) X.xe s₁)
    (fun u s' xx => ?_) PassesOwn.looking).run [] s σ H D (I.toTry _) h
  · refine wpAny_mono run (fun f s1 hsp => ?_) (fun e s1 he => he)
    cases f with
    | next =>
      obtain ⟨σ', H', J, q⟩ := hsp
      exact wpAny_execs_nil ⟨σ', H', J.ofTry ok, q⟩
    | brk =>
      obtain ⟨σ', H', J, q⟩ := hsp
      exact ⟨σ', H', J.ofTry ok, q⟩
    | cont =>
      obtain ⟨σ', H', J, q⟩ := hsp
      exact ⟨σ', H', J.ofTry ok, q⟩
    | ret u =>
      obtain ⟨v, σ', H', J, r, q⟩ := hsp
      exact ⟨v, σ', H', J.ofTry ok, r, q⟩
  · obtain ⟨a, B, sI, pins', σ', H', cls, d, rfl, J', nb, up, sky, na, os, ag, hm, hyes⟩ := xx
    have J : Inv X pins σ' H' sI := J'.ofTry ok
    rw [show (X.tr (X.pn ++ pins) _).stack = X.env :: X.outer from hs] at sky
    show wpAny (model X.prog X.w) X.A (noteFrame (.ref a) X.env) _ _ _
    refine Sky.land Zc.steady hfr hf sky fun h3 fl3 up3 => ?_
    obtain ⟨oe3, vs3, he3, hz3, hd3⟩ := fl3.there
    have noFrame : ∀ {h : Heap} {o : Obj} {vs : Array Value}, h.FunFrames B (X.env :: X.outer) → h.get? a = some o → o.data = .fields vs → a ∉ frs (X.env :: X.outer) := fun {h o vs} ff e dd hm => by
      obtain ⟨_, o', e', hnf⟩ := ff.mem hm
      rw [e] at e'
      cases e'
      exact hnf _ dd
    have nfr := noFrame fl3.2.2.1 he3 hd3
    have nL : a ≠ X.env.locals := fun z => nfr (List.mem_filterMap.mpr ⟨X.env, List.mem_cons_self, by rw [hf, z]⟩)
    have nF : a ∉ X.fs := fun hm => by
      obtain ⟨e, he, q⟩ := List.mem_filterMap.mp hm
      exact nfr (List.mem_filterMap.mpr ⟨e, List.mem_cons_of_mem _ he, q⟩)
    have nI : ∀ o, sI.heap.get? a ≠ some o := fun o e => by
      have z := nb a o e (by rw [show (X.tr (X.pn ++ pins) _).stack = X.env :: X.outer from hs]; exact nfr)
      rw [fl3.2.1] at z
      cases z
    have J3 : Inv X pins σ' H' { s' with heap := h3 } := J.landed (by exact nb) fl3.1 (up.trans up3) os ag
    have S3 := J3.suite he3 hd3 na nL nF
    refine wpAny_handleBy_cons (codeAny_handlers_test ?_) (by intro q; cases q)
    refine wpAny_Tuple (wpAny_items_cons (ld_glob (X := X.suite a ((a, oe3) :: (X.pn ++ pins))) S3 g1 m1 ?_ d1))
    refine wpAny_items_cons (ld_glob (X := X.suite a ((a, oe3) :: (X.pn ++ pins))) S3 g2 m2 ?_ d2)
    refine wpAny_items_cons (ld_glob (X := X.suite a ((a, oe3) :: (X.pn ++ pins))) S3 g3 m3 ?_ d3)
    refine wpAny_items_nil ⟨by show 3 ≤ sizeLine; decide, ?_⟩
    have kp : ∀ b o, h3.get? b = some o → (h3.push { cls := .type "tuple", data := .seq [c1, c2, c3].toArray }).get? b = some o := fun _ _ z => Heap.get?_push_of_some _ z
    have LT : PySem.W.Looks (model X.prog X.w) (h3.push { cls := .type "tuple", data := .seq [c1, c2, c3].toArray }) (typeOf (.ref a)) cls := fun A Q E s k q => wpAny_typeOf_ref (k _ _ (kp _ _ he3)) (by rw [hz3.1]; exact q)
    refine (PySem.W.exm_tup3 (J3.kIn.keeps kp) LT (Heap.get?_push_size h3 rfl) hm).here ?_
    refine codeAny_handlers_suite_as ?_
    refine HandSPX.lands_againZ (flies fl3 kp) fun h4 fl4 up4 => ?_
    have J4 : Inv X pins σ' H' { s' with heap := h4 } := J.landed (by exact nb) fl4.1 (((up.trans up3).trans (Heap.UpToSlots.of_keeps kp)).trans up4) os ag
    obtain ⟨oe4, vs4, he4, hz4, hd4⟩ := fl4.there
    have S4 := J4.suite he4 hd4 na nL nF
    refine store_ok (X := X.suite a ((a, oe4) :: (X.pn ++ pins))) (v := .ref a) S4 hN hi hloc rfl (fun s5 S5 => ?_) (.inr hln)
    refine wpAny_mono ((hsu a oe4 cls d (X.pn ++ pins) hz4 ⟨_, hd4⟩).run [] s5 _ H' _ S5 (hyes a na)) (fun f s6 hsp => ?_) (fun _ _ z => False.elim z)
    cases f with
    | next =>
      obtain ⟨σ6, H6, S6, q6⟩ := hsp
      refine gone_ok (X := X.suite a ((a, oe4) :: (X.pn ++ pins))) S6 hN hi hln fun s7 S7 => ?_
      obtain ⟨ea, na7, _, _, _⟩ := S7.pin (a, oe4) (List.mem_append_left _ List.mem_cons_self)
      refine ⟨_, _, note (S7.unsuite ok) ⟨oe4, vs4, ea, hz4, hd4⟩ na7 nL ?_ (fun p hp z => ?_) (fun x c e z => ?_), q6 na7⟩
      · cases e : X.s_0.heap.get? a with
        | none => rfl
        | some o =>
          obtain ⟨o', q⟩ := J.base.there a o e (by rw [hex]; simp)
          exact absurd q (nI o')
      · have q := (J.pin p hp).1
        rw [z] at q
        exact nI _ q
      · obtain ⟨v, o, q, _⟩ := J.cell x c e
        rw [z] at q
        exact nI _ q
    | brk =>
      obtain ⟨_, _, _, q6⟩ := hsp
      exact q6.elim
    | cont =>
      obtain ⟨_, _, _, q6⟩ := hsp
      exact q6.elim
    | ret u =>
      obtain ⟨_, _, _, _, _, q6⟩ := hsp
      exact q6.elim
end
/-! ### the tracked error is asked -/
section
variable {X : Cx} {pins : List (Addr × Obj)} {σ : L2.St} {H : Hp} {s : Shared} {a D dd : Addr} {fs : List (Str × V)}
theorem inst_at (I : Inv X pins σ H s) (e : H a = some (ErrO a (.ref D) (some dd))) (ed : H dd = some (.xd fs)) :
    ∃ (o od : Obj) (mA : Str → Option Value), PySem.W.InstAt s.heap a o D (some od) ∧ (∀ f, PySem.W.lookIn f od = some (mA f)) ∧ ∀ f, RelO (fs.lookup f) (mA f) := by
  obtain ⟨⟨o, vs, q, ⟨z1, z2⟩, y⟩, _, _⟩ := I.hok a _ e
  have hx : ObjOk X.prog X.w H s.heap dd (.xd fs) := I.hok dd _ ed
  obtain ⟨mA, hns, hr⟩ := hx
  obtain ⟨od, ho, hl⟩ := lookIn_ns hns
  exact ⟨o, od, mA, ⟨q, z1, by unfold PySem.W.notCls; rw [y] <;> rfl, by rw [z2]; exact ho⟩, hl, hr⟩
end
/-- isinstance(e, c) -/
def rIsC (K : PySem.W.Frag) : List V → Hp → VK → Prop := fun xs H Q => ∃ (a D dd : Addr) (fs : List (Str × V)) (c : V) (cv : Value) (b : Bool), xs = [.ref a, c] ∧ H a = some (ErrO a (.ref D) (some dd)) ∧ H dd = some (.xd fs) ∧ (∀ u, RelV c u → u = cv) ∧
  ExcC K D ∧ PySem.W.kitOne K (.ref D) cv = some b ∧ Q (.bl b) H
theorem call_isC {X : Cx} : CallR X (.builtin "isinstance") (rIsC X.K) := by
  intro pins s σ H xs us Q I r h
  obtain ⟨a, D, dd, fs, c, cv, b, rfl, ea, ed, hcv, C, e, q⟩ := h
  cases r with
  | cons rx rr =>
    cases rr with
    | cons rt rr =>
      cases rr
      cases rx
      have ec := hcv _ rt
      subst ec
      obtain ⟨o, od, mA, J, _, _⟩ := inst_at I ea ed
      obtain ⟨cd, hc, _⟩ := PySem.W.any_some C.hd
      exact PySem.W.kia_one (PySem.W.kitx_exc (by rw [hc]; rfl) C.hg C.hk C.hs C.ha C.hn C.ht C.hm) I.kIn J e (fun z => nomatch z) fun tk => ⟨.bl b, H, I.kept (t' := tk) fun _ _ z => z, rfl, q⟩
def XcOk (K : PySem.W.Frag) (n : Str) (D : Addr) : Prop := XfC K D ∧ PySem.W.findIn K (.ref D) n = some none
/-- e.f -/
theorem pe_xc {X : Cx} {e : Expr} {te : TE} {pos : Pos} {n : Str} (he : PE X e te) (hb : attributeBase e n X.env (eval e X.env) = eval e X.env := by rfl) :
    PE X (.Attribute e n pos) (fun σ H Q => te σ H fun x H1 => ∃ (a D dd : Addr) (fs : List (Str × V)) (v : V), x = .ref a ∧ XcOk X.K n D ∧ H1 a = some (ErrO a (.ref D) (some dd)) ∧ H1 dd = some (.xd fs) ∧ fs.lookup n = some v ∧ Q v H1) := by
  refine ⟨fun pins s σ H Q I h => ?_⟩
  refine attr_of hb (thn (he.run pins s σ H _ I h) fun u s1 hh => ?_)
  obtain ⟨x, H1, I1, rx, a, D, dd, fs, v, rfl, ⟨T, hno⟩, ea, ed, l, q⟩ := hh
  obtain rfl : u = Value.ref a := rx
  obtain ⟨o, od, mA, J, hl, hr⟩ := inst_at I1 ea ed
  obtain ⟨u, hu, ru⟩ := RelO.some_of (v := v) (o := mA n) (by rw [← l]; exact hr n)
  exact HandSPX.exc_get I1.kIn J T.ga T.gg T.exC (PySem.W.findObj_own T.hdC hno rfl (by rw [hl n, hu])) (handed_of ru) ⟨v, H1, I1.tok _, ru, q⟩
end LcC
set_option Elab.async false
set_option linter.all false
set_option maxRecDepth 100000
set_option maxHeartbeats 4000000
/-! a lambda with one default, a written number, handed to a def that calls it without arguments -/
namespace LcM
open PySem PySem.Spec PyProof.Rows L2 LamX
/-- the function that such a lambda is: dV its defaults -/
abbrev mFn (qual : Str) (params : Arguments) (body : Expr) (scope : Scope) (cl : List (Str × Addr)) (dV pm cdv ct : Value) : FuncData :=
  { name := "<lambda>", qualname := qual, params, body := .expr body, scope, globals := mainGlobals, closure := cl,
    defaults := dV, kwdefaults := .none, doc := .none, pyModule := pm,
    annotations := none, code := cdv, closureTuple := ct, builtins := builtinsNs }
abbrev mObj (qual : Str) (params : Arguments) (body : Expr) (scope : Scope) (cl : List (Str × Addr)) (dV pm cdv ct : Value) : Obj := { cls := .type "function", data := .func (mFn qual params body scope cl dV pm cdv ct) }
section
variable {M : Model} {A : Around} {E : Value → Shared → Prop} {s : Shared}
variable {qual : Str} {params : Arguments} {body : Expr} {scope : Scope} {env : Env} {c P : Addr} {ps : Array Value} {pos : Pos} {fl : Nat} {mg : Str → Option Value} {cl : List (Str × Addr)} {dV : Value} {Q : Value → Shared → Prop}
theorem tail_new (hcl : closureFor scope env = pure cl) (e0 : env.globals = mainGlobals) (hg : s.heap.Ns mainGlobals mg) (hcode : env.code = .ref c) (C : PySem.W.CodeHd s.heap c P) (hP : s.heap.get? P = some { cls := .none, data := .fields ps }) (ht : TriplesOk ps.toList)
    (hnf : codeAmong pos ps.toList = none) (hgP : mainGlobals ≠ P) (hb : s.heap.BuiltinsAt mg P)
    (h : ∀ c' ctv h' tk, Heap.ExtBut P s.heap h' → s.heap.objs.size ≤ c' → c' < h'.objs.size → h'.CodeRec (.ref c') qual → h'.get? P = some { cls := .none, data := .fields (ps ++ #[rawInt pos.line, rawInt pos.col, .ref c']) } →
      Q (.ref h'.objs.size) { s with heap := h'.push (mObj qual params body scope cl dV ((mg "__name__").getD .none) (.ref c') ctv), toks := tk }) :
    wpAny M A (makeTail "<lambda>" qual params (.expr body) scope env dV .none none pos fl) Q E s := by
  obtain ⟨bm, ob, b1, b2, _, b4, b5, b6, b7, b8⟩ := hb
  unfold makeTail
  rw [hcl, e0]
  refine wpAny_bind (wpAny_pure ?_)
  cases cl with
  | nil =>
    simp only [List.isEmpty_nil, if_true]
    refine wpAny_bind (wpAny_pure (wpAny_bind (wpAny_functionCodeX hcode (C.code hP ht) (C.tab hP) hnf fun c' h' tk hx hge hlt _ hrec htb _ => ?_)))
    have g1 := hg.extBut hx hgP
    refine wpAny_bind (wpAny_builtinsFor g1 b1 b2 (hx _ _ b4 b5) b6 b7 b8 (wpAny_bind (wpAny_nsGet g1 (wpAny_bind (wpAny_pure ?_)))))
    exact wpAny_newObj_type (h c' _ h' tk hx hge hlt hrec htb.2) (by size_fits)
  | cons q r =>
    simp only [List.isEmpty_cons, Bool.false_eq_true, if_false]
    refine wpAny_bind (wpAny_newTextTuple ?_)
    have k0 : ∀ (oT : Obj) b o, s.heap.get? b = some o → (s.heap.push oT).get? b = some o := fun oT b o e => Heap.get?_push_of_some _ e
    refine wpAny_bind (wpAny_functionCodeX hcode ((C.keeps (k0 _)).code (k0 _ _ _ hP) ht) ((C.keeps (k0 _)).tab (k0 _ _ _ hP)) hnf fun c' h' tk hx hge hlt _ hrec htb _ => ?_)
    have g1 := (hg.keeps (k0 _)).extBut hx hgP
    have x1 : Heap.ExtBut P s.heap h' := fun b o n e => hx b o n (k0 _ _ _ e)
    have z1 : s.heap.objs.size ≤ c' := Nat.le_trans (by rw [Heap.size_push]; exact Nat.le_succ _) hge
    refine wpAny_bind (wpAny_builtinsFor g1 b1 b2 (x1 _ _ b4 b5) b6 b7 b8 (wpAny_bind (wpAny_nsGet g1 (wpAny_bind (wpAny_pure ?_)))))
    exact wpAny_newObj_type (h c' _ h' tk x1 z1 hlt hrec htb.2) (by size_fits)
theorem tail_hit {cv : Value} (hcl : closureFor scope env = pure cl) (e0 : env.globals = mainGlobals) (hg : s.heap.Ns mainGlobals mg) (hcode : env.code = .ref c) (C : PySem.W.CodeHd s.heap c P) (hP : s.heap.get? P = some { cls := .none, data := .fields ps }) (ht : TriplesOk ps.toList)
    (hf : codeAmong pos ps.toList = some cv) (hb : s.heap.BuiltinsAt mg P)
    (h : ∀ (ctv : Value) (h' : Heap) (tk : Tok), (∀ b o, s.heap.get? b = some o → h'.get? b = some o) → s.heap.objs.size ≤ h'.objs.size →
      Q (.ref h'.objs.size) { s with heap := h'.push (mObj qual params body scope cl dV ((mg "__name__").getD .none) cv ctv), toks := tk }) :
    wpAny M A (makeTail "<lambda>" qual params (.expr body) scope env dV .none none pos fl) Q E s := by
  obtain ⟨bm, ob, b1, b2, _, b4, b5, b6, b7, b8⟩ := hb
  unfold makeTail
  rw [hcl, e0]
  refine wpAny_bind (wpAny_pure ?_)
  cases cl with
  | nil =>
    simp only [List.isEmpty_nil, if_true]
    refine wpAny_bind (wpAny_pure (wpAny_bind (wpAny_functionCode_hit hcode (C.code hP ht) hf ?_)))
    refine wpAny_bind (wpAny_builtinsFor hg b1 b2 b5 b6 b7 b8 (wpAny_bind (wpAny_nsGet hg (wpAny_bind (wpAny_pure ?_)))))
    exact wpAny_newObj_type (h _ s.heap s.toks (fun _ _ e => e) (Nat.le_refl _)) (by size_fits)
  | cons q r =>
    simp only [List.isEmpty_cons, Bool.false_eq_true, if_false]
    refine wpAny_bind (wpAny_newTextTuple ?_)
    have k0 : ∀ (oT : Obj) b o, s.heap.get? b = some o → (s.heap.push oT).get? b = some o := fun oT b o e => Heap.get?_push_of_some _ e
    refine wpAny_bind (wpAny_functionCode_hit hcode ((C.keeps (k0 _)).code (k0 _ _ _ hP) ht) hf ?_)
    have g1 := hg.keeps (k0 { cls := .type "tuple", data := .seq (((q :: r).mergeSort fun a b => a.1.cps.toList ≤ b.1.cps.toList).map (.ref ·.2)).toArray })
    refine wpAny_bind (wpAny_builtinsFor g1 b1 b2 (k0 _ _ _ b5) b6 b7 b8 (wpAny_bind (wpAny_nsGet g1 (wpAny_bind (wpAny_pure ?_)))))
    exact wpAny_newObj_type (h _ _ s.toks (k0 _) (by rw [Heap.size_push]; exact Nat.le_succ _)) (by size_fits)
end
section
variable {X : Cx} {pins : List (Addr × Obj)} {σ : L2.St} {H : Hp} {s : Shared}
/-- the function is made from the maker's code object: its own code object is new, or found in the table -/
theorem made {T : List (Addr × Str)} {c P : Addr} {params : Arguments} {body : Expr} {scope : Scope} {pos : Pos} {dV : Value} {E : Value → Shared → Prop} {Q : Value → Shared → Prop} (I : Inv X pins σ H s) (TB : TabB X.base X.mg c P) (hcode : X.env.code = .ref c)
    (hm : (P, X.env.qual ++ "<lambda>") ∈ T) (hu : ∀ p ∈ T, p.1 = P → p.2 = X.env.qual ++ "<lambda>") (hT : Tabs T H) (hfree : ∀ y ∈ scope.names, y.2 = .free → ∃ c, X.env.cells.lookup y.1 = some c)
    (h : ∀ (f c' : Addr) (pm ctv : Value) (H1 : Hp) (s' : Shared), Inv X pins σ H1 s' → ExtN H H1 → Tabs T H1 →
      s'.heap.get? f = some (mObj (X.env.qual ++ "<lambda>") params body scope (cloFrom X.env.cells scope.names []) dV pm (.ref c') ctv) → H1 f = none → f ∉ frs X.stack → H1 c' = some (CodeO c' (X.env.qual ++ "<lambda>")) → Q (.ref f) s') :
    wpAny (model X.prog X.w) X.A (makeTail "<lambda>" (X.env.qual ++ "<lambda>") params (.expr body) scope X.env dV .none none pos pos.line) Q E s := by
  obtain ⟨ps, hP, ht, ha⟩ := hT _ hm
  have bP : s.heap.BuiltinsAt X.mg P := TB.bm.keeps I.bk
  have hP' : s.heap.get? P = some { cls := .none, data := .fields ps } := I.hok P _ hP
  have nofr : ∀ f, s.heap.objs.size ≤ f → f ∉ frs X.stack := fun f hf z => by
    rcases List.mem_cons.mp (I.stkSub _ z) with e | e
    · have h1 := I.lt
      rw [← e] at h1
      exact absurd (Nat.lt_of_lt_of_le h1 hf) (Nat.lt_irrefl _)
    · exact I.nofs hf e
  cases hc : codeAmong pos ps.toList with
  | some cv =>
    obtain ⟨c', rfl, hco⟩ := ha pos cv hc
    refine tail_hit (mg := X.mg) (c := c) (P := P) (ps := ps) (closure_ok hfree) I.ok.glob (I.mod.glob.keeps I.bk) hcode (TB.code.keeps I.bk) hP' ht hc bP fun ctv h' tk hx hsz => ?_
    exact h h'.objs.size c' _ ctv H _ (I.kept (t' := tk) fun b o e => Heap.get?_push_of_some _ (hx b o e)) (ExtN.refl H) hT (Heap.get?_push_size _ rfl) (I.hok.fresh hsz) (nofr _ hsz) hco
  | none =>
    refine tail_new (mg := X.mg) (c := c) (P := P) (ps := ps) (closure_ok hfree) I.ok.glob (I.mod.glob.keeps I.bk) hcode (TB.code.keeps I.bk) hP' ht hc TB.gP bP fun c' ctv h' tk hx hge hlt hrec htb => ?_
    obtain ⟨c2, oc, vs, t, e2, hoc, hd, hv⟩ := hrec
    cases e2
    have hsz : s.heap.objs.size ≤ h'.objs.size := Nat.le_trans hge (Nat.le_of_lt hlt)
    have nC : H c' = none := I.hok.fresh hge
    have I1 := inv_table (t' := tk) (more := #[rawInt pos.line, rawInt pos.col, .ref c']) (h' := h'.push (mObj (X.env.qual ++ "<lambda>") params body scope (cloFrom X.env.cells scope.names []) dV ((X.mg "__name__").getD .none) (.ref c') ctv)) I hP
      (fun b o hb e => Heap.get?_push_of_some _ (hx b o hb e)) (Heap.get?_push_of_some _ htb) hge ⟨oc, vs, t, Heap.get?_push_of_some _ hoc, hd, hv⟩
    have nT : ∀ b u, H b = some u → (∀ q, u ≠ .tbl q) → b ≠ P := fun b u e n z => by
      rw [z, hP] at e
      exact n ps (Option.some.inj e).symm
    have hE : ExtN H (upd (upd H P (.tbl (ps ++ #[rawInt pos.line, rawInt pos.col, .ref c']))) c' (CodeO c' (X.env.qual ++ "<lambda>"))) := fun b o e n => by
      rw [upd_ne (ne_of_none e nC), upd_ne (nT b o e n)]
      exact e
    refine h h'.objs.size c' _ ctv _ _ I1 hE (fun p hp => ?_) (Heap.get?_push_size _ rfl) ?_ (nofr _ hsz) upd_same
    · by_cases hb : p.1 = P
      · rw [hu p hp hb, hb]
        have eL : (ps ++ #[rawInt pos.line, rawInt pos.col, .ref c']).toList = ps.toList ++ [rawInt pos.line, rawInt pos.col, .ref c'] := by simp
        refine ⟨_, by rw [upd_ne (ne_of_none hP nC), upd_same], by rw [eL]; exact PySem.TriplesOk_snoc _ _ _ _ ht, fun p' cv z => ?_⟩
        rw [eL] at z
        rcases among_app _ ht z with z | z
        · obtain ⟨c0, e1, e2⟩ := ha p' cv z
          exact ⟨c0, e1, hE _ _ e2 codeO_ne⟩
        · exact ⟨c', z, upd_same⟩
      · obtain ⟨ps', a1, a2, a3⟩ := hT p hp
        refine ⟨ps', by rw [upd_ne (ne_of_none a1 nC), upd_ne hb]; exact a1, a2, fun p' cv z => ?_⟩
        obtain ⟨c0, e1, e2⟩ := a3 p' cv z
        exact ⟨c0, e1, hE _ _ e2 codeO_ne⟩
    · rw [upd_ne (show h'.objs.size ≠ c' from Nat.ne_of_gt hlt), upd_ne (show h'.objs.size ≠ P from Nat.ne_of_gt (Nat.lt_of_lt_of_le (Heap.lt_size hP') hsz))]
      exact I.hok.fresh hsz
/-- lambda a=i: body -/
theorem made1 {T : List (Addr × Str)} {c P : Addr} {params : Arguments} {body : Expr} {scope : Scope} {pos dp : Pos} {i : Int} {j : Nat} {E : Value → Shared → Prop} {Q : Value → Shared → Prop} (I : Inv X pins σ H s) (TB : TabB X.base X.mg c P) (hcode : X.env.code = .ref c)
    (hm : (P, X.env.qual ++ "<lambda>") ∈ T) (hu : ∀ p ∈ T, p.1 = P → p.2 = X.env.qual ++ "<lambda>") (hT : Tabs T H) (hdef : defaultsOf params X.env = ([eval (.Constant (.int i) j dp) X.env], [])) (hkw : params.kwonlyargs = []) (hfree : ∀ y ∈ scope.names, y.2 = .free → ∃ c, X.env.cells.lookup y.1 = some c)
    (h : ∀ (f c' dt : Addr) (pm ctv : Value) (H1 : Hp) (s' : Shared), Inv X pins σ H1 s' → ExtN H H1 → Tabs T H1 → H1 dt = some (.tup [.int i]) →
      s'.heap.get? f = some (mObj (X.env.qual ++ "<lambda>") params body scope (cloFrom X.env.cells scope.names []) (.ref dt) pm (.ref c') ctv) → H1 f = none → f ∉ frs X.stack → H1 c' = some (CodeO c' (X.env.qual ++ "<lambda>")) → Q (.ref f) s') :
    wpAny (model X.prog X.w) X.A (eval (.Lambda params body scope pos) X.env) Q E s := by
  rw [arm_eval_Lambda, hdef]
  show wpAny _ X.A (do
    let dv ← (do
      let v ← eval (.Constant (.int i) j dp) X.env
      return v :: (← holding [v] (evalAll [])))
    let kdv ← holding dv (evalAllOpt [])
    makeFunction "<lambda>" (X.env.qual ++ "<lambda>") params (.expr body) scope X.env dv kdv [] pos pos.line) Q E s
  refine wpAny_bind (wpAny_bind (wpAny_Constant_int (wpAny_bind (wpAny_holding (wpAny_pure (wpAny_pure (wpAny_bind (wpAny_holding (wpAny_pure ?_)))))))))
  rw [makeFunction_eq]
  simp only [hkw, List.zip_nil_right, List.zip_nil_left, List.filterMap_nil, List.isEmpty_nil, List.isEmpty_cons, if_true, Bool.false_eq_true, if_false, pure_bind]
  refine wpAny_bind (wpAny_newTextTuple ?_)
  have I0 : Inv X pins σ H { s with toks := s.toks + 1 } := I.tok _
  have nd : H s.heap.objs.size = none := I.hok.fresh (Nat.le_refl _)
  have I1 : Inv X pins σ (upd H s.heap.objs.size (.tup [.int i])) { s with heap := s.heap.push { cls := .type "tuple", data := .seq [Value.int i s.toks].toArray }, toks := s.toks + 1 } :=
    I0.laid (t' := s.toks + 1) (fun b u e => Heap.get?_push_of_some _ e) (Nat.le_refl _) ⟨by show 1 ≤ sizeLine; decide, [.int i s.toks], .cons ⟨_, rfl⟩ .nil, _, Heap.get?_push_size _ rfl, rfl, _, rfl⟩
  have e1 : ∀ b o, H b = some o → upd H s.heap.objs.size (.tup [.int i]) b = some o := fun b o e => by
    rw [upd_ne (ne_of_none e nd)]
    exact e
  exact made I1 TB hcode hm hu (hT.ext e1) hfree fun f c' pm ctv H1 s' J x1 x2 x3 x4 x5 x6 => h f c' s.heap.objs.size pm ctv H1 s' J ((ExtN.of e1).trans x1) x2 (x1 _ _ upd_same (fun _ z => nomatch z)) x3 x4 x5 x6
end
/-! ### the lambda's names -/
/-- one parameter a of its own, no name of the def's; captured names and globals -/
structure LamD (N : List Str) (sc scope : Scope) (a : Str) : Prop where
  kind : scope.kind = .function
  co : scope.isCoroutine = false
  gen : scope.isGenerator = false
  own : ∀ y ∈ scope.names, y.2 ≠ .cell ∧ (y.2 = .local → y.1 ∉ N)
  arg : scope.names.lookup a = some .local
  free : ∀ y ∈ scope.names, y.2 = .free → sc.names.lookup y.1 = some .cell ∨ sc.names.lookup y.1 = some .free
def lamDB (N : List Str) (sc scope : Scope) (a : Str) : Bool :=
  decide (scope.kind = .function) && (!scope.isCoroutine && (!scope.isGenerator && (decide (scope.names.lookup a = some .local) &&
    scope.names.all fun y => !decide (y.2 = .cell) && ((!decide (y.2 = .local) || !N.contains y.1) && (!decide (y.2 = .free) || (decide (sc.names.lookup y.1 = some .cell) || decide (sc.names.lookup y.1 = some .free)))))))
theorem lamD_by {N : List Str} {sc scope : Scope} {a : Str} (h : lamDB N sc scope a = true) : LamD N sc scope a := by
  unfold lamDB at h
  simp only [Bool.and_eq_true, Bool.or_eq_true, Bool.not_eq_true', decide_eq_true_eq, decide_eq_false_iff_not, List.all_eq_true] at h
  obtain ⟨h1, h2, h3, h4, h5⟩ := h
  refine ⟨h1, h2, h3, fun y hy => ⟨(h5 y hy).1, fun e => ?_⟩, h4, fun y hy e => ?_⟩
  · rcases (h5 y hy).2.1 with z | z
    · exact absurd e z
    · intro m
      rw [List.contains_iff_mem.mpr m] at z
      cases z
  · rcases (h5 y hy).2.2 with z | z
    · exact absurd e z
    · exact z
theorem LamD.has {X : Cx} {scope : Scope} {a : Str} (L : LamD X.N X.env.scope scope a) (ok : X.Ok) : ∀ y ∈ scope.names, y.2 = .free → ∃ c, X.env.cells.lookup y.1 = some c := fun y hy e => by
  rcases L.free y hy e with k | k
  · exact ok.has _ (.inl k)
  · exact ok.has _ (.inr k)
section
variable {X : Cx} {pins : List (Addr × Obj)} {σ : L2.St} {H HZ : Hp} {s s1 : Shared}
theorem start1 {A : Around} {outer : List Env} {E : XK} {scope : Scope} {f c' : Addr} {h₁ : Heap} {tk : Nat} {a : Str} {m : Str → Option Value} (I : Inv X pins σ H s) (L : LamD X.N X.env.scope scope a) (e0 : Env0 X.prog X.w X.K X.mg X.base A outer s1 HZ) (hd : A.handled = none)
    (un : Un (frs X.stack) [] H HZ s.heap s1.heap) (hns : h₁.Ns s1.heap.objs.size m) (kp : ∀ b o, s1.heap.get? b = some o → h₁.get? b = some o) :
    Inv (lamCx X A outer s1 HZ E scope f c') [] σ HZ { s1 with heap := h₁, toks := tk } := by
  have hfree := L.has I.ok
  have cm : ∀ {y c}, (cloFrom X.env.cells scope.names []).lookup y = some c → X.env.cells.lookup y = some c := fun {y c} e => by
    rcases cloFrom_mem (PySem.mem_of_lookup e) with z | ⟨h1, h2⟩
    · cases z
    · obtain ⟨c1, hc⟩ := hfree _ h1 rfl
      have hc : X.env.cells.lookup y = some c1 := hc
      rw [h2, hc] <;> rfl
  have look : ∀ {y}, scope.names.lookup y = some .free → ∃ c, (cloFrom X.env.cells scope.names []).lookup y = some c := fun {y} hl =>
    mem_lookup (cloFrom_has (cells := X.env.cells) (acc := []) (show (y, NameKind.free) ∈ scope.names from PySem.mem_of_lookup hl))
  have cellK : ∀ {c : Addr} {v : Option Value}, H c = none → s.heap.IsCell c v → h₁.IsCell c v := fun {c v} n ⟨o, ho, hd⟩ => by
    obtain ⟨sl, q⟩ := un.any ho n (by simp)
    exact ⟨_, kp _ _ q, hd⟩
  have noA : ∀ b : Addr, b ∉ (lamCx X A outer s1 HZ E scope f c').ex := fun b z => absurd (show b ∈ ([] : List Addr) from z) (by simp)
  refine ⟨⟨e0.mod, L.kind, rfl, rfl, Nat.le_refl _, fun y z c e1 e2 => I.ok.inj y z c (cm e1) (cm e2), fun y hy => ?_, fun y c z _ => Bool.noConfusion (show false = true from z), fun _ => hd, Around.frames_deeper e0.frames, .inr ⟨rfl, rfl⟩, fun b z => absurd z (noA b),
      e0.bs, e0.bsz, fun b _ _ => noA b, fun b z => absurd z (noA b), e0.funs, e0.frf⟩,
    rfl, e0.bare, Un.kept kp, ⟨_, hns, fun i y v e1 e2 e3 => ?_⟩, fun y c e => ?_, e0.hok.fresh (Nat.le_refl _), fun y c e => ?_, fun q hq => absurd (show q ∈ ([] : List (Addr × Obj)) ++ [] from hq) (by simp), e0.hok.kept kp, I.len⟩
  · rcases (show scope.names.lookup y = some .cell ∨ scope.names.lookup y = some .free from hy) with z | z
    · exact absurd rfl (L.own _ (PySem.mem_of_lookup z)).1
    · exact look z
  · rcases (show Vis scope y from e3) with k | k | k
    · exact absurd (List.mem_of_getElem? (show X.N[i]? = some y from e1)) ((L.own _ (PySem.mem_of_lookup k)).2 rfl)
    · exact absurd rfl (L.own _ (PySem.mem_of_lookup k)).1
    · obtain ⟨m, hn, hl⟩ := I.loc
      have hvis : Vis X.env.scope y := (L.free _ (PySem.mem_of_lookup k) rfl).elim (fun k => .inr (.inl k)) (fun k => .inr (.inr k))
      obtain ⟨w', r, q⟩ := hl i y v e1 e2 hvis
      obtain ⟨c2, h2⟩ := look k
      refine ⟨w', r, .inr ⟨.inr k, c2, h2, ?_⟩⟩
      have c1 := cm h2
      rcases q with ⟨k', _⟩ | ⟨_, c3, e', z⟩
      · have k' : X.env.scope.names.lookup y = some .local := k'
        rcases L.free _ (PySem.mem_of_lookup k) rfl with k2 | k2
        · rw [show X.env.scope.names.lookup y = _ from k2] at k'
          cases k'
        · rw [show X.env.scope.names.lookup y = _ from k2] at k'
          cases k'
      · rw [c1] at e'
        cases e'
        exact cellK (I.freeC y _ c1) z
  · obtain ⟨w', z⟩ := I.cell y c (cm e)
    exact ⟨w', cellK (I.freeC y c (cm e)) z⟩
  · obtain ⟨v, o, ho, hd⟩ := I.cell y c (cm e)
    exact un.free c o ho (I.freeC y c (cm e)) (by simp)
/-- x() in the def that got the lambda -/
theorem act1 {CXg : CXT} {Eg : XK} {Ng : List Str} {qg : Str} {sg : Scope} {g f c' dt : Addr} {cdg pm ctv : Value} {params : Arguments} {body : Expr} {scope : Scope} {k i : Nat} {a b : Str} {n : Int} {pn : List (Addr × Obj)} {xe : Value → Shared → Prop} {W : WX} {E : XK} {tb : TE} {p1 p2 : Pos}
    (I : Inv X pins σ H s) (L : LamD X.N X.env.scope scope b) (hf : s.heap.get? f = some (mObj (X.env.qual ++ "<lambda>") params body scope (cloFrom X.env.cells scope.names []) (.ref dt) pm (.ref c') ctv)) (hfn : H f = none) (hfr : f ∉ frs X.stack)
    (hbind : ∃ kk, bindArgs (mFn (X.env.qual ++ "<lambda>") params body scope (cloFrom X.env.cells scope.names []) (.ref dt) pm (.ref c') ctv) ⟨[], []⟩ = seqItems? (.ref dt) >>= kk ∧ ∀ v, kk (some #[v]) = pure [(b, v)])
    (tk : Takes ((cxOf CXg X.prog X.w X.K X.mg X.base Ng qg sg g cdg X.A X.stack s H Eg).tr pn xe) W) (hW : ∀ cls d σ' H', E cls d H' → W cls d σ' H') (hr : Room (k + 1) (X.A.deeper (envOfC qg sg s.heap.objs.size g cdg)))
    (hbody : ∀ (A : Around) (outer : List Env) (s : Shared) (H : Hp), Room k (A.deeper (lamEnv X scope s.heap.objs.size f c')) → PE (lamCx X A outer s H E scope f c') body tb)
    (hN : Ng[i]? = some a) (hv : Vis sg a) (hd : (a == ("__debug__" : Str)) = false := by decide) (hcd : (a == ("__classdict__" : Str)) = false := by decide) :
    PE ((cxOf CXg X.prog X.w X.K X.mg X.base Ng qg sg g cdg X.A X.stack s H Eg).tr pn xe) (.Call (.Name a p1) [] [] p2)
      (fun σZ HZ Q => σZ[i]? = some (some (.ref f)) ∧ HZ c' = some (CodeO c' (X.env.qual ++ "<lambda>")) ∧ (HZ dt = some (.tup [.int n]) ∧ tb σ HZ Q)) := by
  refine ⟨fun pinsZ sZ σZ HZ Q IZ h => ?_⟩
  obtain ⟨hs, hc, hdt, ht⟩ := h
  refine wpAny_Call_Name_kw (thn ((pe_var (pos := p1) (i := i) hN hv hd hcd).run pinsZ sZ σZ HZ (fun v H1 => v = .ref f ∧ H1 = HZ) IZ ⟨.ref f, hs, rfl, rfl⟩) fun u s1 ⟨v, H1, I1, r1, q1⟩ => ?_)
  obtain ⟨rfl, rfl⟩ := q1
  obtain rfl : u = Value.ref f := r1
  have of1 : s1.heap.get? f = some (mObj (X.env.qual ++ "<lambda>") params body scope (cloFrom X.env.cells scope.names []) (.ref dt) pm (.ref c') ctv) := I1.base.keep f _ hf hfn hfr (fun z => nomatch (show f ∈ ([] : List Addr) from z))
  refine PySem.W.callWith_F0 ⟨_, _, _, _, of1⟩ ?_
  have un : Un (frs X.stack) [] H H1 s.heap s1.heap := I1.base
  obtain ⟨⟨oc, vs, t, hoc, hdc, hvc⟩, _, _⟩ := I1.hok c' _ hc
  obtain ⟨_, its, rits, ob, hob, _, m0, hod⟩ := I1.hok dt _ hdt
  obtain ⟨w0, e0⟩ : ∃ w0, its = [w0] := by
    cases rits with
    | cons z1 z2 =>
      cases z2
      exact ⟨_, rfl⟩
  subst e0
  have rc : codeAny (model X.prog X.w) (X.A.deeper (envOfC qg sg s.heap.objs.size g cdg)) (.call (.ref f) ⟨[], []⟩) (CR (L2.CX X.prog X.w) (envOfC qg sg s.heap.objs.size g cdg :: X.stack) X.prog X.w H1 s1 Q E) s1 := by
    refine PySem.W.kla_callFunE hr.depth of1 rfl L.co L.gen rfl ⟨c', oc, vs, t, rfl, hoc, hdc, hvc⟩ ?_
    obtain ⟨kk, eb, ek⟩ := hbind
    rw [eb]
    refine wpAny_bind (wpAny_seqItems hob hod ?_)
    rw [show kk (some [w0].toArray) = pure [(b, w0)] from ek w0]
    refine wpAny_pure (wpAny_newFunctionEnv (fun y hy => (L.own y hy).1) (fun y hy => by rw [List.mem_singleton.mp hy]; exact L.arg) (fun h₁ hns hsb => ⟨I1.nolimit.fresh _ hsb, ?_⟩) L.kind)
    show codeAny _ _ (.expr body (lamEnv X scope s1.heap.objs.size f c')) _ _
    have kp : ∀ b o, s1.heap.get? b = some o → h₁.get? b = some o := fun b o e => hsb.extBut b o (Nat.ne_of_lt (Heap.lt_size e)) (Heap.get?_push_of_some _ e)
    have J : Inv (lamCx X (X.A.deeper (envOfC qg sg s.heap.objs.size g cdg)) (envOfC qg sg s.heap.objs.size g cdg :: X.stack) s1 H1 E scope f c') [] σ H1 { s1 with heap := h₁, toks := s1.toks + [(b, w0)].length } :=
      start1 I L I1.env0 hr.hd un hns kp
    refine PySem.W.kla_codeExpr (wpAny_mono ((hbody _ _ s1 H1 (hr.deeper _)).run [] _ _ H1 Q J ht) (fun v s' hq => ?_) fun e s' hq => hq)
    obtain ⟨w', H', J', rv, q⟩ := hq
    exact ⟨w', H', J'.os, J'.bare, J'.base, J'.hok, rv, q⟩
  have hx : Passes (L2.CX X.prog X.w) ((cxOf CXg X.prog X.w X.K X.mg X.base Ng qg sg g cdg X.A X.stack s H Eg).tr pn xe) E := passes_call tk hW
  refine wpAny_call (codeAny_mono rc fun r s' hq => ?_)
  cases r with
  | error e => exact hx pinsZ σZ H1 s1 e s' I1 hq
  | ok fl =>
    cases fl with
    | ret u => exact I1.after hq
    | next => exact False.elim hq
    | brk => exact False.elim hq
    | cont => exact False.elim hq
end
section
variable {X : Cx}
/-- x(lambda a=i: body) -/
theorem pe_lamcall1 {T : List (Addr × Str)} {TT : (XK → Hp → VK → Prop) → Hp → VK → Prop} {x a b : Str} {g c P : Addr} {k : Nat} {pg : Arguments} {bg : List Stmt} {sg : Scope} {dV kV doc pm cdv ct oc : Value} {an od : Option Addr} {osl : Array (Option Value)} {Ng : List Str}
    {params : Arguments} {body : Expr} {scope : Scope} {t : XK → TE} {p lpos pos dp : Pos} {n : Int} {j : Nat} (hg : Gl X x) (hm : X.mg x = some (.ref g)) (hk : PySem.W.keepIn X.K (.ref g) = true)
    (lk : X.K.lookup g = some ⟨oc, od, .func (PySem.W.fnOf x x pg bg sg dV kV doc pm an cdv ct), osl⟩) (hcg : PySem.W.codeIn X.K cdv x = true) (hb : L2.Binds X.K (PySem.W.fnOf x x pg bg sg dV kV doc pm an cdv ct) [a] []) (Sg : FnScope Ng [a] sg) (hNg : Ng[0]? = some a) (hva : Vis sg a)
    (hG : GivesTo X Ng x sg g cdv bg a (X.env.qual ++ "<lambda>") TT)
    (TB : TabB X.base X.mg c P) (hcode : X.env.code = .ref c) (hmT : (P, X.env.qual ++ "<lambda>") ∈ T) (hu : ∀ p ∈ T, p.1 = P → p.2 = X.env.qual ++ "<lambda>") (hr : Room (k + 2) X.A) (L : LamD X.N X.env.scope scope b)
    (hdef : defaultsOf params X.env = ([eval (.Constant (.int n) j dp) X.env], [])) (hkw : params.kwonlyargs = [])
    (hbind : ∀ (q : Str) (cl : List (Str × Addr)) (dt : Addr) (pm cv ctv : Value), ∃ kk, bindArgs (mFn q params body scope cl (.ref dt) pm cv ctv) ⟨[], []⟩ = seqItems? (.ref dt) >>= kk ∧ ∀ v, kk (some #[v]) = pure [(b, v)])
    (hbody : ∀ (A : Around) (outer : List Env) (s : Shared) (H : Hp) (E : XK) (f c' : Addr), Room k (A.deeper (lamEnv X scope s.heap.objs.size f c')) → PE (lamCx X A outer s H E scope f c') body (t E))
    (hdb : (x == ("__debug__" : Str)) = false := by decide) (hd : (a == ("__debug__" : Str)) = false := by decide) (hcd : (a == ("__classdict__" : Str)) = false := by decide) :
    PE X (.Call (.Name x p) [.Lambda params body scope lpos] [] pos) (fun σ H Q => Tabs T H ∧ ∀ H1 dt, ExtN H H1 → Tabs T H1 → H1 dt = some (.tup [.int n]) → TT (fun E H' Q' => H' dt = some (.tup [.int n]) ∧ t E σ H' Q') H1 Q) := by
  refine ⟨fun pins s σ H Q I h => ?_⟩
  obtain ⟨hT, h⟩ := h
  refine wpAny_Call_Name_kw (ld_glob I hg hm ?_ hdb)
  refine PySem.W.callWith_K (h₀ := X.base) I.ok.mod.kin hk ?_ (by rfl) (by rfl)
  show wpAny _ _ (spliced ((false, eval (.Lambda params body scope lpos) X.env) :: backTo pos (starEach [] X.env))) _ _ s
  refine Calls.spliced_cons (made1 I TB hcode hmT hu hT hdef hkw (L.has I.ok) fun f c' dt pm' ctv H1 s' I1 eN T1 et hf hfn hfr hco => ?_)
  refine Calls.spliced_nil ⟨I1.kIn, ?_⟩
  have rc : codeAny (model X.prog X.w) X.A (.call (.ref g) ⟨[.ref f], []⟩) (CR C8.CX0 X.stack X.prog X.w H1 s' Q C8.E0) s' := by
    refine run_ofS (N := Ng) (ps := [a]) (us := [.ref f]) (vs := [.ref f]) lk hcg Sg hr I1.env0 (hb s' [.ref f] I1.kIn rfl) (.cons rfl .nil) rfl fun hr' => ?_
    obtain ⟨t', ht', hq'⟩ := hG f c' s' H1 Q (fun E H' Q' => H' dt = some (.tup [.int n]) ∧ t E σ H' Q')
      (fun W pn xe E p1 p2 tk hW => act1 (i := 0) I1 L hf hfn hfr (hbind _ _ _ _ _ _) tk hW hr' (fun A outer s H hr2 => hbody A outer s H E f c' hr2) hNg hva hd hcd) hco (h H1 dt eN T1 et)
    exact ⟨t', ht'.nox, hq'⟩
  refine wpAny_call (codeAny_mono rc fun r s2 hq => ?_)
  cases r with
  | error e => exact (show False from hq).elim
  | ok fl =>
    cases fl with
    | ret u => exact I1.after hq
    | next => exact False.elim hq
    | brk => exact False.elim hq
    | cont => exact False.elim hq
end
end LcM
set_option Elab.async false
set_option linter.all false
set_option maxRecDepth 100000
set_option maxHeartbeats 4000000
namespace Lc
open PySem PySem.Spec PyProof.Rows L2 LcR LamX
theorem takes_len {X : Cx} {W : WX} (t : Takes X W) : Takes X (fun c d σ H => σ.length = X.N.length → W c d σ H) := fun u s' ⟨a, B, sI, pins, σ, H, cls, d, e, I, nb, up, sky, na, os, ag, w⟩ =>
  t u s' ⟨a, B, sI, pins, σ, H, cls, d, e, I, nb, up, sky, na, os, ag, w I.len⟩
/-- what _law_heard tells of an error -/
def Heard (K : PySem.W.Frag) (cls : Value) (d : Option Addr) (H : Hp) (Q : VK) : Prop := ∃ (D dd : Addr) (z r : Str), cls = .ref D ∧ d = some dd ∧ H dd = some (.xd [(("part" : Str), .str z)]) ∧
  ((D = CBadHouse K ∧ r = "house") ∨ (D = CBadGoal K ∧ r = "goal") ∨ (D = CBadPlan K ∧ r = z)) ∧ ∀ H', Same H H' → Q (.str r) H'
/-- what _law_heard makes of the reading of what it calls -/
def TH (K : PySem.W.Frag) : (XK → Hp → VK → Prop) → Hp → VK → Prop := fun tl H Q => ∀ Q' : VK, (∀ v H1, Q .non H1 → Q' v H1) → tl (fun cls d H' => Heard K cls d H' Q) H Q'
theorem heard_gives {X : Cx} {g : Addr} {cdg : Value} {q : Str} (T : Tx X.K X.mg) : GivesTo X N_law_heard "_law_heard" (defScope s_law_heard) g cdg (defBody s_law_heard) "ask" q (TH X.K) := by
  intro f c' s H Q tl act hc h
  refine ⟨_, pss_cons (ps_set (i := 1) sc_law_heard.nd rfl (Or.inl rfl) pe_non)
    (pss_cons (LcC.ps_catch3 (X := (cxOf C8.CX0 X.prog X.w X.K X.mg X.base N_law_heard "_law_heard" (defScope s_law_heard) g cdg X.A X.stack s H C8.E0).nox) (i := 2)
      (tb := fun W D σ H => ∃ Ech : XK, (∀ cls d σ' H', σ'.length = 3 → Ech cls d H' → W cls d σ' H') ∧ σ[0]? = some (some (.ref f)) ∧ H c' = some (CodeO c' q) ∧ tl Ech H fun _ H1 => D.nx σ H1)
      rfl rfl rfl sc_law_heard.nd rfl (by rfl) (by rfl) T.g_BadGoal (by rfl) T.g_BadHouse (by rfl) T.g_BadPlan (fun W pn xe tk _ => ?_) (fun a oe cls d pn _ _ => pss_one (ps_set (i := 1) sc_law_heard.nd rfl (Or.inl rfl) (pv 2))))
    (pss_cons (ps_if (pt_cmp (pc_isN (pv 1))) (pss_one (ps_ret pe_non)) pss_nil)
    (pss_one (ps_ret (pe_ifExp (pt_val (pe_callB LcC.call_isC (by rfl) T.b_isinstance (by decide +kernel) (pa_cons (pv 1) (pa_cons (pe_glob (v := .ref (CBadHouse X.K)) (by rfl) T.g_BadHouse rfl) pa_nil)))) pe_str
      (pe_ifExp (pt_val (pe_callB LcC.call_isC (by rfl) T.b_isinstance (by decide +kernel) (pa_cons (pv 1) (pa_cons (pe_glob (v := .ref (CBadGoal X.K)) (by rfl) T.g_BadGoal rfl) pa_nil)))) pe_str (LcC.pe_xc (pv 1)))))))), ?_⟩
  · refine ⟨fun pins s' σ H' D I h' => ?_⟩
    obtain ⟨Ech, hW, h1, h2, h3⟩ := h'
    exact PSs.run (pss_one (ps_expr (act _ pn xe Ech _ _ (takes_len tk) (fun cls d σ' H' e l => hW cls d σ' H' l e)))) pins s' σ H' D I ⟨h1, h2, h3⟩
  refine ⟨fun cls d H' => Heard X.K cls d H' Q, fun cls d σ' H' hl hh => ?_, rfl, hc, ?_⟩
  · obtain ⟨D, dd, z, r, rfl, rfl, ed, hr, k⟩ := hh
    match σ', hl with
    | [y0, y1, y2], _ =>
      have hm : PySem.W.exmAny X.K (.ref D) [.ref (CBadGoal X.K), .ref (CBadHouse X.K), .ref (CBadPlan X.K)] = some true := by
        rcases hr with ⟨rfl, _⟩ | ⟨rfl, _⟩ | ⟨rfl, _⟩
        · exact T.em_BadHouse
        · exact T.em_BadGoal
        · exact T.em_BadPlan
      refine ⟨hm, fun a ha => ⟨_, rfl, fun ha' => ?_⟩⟩
      have s1 : Same H' (upd H' a (LcC.ErrO a (.ref D) (some dd))) := same_upd ha
      refine ⟨_, rfl, false, rfl, iteF ?_⟩
      have ea : upd H' a (LcC.ErrO a (.ref D) (some dd)) a = some (LcC.ErrO a (.ref D) (some dd)) := upd_same
      have ed1 := s1 _ _ ed
      rcases hr with ⟨rfl, rfl⟩ | ⟨rfl, rfl⟩ | ⟨rfl, rfl⟩
      · exact ⟨_, rfl, a, CBadHouse X.K, dd, _, _, .ref (CBadHouse X.K), true, rfl, ea, ed1, fun _ e => e, T.ec_BadHouse, T.ke_BadHouse_BadHouse, true, rfl, iteT (k _ s1)⟩
      · refine ⟨_, rfl, a, CBadGoal X.K, dd, _, _, .ref (CBadHouse X.K), false, rfl, ea, ed1, fun _ e => e, T.ec_BadGoal, T.ke_BadGoal_BadHouse, false, rfl, iteF ?_⟩
        exact ⟨_, rfl, a, CBadGoal X.K, dd, _, _, .ref (CBadGoal X.K), true, rfl, ea, ed1, fun _ e => e, T.ec_BadGoal, T.ke_BadGoal_BadGoal, true, rfl, iteT (k _ s1)⟩
      · refine ⟨_, rfl, a, CBadPlan X.K, dd, _, _, .ref (CBadHouse X.K), false, rfl, ea, ed1, fun _ e => e, T.ec_BadPlan, T.ke_BadPlan_BadHouse, false, rfl, iteF ?_⟩
        refine ⟨_, rfl, a, CBadPlan X.K, dd, _, _, .ref (CBadGoal X.K), false, rfl, ea, ed1, fun _ e => e, T.ec_BadPlan, T.ke_BadPlan_BadGoal, false, rfl, iteF ?_⟩
        exact ⟨_, rfl, a, CBadPlan X.K, dd, _, _, rfl, ⟨T.xf_BadPlan, T.np_BadPlan⟩, ea, ed1, rfl, k _ s1⟩
  · exact h _ fun v H1 hq => ⟨_, rfl, true, rfl, iteT hq⟩
end Lc
set_option Elab.async false
set_option linter.all false
set_option maxRecDepth 100000
set_option maxHeartbeats 4000000
namespace Lc
open PySem PySem.Spec PyProof.Rows L2 LcR
/-- what is no lot -/
def BadL (H : Hp) (u : V) : Prop := u = .non ∨ (∃ a xs, u = .ref a ∧ H a = some (.lst xs)) ∨ ∃ a, u = .ref a ∧ H a = some (.tup [.int 0, .int 0])
section
variable {P : Program} {w : World} {K : PySem.W.Frag} {mg : Str → Option Value} {base : Heap}
def sp_is_lotX (K : PySem.W.Frag) : Sp := fun vs H Q _ => ∃ u, vs = [u] ∧ BadL H u ∧ ∀ H', Same H H' → Q (.bl false) H'
theorem c_is_lotX (T : Tx K mg) : C8.Cal P w K mg base 2 "is_lot" (sp_is_lotX K) [] := by
  obtain ⟨fd, F⟩ := T.f_is_lot
  refine calD F T.g_is_lot sc_is_lot (fun _ _ _ _ _ _ us hl => match us, hl with | [_], _ => rfl) (fun vs H Q E h => ?_) (fun cdv A outer s H vs Q E hr h => ?_)
  · obtain ⟨_, rfl, _⟩ := h; rfl
  obtain ⟨u, rfl, hb, k⟩ := h
  refine ⟨_, (pss_cons (ps_if (PW.pt (pw_or (pt_not (pt_val (pe_callB call_isi (by rfl) T.b_isinstance (by decide +kernel) (pa_cons (pv 0) (pa_cons (pe_bltn (v := .ty "tuple") (by rfl) T.b_tuple (by decide +kernel) rfl) pa_nil))))) (pw_or1 (pt_not (pt_val (pe_callB (cr_all rfl) (by rfl) T.b_all (by decide +kernel) (pa_cons (pe_lc (own := [("step", 1)]) (g := gName 1) (by rfl) sc_is_lot.nd (pi_tup (pv 0)) (blkOk_by (own := [("step", 1)]) (N := N_is_lot) (sc := defScope s_is_lot) (by decide +kernel)) (fun _ _ _ _ _ => (pg_name (i := 1) sc_is_lot.nd rfl (Or.inl rfl))) (fun _ _ _ _ _ => pts_nil) (fun _ _ _ _ _ => (pe_and (C8.pe_c (c_is_integer T) hr (by decide) (by rfl) (pa_cons (pv 1) pa_nil)) (pe_one (pe_cmpR op_ge (pv 1) pe_int (nomark _)))))) pa_nil))))))) (pss_one (ps_ret pe_bl)) pss_nil)
      (pss_one (ps_ret (pe_callB (cr_all rfl) (by rfl) T.b_all (by decide +kernel) (pa_cons (pe_lc (own := [("step", 1), ("later", 2)]) (g := gTup K 2 (gCons (gName 1) (gCons (gName 2) (gNil)))) (by rfl) sc_is_lot.nd (RZ.pi_zipA (by rfl) T.b_zip (pa_cons (pv 0) (pa_cons (pe_slice sl_tupA (pv 0) (po_some pe_int) po_none) pa_nil))) (blkOk_by (own := [("step", 1), ("later", 2)]) (N := N_is_lot) (sc := defScope s_is_lot) (by decide +kernel)) (fun _ _ _ _ _ => (pg_tup rfl (pgs_cons (pg_name (i := 1) sc_is_lot.nd rfl (Or.inl rfl)) (pgs_cons (pg_name (i := 2) sc_is_lot.nd rfl (Or.inl rfl)) pgs_nil)))) (fun _ _ _ _ _ => pts_nil) (fun _ _ _ _ _ => (pe_cmpR op_lt (pv 1) (pv 2) (nomark _)))) pa_nil))))), ?_⟩
  rcases hb with rfl | ⟨a, xs, rfl, e1⟩ | ⟨a, rfl, e1⟩
  · exact ⟨_, rfl, _, _, _, _, false, rfl, .ty _, .base .non, kit_ty (r := false) (by decide +kernel), false, rfl, iteT (k _ (Same.refl _))⟩
  · exact ⟨_, rfl, _, _, _, _, false, rfl, .ty _, .base (.lst e1), kit_ty (r := false) (by decide +kernel), false, rfl, iteT (k _ (Same.refl _))⟩
  have S1 : SqT K H a [.int 0, .int 0] := .inl (.inl e1)
  have two : ∀ (i : Nat) (x : V), [V.int 0, .int 0][i]? = some x → x = .int 0 := fun i x h => by
    match i, h with
    | 0, h => cases h; rfl
    | 1, h => cases h; rfl
    | i + 2, h => simp at h
  refine ⟨_, rfl, _, _, _, _, true, rfl, .ty _, .base (.tup e1), kit_ty (by decide +kernel), true, rfl, iteF ?_⟩
  refine ⟨_, rfl, a, rfl, ⟨_, S1⟩, fun D hD => ?_⟩
  refine lcm walk_tup hD (by show 2 ≤ sizeLine; decide) (fun _ => true) (fun _ y _ => y = .bl true) (fun _ _ _ _ _ h => h) (fun H' s => same_seqT s S1) (fun i x H1 H' kN kY hi s y kn ky => ?_) (fun H1 ys s e kp => ?_)
  · obtain ⟨rfl, hx⟩ := y
    obtain rfl := two i x hx
    exact ⟨rfl, iteT (B := kN H') ⟨_, rfl, _, rfl, true, rfl, iteT ⟨_, rfl, _, _, rfl, rfl, ky _ _ (Same.refl _) rfl rfl⟩⟩⟩
  obtain ⟨l1, l2⟩ := kp.all
  have e3 := map_bl_all (H := H1) l1 l2
  refine ⟨D, List.replicate _ true, rfl, .inl (.inl (by rw [← e3]; exact e)), true, ?_, iteF ?_⟩
  · rw [all_true]
  refine ⟨_, rfl, _, rfl, 1, rfl, a, _, rfl, same_seqT s S1, fun z => absurd z.1 (by show ¬ (HT.sIx 2 0 (some 1) = 0); decide), fun _ p hp => ?_⟩
  rw [cut1]
  have s2 : Same H (upd H1 p (.tup [.int 0])) := s.trans (same_upd hp)
  refine ⟨a, p, _, [.int 0], rfl, .inr ⟨same_seqT s2 S1, .inl (.inl upd_same), fun D2 hD2 => ?_⟩⟩
  refine lcm (walk_zipT (n := 1) rfl) hD2 (by show 1 ≤ sizeLine; decide) (fun _ => true) (fun _ y _ => y = .bl false) (fun _ _ _ _ _ h => h) (fun H' s => ⟨same_seqT (s2.trans s) S1, .inl (.inl (s _ _ upd_same))⟩) (fun i x H3 H' kN kY hi s y kn ky => ?_) (fun H3 ys s3 e kp => ?_)
  · obtain ⟨Tp, x1, y1, rfl, hT, rfl, hx, hy⟩ := y
    obtain rfl := two i x1 hx
    have hi : i < 1 := hi
    have i0 : i = 0 := by omega
    subst i0
    cases hy
    exact ⟨_, _, rfl, .inl (.inl upd_same), rfl, _, _, rfl, _, _, rfl, rfl, rfl, iteT (B := kN (upd H3 Tp (.tup [.int 0, .int 0]))) ⟨_, rfl, _, rfl, _, _, rfl, rfl, ky _ _ (same_upd hT) rfl rfl⟩⟩
  obtain ⟨l1, l2⟩ := kp.all
  have e4 : ys = [false].map V.bl := by
    cases ys with
    | nil => simp at l1
    | cons y r =>
      cases r with
      | nil => rw [l2 0 y rfl]; rfl
      | cons z q => simp at l1
  refine ⟨D2, [false], rfl, .inl (.inl (by rw [← e4]; exact e)), ?_⟩
  exact k _ (s2.trans s3)
end
end Lc
set_option Elab.async false
set_option linter.all false
set_option maxRecDepth 100000
set_option maxHeartbeats 4000000
namespace Lc
open PySem PySem.Spec PyProof.Rows L2 LcR
/-- what is no goal of a house of n states -/
def BadG (n : Nat) (H : Hp) (u : V) : Prop := BadL H u ∨ ∃ a, u = .ref a ∧ H a = some (.tup [.int (n : Int)])
section
variable {P : Program} {w : World} {K : PySem.W.Frag} {mg : Str → Option Value} {base : Heap}
def sp_need_goalX (K : PySem.W.Frag) : Sp := fun vs H _ E => ∃ (v : V) (n : Nat) (l : List ActD) (u : V), vs = [v, u] ∧ HouseV K H v n l ∧ BadG n H u ∧ ErrOut (CBadGoal K) "goal" H E
theorem ErrOut.s {C : Addr} {z : Str} {H H1 : Hp} {E : XK} (k : ErrOut C z H E) (s : Same H H1) : ErrOut C z H1 E := fun d H' s' hd e => k d H' (s.trans s') (none_back s hd) e
theorem ok_need_goalX (T : Tx K mg) {f : Addr} {fd : FuncData} (F : FunD K "need_goal" "need_goal" (defArgs s_need_goal) (defBody s_need_goal) (defScope s_need_goal) [] [] f fd) : FnOk P w K mg base (L2.CX P w) 4 f fd P_need_goal (sp_need_goalX K) := by
  obtain ⟨fi, FI⟩ := T.f_BadGoal_init
  refine F.ok (CX := L2.CX P w) sc_need_goal (fun vs H Q E h => ?_) (fun cdv A outer s H vs Q E hr h => ?_)
  · obtain ⟨_, _, _, _, rfl, _⟩ := h; rfl
  obtain ⟨v, n, l, u, rfl, hv, hb, k⟩ := h
  rcases hb with hb | ⟨a, rfl, ea⟩
  · refine ⟨_, (pss_cons (ps_expr (C8.pe_c (c_need_house T) hr (by decide) (by rfl) (pa_cons (pv 0) pa_nil)))
      (pss_one (ps_if (PW.pt (pw_or (pt_not (pt_val (C8.pe_c (c_is_lotX T) hr (by decide) (by rfl) (pa_cons (pv 1) pa_nil)))) (pw_or1 (pt_not (pt_val (pe_callB (cr_all rfl) (by rfl) T.b_all (by decide +kernel) (pa_cons (pe_lc (own := [("state", 2)]) (g := gName 2) (te := (tOp (rI0 fun i j => .bl (decide (i < j))) (tVar 2) (tFld K (tVar 0) "states"))) (by rfl) sc_need_goal.nd (pi_tup (pv 1)) (blkOk_by (own := [("state", 2)]) (N := N_need_goal) (sc := defScope s_need_goal) (by decide +kernel)) (fun _ _ _ _ _ => (pg_name (i := 2) sc_need_goal.nd rfl (Or.inl rfl))) (fun _ _ _ _ _ => pts_nil) (fun _ _ _ _ _ => (pe_cmpR op_lt (pv 2) (pe_fld (pv 0) rfl) (nomark _)))) pa_nil)))))))
        (pss_one (ps_raise rfl (takes_of rfl rfl rfl rfl) (pmk_oex T.oex_BadGoal T.in_BadGoal T.it_BadGoal (ok_BadGoal_init T FI) (hr.mono (by decide)) (FI.bindsN (fun _ _ _ _ _ _ us hl => match us, hl with | [_, _], _ => rfl)) .nil C8.pass0 (by rfl) T.g_BadGoal (pa_cons pe_str pa_nil)))) pss_nil))), ?_⟩
    refine ⟨_, rfl, v, n, l, rfl, hv, ?_⟩
    refine ⟨_, rfl, u, rfl, hb, fun H1 s1 => ⟨false, rfl, iteT ?_⟩⟩
    exact iteT (mk_exc T.oex_BadGoal T.np_BadGoal (k.s s1))
  · refine ⟨_, (pss_cons (ps_expr (C8.pe_c (c_need_house T) hr (by decide) (by rfl) (pa_cons (pv 0) pa_nil)))
      (pss_one (ps_if (PW.pt (pw_or (pt_not (pt_val (C8.pe_c (c_is_lot T) hr (by decide) (by rfl) (pa_cons (pv 1) pa_nil)))) (pw_or1 (pt_not (pt_val (pe_callB (cr_all rfl) (by rfl) T.b_all (by decide +kernel) (pa_cons (pe_lc (own := [("state", 2)]) (g := gName 2) (te := (tOp (rI0 fun i j => .bl (decide (i < j))) (tVar 2) (tFld K (tVar 0) "states"))) (by rfl) sc_need_goal.nd (pi_tup (pv 1)) (blkOk_by (own := [("state", 2)]) (N := N_need_goal) (sc := defScope s_need_goal) (by decide +kernel)) (fun _ _ _ _ _ => (pg_name (i := 2) sc_need_goal.nd rfl (Or.inl rfl))) (fun _ _ _ _ _ => pts_nil) (fun _ _ _ _ _ => (pe_cmpR op_lt (pv 2) (pe_fld (pv 0) rfl) (nomark _)))) pa_nil)))))))
        (pss_one (ps_raise rfl (takes_of rfl rfl rfl rfl) (pmk_oex T.oex_BadGoal T.in_BadGoal T.it_BadGoal (ok_BadGoal_init T FI) (hr.mono (by decide)) (FI.bindsN (fun _ _ _ _ _ _ us hl => match us, hl with | [_, _], _ => rfl)) .nil C8.pass0 (by rfl) T.g_BadGoal (pa_cons pe_str pa_nil)))) pss_nil))), ?_⟩
    obtain ⟨x, dx, m, va, vs, lk, vo, rfl, e, h1, h2, h3⟩ := id hv
    have S1 : SqT K H a ([n].map fun n : Nat => V.int (n : Int)) := .inl (.inl ea)
    refine ⟨_, rfl, .ref x, n, l, rfl, hv, ?_⟩
    refine ⟨_, rfl, .ref a, [n], rfl, ⟨a, rfl, ea⟩, fun i y z hy hz => by (have := (List.getElem?_eq_some_iff.mp hz).1; simp at this), by show 1 ≤ 200; decide, fun H1 s1 => ⟨true, rfl, iteF ?_⟩⟩
    refine ⟨_, rfl, a, rfl, ⟨_, same_seqT s1 S1⟩, fun D hD => ?_⟩
    refine lcm walk_tup hD (by show 1 ≤ sizeLine; decide) (fun _ => true) (fun _ y _ => y = V.bl false) (fun _ _ _ _ _ h => h) (fun H' s => same_seqT (s1.trans s) S1) (fun i z H5 H' kN kY hi s y kn ky => ?_) (fun H' ys s e kp => ?_)
    · obtain ⟨rfl, hx⟩ := y
      have i0 : i = 0 := by have h : i < 1 := hi; omega
      subst i0
      cases hx
      refine ⟨rfl, yes ⟨_, rfl, _, rfl, x, _, dx, _, _, rfl, (s1.trans s) _ _ e, T.cl_House, T.na_House_states, rfl, _, _, rfl, rfl, ?_⟩⟩
      exact ky _ _ (Same.refl _) rfl (congrArg V.bl (decide_eq_false (by omega)))
    obtain ⟨l1, l2⟩ := kp.all
    have e4 : ys = [false].map V.bl := by
      cases ys with
      | nil => simp at l1
      | cons y r =>
        cases r with
        | nil => rw [l2 0 y rfl]; rfl
        | cons z q => simp at l1
    refine ⟨D, [false], rfl, .inl (.inl (by rw [← e4]; exact e)), false, rfl, iteT ?_⟩
    exact mk_exc T.oex_BadGoal T.np_BadGoal (k.s (s1.trans s))
/-- need_goal of a list for a house -/
def sp_need_goalH (K : PySem.W.Frag) : Sp := fun vs H _ E => ∃ (a : Addr) (xs : List V) (u : V), vs = [.ref a, u] ∧ H a = some (.lst xs) ∧ ErrOut (CBadHouse K) "house" H E
theorem ok_need_goalH (T : Tx K mg) {f : Addr} {fd : FuncData} (F : FunD K "need_goal" "need_goal" (defArgs s_need_goal) (defBody s_need_goal) (defScope s_need_goal) [] [] f fd) : FnOk P w K mg base (L2.CX P w) 4 f fd P_need_goal (sp_need_goalH K) := by
  obtain ⟨fi, FI⟩ := T.f_BadGoal_init
  obtain ⟨fh, FH⟩ := T.f_need_house
  refine F.ok (CX := L2.CX P w) sc_need_goal (fun vs H Q E h => ?_) (fun cdv A outer s H vs Q E hr h => ?_)
  · obtain ⟨_, _, _, rfl, _⟩ := h; rfl
  obtain ⟨a, xs, u, rfl, ea, k⟩ := h
  refine Exists.intro _ (And.intro (pss_cons (ps_expr (L2.pe_callS (ok_need_houseX T FH) hr (by rfl) T.g_need_house FH.kp (FH.bindsN (fun _ _ _ _ _ _ us hl => match us, hl with | [_], _ => rfl)) (E := WE (fun cls d _ H => E cls d H)) (fun σ => L2.passAt (W := fun cls d _ H => E cls d H) (takes_of rfl rfl rfl rfl) σ) (by exact (pa_cons (pv 0) pa_nil))))
      (pss_one (ps_if (PW.pt (pw_or (pt_not (pt_val (C8.pe_c (c_is_lot T) hr (by decide) (by rfl) (pa_cons (pv 1) pa_nil)))) (pw_or1 (pt_not (pt_val (pe_callB (cr_all rfl) (by rfl) T.b_all (by decide +kernel) (pa_cons (pe_lc (own := [("state", 2)]) (g := gName 2) (te := (tOp (rI0 fun i j => .bl (decide (i < j))) (tVar 2) (tFld K (tVar 0) "states"))) (by rfl) sc_need_goal.nd (pi_tup (pv 1)) (blkOk_by (own := [("state", 2)]) (N := N_need_goal) (sc := defScope s_need_goal) (by decide +kernel)) (fun _ _ _ _ _ => (pg_name (i := 2) sc_need_goal.nd rfl (Or.inl rfl))) (fun _ _ _ _ _ => pts_nil) (fun _ _ _ _ _ => (pe_cmpR op_lt (pv 2) (pe_fld (pv 0) rfl) (nomark _)))) pa_nil)))))))
        (pss_one (ps_raise rfl (takes_of rfl rfl rfl rfl) (pmk_oex T.oex_BadGoal T.in_BadGoal T.it_BadGoal (ok_BadGoal_init T FI) (hr.mono (by decide)) (FI.bindsN (fun _ _ _ _ _ _ us hl => match us, hl with | [_, _], _ => rfl)) .nil C8.pass0 (by rfl) T.g_BadGoal (pa_cons pe_str pa_nil)))) pss_nil))) ?_)
  exact ⟨_, rfl, a, xs, rfl, ea, k⟩
end
end Lc
set_option Elab.async false
set_option linter.all false
set_option maxRecDepth 100000
set_option maxHeartbeats 4000000
namespace Lc
open PySem PySem.Spec PyProof.Rows L2 LcR
section
variable {P : Program} {w : World} {K : PySem.W.Frag} {mg : Str → Option Value} {base : Heap}
def sp_chance_byH (K : PySem.W.Frag) : Sp := fun vs H _ E => ∃ (a : Addr) (xs : List V) (u y : V), vs = [.ref a, u, y] ∧ H a = some (.lst xs) ∧ ErrOut (CBadHouse K) "house" H E
theorem ok_chance_byH (T : Tx K mg) {f : Addr} {fd : FuncData} (F : FunD K "chance_by" "chance_by" (defArgs s_chance_by) (defBody s_chance_by) (defScope s_chance_by) [] [] f fd) : FnOk P w K mg base (L2.CX P w) 9 f fd P_chance_by (sp_chance_byH K) := by
  obtain ⟨fg, FG⟩ := T.f_need_goal
  refine F.ok (CX := L2.CX P w) sc_chance_by (fun vs H Q E h => ?_) (fun cdv A outer s H vs Q E hr h => ?_)
  · obtain ⟨_, _, _, _, rfl, _⟩ := h; rfl
  obtain ⟨a, xs, u, y, rfl, ea, k⟩ := h
  refine ⟨_, (pss_cons (ps_expr (L2.pe_callS (ok_need_goalH T FG) (hr.mono (by decide)) (by rfl) T.g_need_goal FG.kp (FG.bindsN (fun _ _ _ _ _ _ us hl => match us, hl with | [_, _], _ => rfl)) (E := WE (fun cls d _ H => E cls d H)) (fun σ => L2.passAt (W := fun cls d _ H => E cls d H) (takes_of rfl rfl rfl rfl) σ) (by exact (pa_cons (pv 0) (pa_cons (pv 1) pa_nil)))))
      (pss_cons (ps_if (PW.pt (pw_or (pt_not (pt_val (pe_callB call_isi (by rfl) T.b_isinstance (by decide +kernel) (pa_cons (pv 2) (pa_cons (pe_bltn (v := .ty "tuple") (by rfl) T.b_tuple (by decide +kernel) rfl) pa_nil))))) (pw_or1 (pt_cmpR op_ne (pe_callB call_len (by rfl) T.b_len (by decide +kernel) (pa_cons (pv 2) pa_nil)) (pe_fld (pv 0) rfl) (nomark _))))) (pss_one ps_never) pss_nil)
      (pss_cons (ps_if (pt_not (pt_val (pe_callB (cr_all rfl) (by rfl) T.b_all (by decide +kernel) (pa_cons (pe_lc (own := [("state", 5), ("act", 6)]) (g := gTup K 2 (gCons (gName 5) (gCons (gName 6) (gNil)))) (te := (tAndV (tCall sp_is_integer [] C8.E0 (tCons (tVar 6) tNil)) (tOp (rIn K false) (tVar 6) (tMeth (CHouse K) "acts_at" (sp_acts_at K) [] C8.E0 (tVar 0) (tCons (tVar 5) tNil))))) (by rfl) sc_chance_by.nd (LcE.pi_enumT (by rfl) T.b_enumerate (pa_cons (pv 2) pa_nil)) (blkOk_by (own := [("state", 5), ("act", 6)]) (N := N_chance_by) (sc := defScope s_chance_by) (by decide +kernel)) (fun _ _ _ _ _ => (pg_tup rfl (pgs_cons (pg_name (i := 5) sc_chance_by.nd rfl (Or.inl rfl)) (pgs_cons (pg_name (i := 6) sc_chance_by.nd rfl (Or.inl rfl)) pgs_nil)))) (fun _ _ _ _ _ => pts_nil) (fun _ _ _ _ _ => (pe_and (C8.pe_c (c_is_integer T) hr (by decide) (by rfl) (pa_cons (pv 6) pa_nil)) (pe_one (pe_cmpR op_in_seq (pv 6) (C8.pe_mt (m_acts_at T) hr (by decide) (pv 0) (pa_cons (pv 5) pa_nil)) (by rfl)))))) pa_nil)))) (pss_one ps_never) pss_nil)
      (pss_cons (ps_set (i := 3) sc_chance_by.nd rfl (Or.inr rfl) (pe_dc (own := [("state", 5)]) (g := gName 5) (tv := (tMake (CRatio K) (sp_Ratio_init K) [.int 1] C8.E0 (tCons (tC (.int 1)) tNil))) (by rfl) sc_chance_by.nd (pi_tup (pv 1)) (blkOk_by (own := [("state", 5)]) (N := N_chance_by) (sc := defScope s_chance_by) (by decide +kernel)) (fun _ _ _ _ _ => (pg_name (i := 5) sc_chance_by.nd rfl (Or.inl rfl))) (fun _ _ _ _ _ => pts_nil) (fun _ _ _ _ _ => (pv 5)) (fun _ _ _ _ _ => (C8.pe_mk (c_Ratio_1 T) hr (by decide) (by rfl) (pa_cons pe_int pa_nil)))))
      (pss_cons (ps_setLc (i := 4) (own := [("state", 5), ("act", 6)]) (g := gTup K 2 (gCons (gName 5) (gCons (gName 6) (gNil)))) (by rfl) sc_chance_by.nd rfl rfl (sw_true rfl rfl rfl (by decide +kernel)) (LcE.pi_enumT (by rfl) T.b_enumerate (pa_cons (pv 2) pa_nil)) (blkOk_by (own := [("state", 5), ("act", 6)]) (N := N_chance_by) (sc := defScope s_chance_by) (by decide +kernel)) (fun _ _ _ _ _ => (pg_tup rfl (pgs_cons (pg_name (i := 5) sc_chance_by.nd rfl (Or.inl rfl)) (pgs_cons (pg_name (i := 6) sc_chance_by.nd rfl (Or.inl rfl)) pgs_nil)))) (fun _ _ _ _ _ => pts_nil) (fun _ _ _ _ _ => (pe_ifExp (pt_cmp (pc_din (hu1 hr) (pv 5) (pv 3))) pe_non (pv 6))))
      (pss_one (ps_ret (pe_callTy call_tuple_of (by rfl) T.b_tuple (by decide +kernel) (pa_cons (pe_ix ix_tup (C8.pe_c (c_had_by T) hr (by decide) (by rfl) (pa_cons (pv 0) (pa_cons (pv 4) (pa_cons (pv 3) pa_nil)))) pe_int (fun _ _ => rfl)) pa_nil))))))))), ?_⟩
  exact ⟨_, rfl, _, rfl, a, xs, u, rfl, ea, k⟩
def sp_chance_byG (K : PySem.W.Frag) : Sp := fun vs H _ E => ∃ (v : V) (n : Nat) (l : List ActD) (u y : V), vs = [v, u, y] ∧ HouseV K H v n l ∧ BadG n H u ∧ ErrOut (CBadGoal K) "goal" H E
theorem ok_chance_byG (T : Tx K mg) {f : Addr} {fd : FuncData} (F : FunD K "chance_by" "chance_by" (defArgs s_chance_by) (defBody s_chance_by) (defScope s_chance_by) [] [] f fd) : FnOk P w K mg base (L2.CX P w) 9 f fd P_chance_by (sp_chance_byG K) := by
  obtain ⟨fg, FG⟩ := T.f_need_goal
  refine F.ok (CX := L2.CX P w) sc_chance_by (fun vs H Q E h => ?_) (fun cdv A outer s H vs Q E hr h => ?_)
  · obtain ⟨_, _, _, _, _, rfl, _⟩ := h; rfl
  obtain ⟨v, n, l, u, y, rfl, hv, hb, k⟩ := h
  refine ⟨_, (pss_cons (ps_expr (L2.pe_callS (ok_need_goalX T FG) (hr.mono (by decide)) (by rfl) T.g_need_goal FG.kp (FG.bindsN (fun _ _ _ _ _ _ us hl => match us, hl with | [_, _], _ => rfl)) (E := WE (fun cls d _ H => E cls d H)) (fun σ => L2.passAt (W := fun cls d _ H => E cls d H) (takes_of rfl rfl rfl rfl) σ) (by exact (pa_cons (pv 0) (pa_cons (pv 1) pa_nil)))))
      (pss_cons (ps_if (PW.pt (pw_or (pt_not (pt_val (pe_callB call_isi (by rfl) T.b_isinstance (by decide +kernel) (pa_cons (pv 2) (pa_cons (pe_bltn (v := .ty "tuple") (by rfl) T.b_tuple (by decide +kernel) rfl) pa_nil))))) (pw_or1 (pt_cmpR op_ne (pe_callB call_len (by rfl) T.b_len (by decide +kernel) (pa_cons (pv 2) pa_nil)) (pe_fld (pv 0) rfl) (nomark _))))) (pss_one ps_never) pss_nil)
      (pss_cons (ps_if (pt_not (pt_val (pe_callB (cr_all rfl) (by rfl) T.b_all (by decide +kernel) (pa_cons (pe_lc (own := [("state", 5), ("act", 6)]) (g := gTup K 2 (gCons (gName 5) (gCons (gName 6) (gNil)))) (te := (tAndV (tCall sp_is_integer [] C8.E0 (tCons (tVar 6) tNil)) (tOp (rIn K false) (tVar 6) (tMeth (CHouse K) "acts_at" (sp_acts_at K) [] C8.E0 (tVar 0) (tCons (tVar 5) tNil))))) (by rfl) sc_chance_by.nd (LcE.pi_enumT (by rfl) T.b_enumerate (pa_cons (pv 2) pa_nil)) (blkOk_by (own := [("state", 5), ("act", 6)]) (N := N_chance_by) (sc := defScope s_chance_by) (by decide +kernel)) (fun _ _ _ _ _ => (pg_tup rfl (pgs_cons (pg_name (i := 5) sc_chance_by.nd rfl (Or.inl rfl)) (pgs_cons (pg_name (i := 6) sc_chance_by.nd rfl (Or.inl rfl)) pgs_nil)))) (fun _ _ _ _ _ => pts_nil) (fun _ _ _ _ _ => (pe_and (C8.pe_c (c_is_integer T) hr (by decide) (by rfl) (pa_cons (pv 6) pa_nil)) (pe_one (pe_cmpR op_in_seq (pv 6) (C8.pe_mt (m_acts_at T) hr (by decide) (pv 0) (pa_cons (pv 5) pa_nil)) (by rfl)))))) pa_nil)))) (pss_one ps_never) pss_nil)
      (pss_cons (ps_set (i := 3) sc_chance_by.nd rfl (Or.inr rfl) (pe_dc (own := [("state", 5)]) (g := gName 5) (tv := (tMake (CRatio K) (sp_Ratio_init K) [.int 1] C8.E0 (tCons (tC (.int 1)) tNil))) (by rfl) sc_chance_by.nd (pi_tup (pv 1)) (blkOk_by (own := [("state", 5)]) (N := N_chance_by) (sc := defScope s_chance_by) (by decide +kernel)) (fun _ _ _ _ _ => (pg_name (i := 5) sc_chance_by.nd rfl (Or.inl rfl))) (fun _ _ _ _ _ => pts_nil) (fun _ _ _ _ _ => (pv 5)) (fun _ _ _ _ _ => (C8.pe_mk (c_Ratio_1 T) hr (by decide) (by rfl) (pa_cons pe_int pa_nil)))))
      (pss_cons (ps_setLc (i := 4) (own := [("state", 5), ("act", 6)]) (g := gTup K 2 (gCons (gName 5) (gCons (gName 6) (gNil)))) (by rfl) sc_chance_by.nd rfl rfl (sw_true rfl rfl rfl (by decide +kernel)) (LcE.pi_enumT (by rfl) T.b_enumerate (pa_cons (pv 2) pa_nil)) (blkOk_by (own := [("state", 5), ("act", 6)]) (N := N_chance_by) (sc := defScope s_chance_by) (by decide +kernel)) (fun _ _ _ _ _ => (pg_tup rfl (pgs_cons (pg_name (i := 5) sc_chance_by.nd rfl (Or.inl rfl)) (pgs_cons (pg_name (i := 6) sc_chance_by.nd rfl (Or.inl rfl)) pgs_nil)))) (fun _ _ _ _ _ => pts_nil) (fun _ _ _ _ _ => (pe_ifExp (pt_cmp (pc_din (hu1 hr) (pv 5) (pv 3))) pe_non (pv 6))))
      (pss_one (ps_ret (pe_callTy call_tuple_of (by rfl) T.b_tuple (by decide +kernel) (pa_cons (pe_ix ix_tup (C8.pe_c (c_had_by T) hr (by decide) (by rfl) (pa_cons (pv 0) (pa_cons (pv 4) (pa_cons (pv 3) pa_nil)))) pe_int (fun _ _ => rfl)) pa_nil))))))))), ?_⟩
  exact ⟨_, rfl, _, rfl, v, n, l, u, rfl, hv, hb, k⟩
def sp_is_integerB : Sp := fun vs H Q _ => ∃ (v : V) (b : Bool), vs = [v] ∧ ((∃ i, v = .int i ∧ b = true) ∨ (v = .non ∧ b = false) ∨ ∃ c, v = .bl c ∧ b = false) ∧ Q (.bl b) H
theorem c_is_integerB (T : Tx K mg) : C8.Cal P w K mg base 1 "is_integer" sp_is_integerB [] := by
  obtain ⟨fd, F⟩ := T.f_is_integer
  refine calD F T.g_is_integer sc_is_integer (fun _ _ _ _ _ _ us hl => match us, hl with | [_], _ => rfl) (fun vs H Q E h => ?_) (fun cdv A outer s H vs Q E hr h => ?_)
  · obtain ⟨_, _, rfl, _⟩ := h; rfl
  obtain ⟨v, b, rfl, hv, k⟩ := h
  refine ⟨_, (pss_one (ps_ret (pe_and (pe_callB call_isi (by rfl) T.b_isinstance (by decide +kernel) (pa_cons (pv 0) (pa_cons (pe_bltn (v := .ty "int") (by rfl) T.b_int (by decide +kernel) rfl) pa_nil))) (pe_one (pe_not (pe_callB call_isi (by rfl) T.b_isinstance (by decide +kernel) (pa_cons (pv 0) (pa_cons (pe_bltn (v := .ty "bool") (by rfl) T.b_bool (by decide +kernel) rfl) pa_nil)))))))), ?_⟩
  rcases hv with ⟨i, rfl, rfl⟩ | ⟨rfl, rfl⟩ | ⟨c, rfl, rfl⟩
  · exact ⟨_, rfl, _, _, _, _, _, rfl, .ty _, .base (.int i), kit_ty (r := true) (by decide +kernel), _, rfl, iteT ⟨_, rfl, _, _, _, _, _, rfl, .ty _, .base (.int i), kit_ty (r := false) (by decide +kernel), _, rfl, k⟩⟩
  · exact ⟨_, rfl, _, _, _, _, _, rfl, .ty _, .base .non, kit_ty (r := false) (by decide +kernel), _, rfl, iteF k⟩
  · exact ⟨_, rfl, _, _, _, _, _, rfl, .ty _, .base (.bl c), kit_ty (r := true) (by decide +kernel), _, rfl, iteT ⟨_, rfl, _, _, _, _, _, rfl, .ty _, .base (.bl c), kit_ty (r := true) (by decide +kernel), _, rfl, k⟩⟩
end
end Lc
set_option Elab.async false
set_option linter.all false
set_option maxRecDepth 100000
set_option maxHeartbeats 4000000
namespace Lc
open PySem PySem.Spec PyProof.Rows L2 LcR
/-- no act at the state i -/
def BadA (l : List ActD) (i : Nat) (x : V) : Prop := x = .non ∨ x = .bl true ∨ ∃ z : Int, x = .int z ∧ ∀ a : Nat, z = (a : Int) → a ∉ actsAt l i
/-- what is no plan -/
def OddP (n : Nat) (l : List ActD) (H : Hp) (y : V) : Prop := y = .non ∨ y = .str "0" ∨ (∃ a xs, y = .ref a ∧ H a = some (.lst xs)) ∨ ∃ a xs, y = .ref a ∧ H a = some (.tup xs) ∧ xs.length ≤ 10 ∧ (xs.length ≠ n ∨ ∀ i x, xs[i]? = some x → BadA l i x)
section
variable {P : Program} {w : World} {K : PySem.W.Frag} {mg : Str → Option Value} {base : Heap}
def sp_chance_byP (K : PySem.W.Frag) : Sp := fun vs H _ E => ∃ (v : V) (n : Nat) (l : List ActD) (u : V) (g : List Nat) (y : V), vs = [v, u, y] ∧ HouseV K H v n l ∧ OkActs n l ∧ n ≤ 6 ∧ GoalV K H u g ∧ Asc g ∧ (∀ s ∈ g, s < n) ∧ OddP n l H y ∧ ErrOut (CBadPlan K) "picks" H E
theorem ok_chance_byP (T : Tx K mg) {f : Addr} {fd : FuncData} (F : FunD K "chance_by" "chance_by" (defArgs s_chance_by) (defBody s_chance_by) (defScope s_chance_by) [] [] f fd) : FnOk P w K mg base (L2.CX P w) 9 f fd P_chance_by (sp_chance_byP K) := by
  obtain ⟨fi, FI⟩ := T.f_BadPlan_init
  refine F.ok (CX := L2.CX P w) sc_chance_by (fun vs H Q E h => ?_) (fun cdv A outer s H vs Q E hr h => ?_)
  · obtain ⟨_, _, _, _, _, _, rfl, _⟩ := h; rfl
  obtain ⟨v, n, l, u, g, y, rfl, hv, ok, n6, hg, asc, gn, hp, k⟩ := h
  refine ⟨_, (pss_cons (ps_expr (C8.pe_c (c_need_goal T) hr (by decide) (by rfl) (pa_cons (pv 0) (pa_cons (pv 1) pa_nil))))
      (pss_cons (ps_if (PW.pt (pw_or (pt_not (pt_val (pe_callB call_isi (by rfl) T.b_isinstance (by decide +kernel) (pa_cons (pv 2) (pa_cons (pe_bltn (v := .ty "tuple") (by rfl) T.b_tuple (by decide +kernel) rfl) pa_nil))))) (pw_or1 (pt_cmpR op_ne (pe_callB call_len (by rfl) T.b_len (by decide +kernel) (pa_cons (pv 2) pa_nil)) (pe_fld (pv 0) rfl) (nomark _))))) (pss_one (ps_raise rfl (takes_of rfl rfl rfl rfl) (pmk_oex T.oex_BadPlan T.in_BadPlan T.it_BadPlan (ok_BadPlan_init T FI) (hr.mono (by decide)) (FI.bindsN (fun _ _ _ _ _ _ us hl => match us, hl with | [_, _], _ => rfl)) .nil C8.pass0 (by rfl) T.g_BadPlan (pa_cons pe_str pa_nil)))) pss_nil)
      (pss_cons (ps_if (pt_not (pt_val (pe_callB (cr_all rfl) (by rfl) T.b_all (by decide +kernel) (pa_cons (pe_lc (own := [("state", 5), ("act", 6)]) (g := gTup K 2 (gCons (gName 5) (gCons (gName 6) (gNil)))) (te := (tAndV (tCall sp_is_integerB [] C8.E0 (tCons (tVar 6) tNil)) (tOp (rIn K false) (tVar 6) (tMeth (CHouse K) "acts_at" (sp_acts_at K) [] C8.E0 (tVar 0) (tCons (tVar 5) tNil))))) (by rfl) sc_chance_by.nd (LcE.pi_enumT (by rfl) T.b_enumerate (pa_cons (pv 2) pa_nil)) (blkOk_by (own := [("state", 5), ("act", 6)]) (N := N_chance_by) (sc := defScope s_chance_by) (by decide +kernel)) (fun _ _ _ _ _ => (pg_tup rfl (pgs_cons (pg_name (i := 5) sc_chance_by.nd rfl (Or.inl rfl)) (pgs_cons (pg_name (i := 6) sc_chance_by.nd rfl (Or.inl rfl)) pgs_nil)))) (fun _ _ _ _ _ => pts_nil) (fun _ _ _ _ _ => (pe_and (C8.pe_c (c_is_integerB T) hr (by decide) (by rfl) (pa_cons (pv 6) pa_nil)) (pe_one (pe_cmpR op_in_seq (pv 6) (C8.pe_mt (m_acts_at T) hr (by decide) (pv 0) (pa_cons (pv 5) pa_nil)) (by rfl)))))) pa_nil)))) (pss_one (ps_raise rfl (takes_of rfl rfl rfl rfl) (pmk_oex T.oex_BadPlan T.in_BadPlan T.it_BadPlan (ok_BadPlan_init T FI) (hr.mono (by decide)) (FI.bindsN (fun _ _ _ _ _ _ us hl => match us, hl with | [_, _], _ => rfl)) .nil C8.pass0 (by rfl) T.g_BadPlan (pa_cons pe_str pa_nil)))) pss_nil)
      (pss_cons (ps_set (i := 3) sc_chance_by.nd rfl (Or.inr rfl) (pe_dc (own := [("state", 5)]) (g := gName 5) (tv := (tMake (CRatio K) (sp_Ratio_init K) [.int 1] C8.E0 (tCons (tC (.int 1)) tNil))) (by rfl) sc_chance_by.nd (pi_tup (pv 1)) (blkOk_by (own := [("state", 5)]) (N := N_chance_by) (sc := defScope s_chance_by) (by decide +kernel)) (fun _ _ _ _ _ => (pg_name (i := 5) sc_chance_by.nd rfl (Or.inl rfl))) (fun _ _ _ _ _ => pts_nil) (fun _ _ _ _ _ => (pv 5)) (fun _ _ _ _ _ => (C8.pe_mk (c_Ratio_1 T) hr (by decide) (by rfl) (pa_cons pe_int pa_nil)))))
      (pss_cons (ps_setLc (i := 4) (own := [("state", 5), ("act", 6)]) (g := gTup K 2 (gCons (gName 5) (gCons (gName 6) (gNil)))) (by rfl) sc_chance_by.nd rfl rfl (sw_true rfl rfl rfl (by decide +kernel)) (LcE.pi_enumT (by rfl) T.b_enumerate (pa_cons (pv 2) pa_nil)) (blkOk_by (own := [("state", 5), ("act", 6)]) (N := N_chance_by) (sc := defScope s_chance_by) (by decide +kernel)) (fun _ _ _ _ _ => (pg_tup rfl (pgs_cons (pg_name (i := 5) sc_chance_by.nd rfl (Or.inl rfl)) (pgs_cons (pg_name (i := 6) sc_chance_by.nd rfl (Or.inl rfl)) pgs_nil)))) (fun _ _ _ _ _ => pts_nil) (fun _ _ _ _ _ => (pe_ifExp (pt_cmp (pc_din (hu1 hr) (pv 5) (pv 3))) pe_non (pv 6))))
      (pss_one (ps_ret (pe_callTy call_tuple_of (by rfl) T.b_tuple (by decide +kernel) (pa_cons (pe_ix ix_tup (C8.pe_c (c_had_by T) hr (by decide) (by rfl) (pa_cons (pv 0) (pa_cons (pv 4) (pa_cons (pv 3) pa_nil)))) pe_int (fun _ _ => rfl)) pa_nil))))))))), ?_⟩
  have plt := asc_lt asc
  have gd : g.Nodup := plt.imp fun h e => by omega
  have gl : g.length ≤ n := by
    have := nodup_len gd (m := List.range n) fun x hx => List.mem_range.mpr (gn x hx)
    rwa [List.length_range] at this
  obtain ⟨xh, dxh, mh, vah, vsh, lkh, voh, rfl, eh, hh1, hh2, hh3⟩ := id hv
  refine ⟨_, rfl, _, rfl, .ref xh, n, l, u, g, rfl, hv, hg, asc, by omega, gn, fun H1 s1 => ?_⟩
  rcases hp with rfl | rfl | ⟨a, xs, rfl, e⟩ | ⟨a, xs, rfl, e, x10, hx⟩
  · exact ⟨_, rfl, _, _, _, _, false, rfl, .ty _, .base .non, kit_ty (r := false) (by decide +kernel), false, rfl, iteT (mk_exc T.oex_BadPlan T.np_BadPlan (k.s s1))⟩
  · exact ⟨_, rfl, _, _, _, _, false, rfl, .ty _, .base (.str "0"), kit_ty (r := false) (by decide +kernel), false, rfl, iteT (mk_exc T.oex_BadPlan T.np_BadPlan (k.s s1))⟩
  · exact ⟨_, rfl, _, _, _, _, false, rfl, .ty _, .base (.lst (s1 _ _ e)), kit_ty (r := false) (by decide +kernel), false, rfl, iteT (mk_exc T.oex_BadPlan T.np_BadPlan (k.s s1))⟩
  refine ⟨_, rfl, _, _, _, _, true, rfl, .ty _, .base (.tup (s1 _ _ e)), kit_ty (by decide +kernel), true, rfl, iteF ?_⟩
  by_cases hl : xs.length = n
  · refine ⟨_, rfl, _, xs.length, rfl, .inr ⟨_, .inl (.inl (s1 _ _ e)), rfl⟩, _, rfl, xh, _, dxh, _, _, rfl, s1 _ _ eh, T.cl_House, T.na_House_states, rfl, rfl, false, by simp [hl], iteF ?_⟩
    have hx : ∀ i x, xs[i]? = some x → BadA l i x := hx.resolve_left (fun z => z hl)
    have n1 := ok.n1
    refine ⟨_, rfl, a, xs, rfl, .inl (.inl (s1 _ _ e)), fun D hD => ?_⟩
    refine lcm LcE.walk_enumT hD (Nat.le_trans (by omega : xs.length ≤ 10) (by decide)) (fun _ => true) (fun j y _ => y = .bl false) (fun _ _ _ _ _ h => h) (fun H' s => .inl (.inl ((s1.trans s) _ _ e))) (fun i z H5' H5 kN kY hi s y kn ky => ?_) (fun H2 ys s2 e2 kp => ?_)
    · obtain ⟨Tp, x1, y1, rfl, hT, rfl, hx1, hy⟩ := y
      cases hx1
      have hi : i < xs.length := hi
      have t6 := same_upd (o := .tup [V.int (i : Nat), y1]) hT
      have s6 := (s1.trans s).trans t6
      refine ⟨_, _, rfl, .inl (.inl upd_same), rfl, _, _, rfl, _, _, rfl, rfl, rfl, yes ?_⟩
      rcases hx i y1 hy with rfl | rfl | ⟨z, rfl, hz⟩
      · exact ⟨_, rfl, _, false, rfl, .inr (.inl ⟨rfl, rfl⟩), _, rfl, iteF (ky _ _ t6 rfl rfl)⟩
      · exact ⟨_, rfl, _, false, rfl, .inr (.inr ⟨_, rfl, rfl⟩), _, rfl, iteF (ky _ _ t6 rfl rfl)⟩
      · refine ⟨_, rfl, _, true, rfl, .inl ⟨_, rfl, rfl⟩, _, rfl, iteT ?_⟩
        refine ⟨_, rfl, _, rfl, xh, dxh, _, rfl, s6 _ _ eh, rfl, _, rfl, .ref xh, n, l, i, rfl, hv.n (same_n s6), ok, by omega, fun H7 p2 s7 ep2 => ?_⟩
        refine ⟨p2, _, rfl, .inr (.inl (.inl ep2)), rfl, all_flat _, ?_⟩
        refine ky _ _ (t6.trans s7) rfl (congrArg V.bl ?_)
        show inV (.int z) ((actsAt l i).map fun j : Nat => V.int (j : Int)) = false
        rw [Bool.eq_false_iff]
        intro hin
        unfold inV at hin
        obtain ⟨w', hw, h5⟩ := List.any_eq_true.mp hin
        obtain ⟨a', ha', rfl⟩ := List.mem_map.mp hw
        have : z = (a' : Int) := by
          simp [eqV] at h5
          omega
        exact hz a' this ha'
    obtain ⟨l1, l2⟩ := kp.all
    obtain ⟨m, hm⟩ : ∃ m, xs.length = m + 1 := ⟨xs.length - 1, by omega⟩
    have e4 : ys = (List.replicate (m + 1) false).map V.bl := by
      apply List.ext_getElem?
      intro i
      rw [List.map_replicate, List.getElem?_replicate]
      by_cases hi : i < ys.length
      · rw [List.getElem?_eq_getElem hi, if_pos (by omega), l2 i _ (List.getElem?_eq_getElem hi)]
      · rw [List.getElem?_eq_none (by omega), if_neg (by omega)]
    refine ⟨D, _, rfl, .inl (.inl (by rw [← e4]; exact e2)), ?_⟩
    rw [show (List.replicate (m + 1) false).all id = false by rw [List.replicate_succ]; rfl]
    exact ⟨_, rfl, iteT (mk_exc T.oex_BadPlan T.np_BadPlan (k.s (s1.trans s2)))⟩
  · refine ⟨_, rfl, _, xs.length, rfl, .inr ⟨_, .inl (.inl (s1 _ _ e)), rfl⟩, _, rfl, xh, _, dxh, _, _, rfl, s1 _ _ eh, T.cl_House, T.na_House_states, rfl, rfl, true, ?_, iteT (mk_exc T.oex_BadPlan T.np_BadPlan (k.s s1))⟩
    simp
    omega
end
end Lc
set_option Elab.async false
set_option linter.all false
set_option maxRecDepth 100000
set_option maxHeartbeats 4000000
/-! the end of a law whose own def makes lambdas: the table of its code object is not in the written part -/
namespace LcZE
open PySem PySem.Spec PyProof.Rows L2 LamX
theorem walk_tab {l : PySem.W.OpenLaw} {n k : Nat} {q : Program} {loose : List Str} {XP : (Str → Option Value) → Heap → Prop} {YP : World → Heap → Prop} {d dL : DefRec} {CX : CXT} {x : Str}
    (hn : l.most = some n) (hn2 : n ≤ sizeLine) (hdf : d.params.defaults = []) (hr : Room k callerA) (hrec : (recsOf q).find? (fun e => e.name == d.name) = some dL)
    (F : ∀ (w : World) (mg : Str → Option Value) (fa : Addr) (h : Heap), YP w h → h.Ns mainGlobals mg → mg d.name = some (.ref fa) →
      ∃ (K : PySem.W.Frag) (fd : FuncData) (sp : Sp) (c P : Addr), K.In h ∧ PySem.W.tabIn K d.name = some (c, P) ∧ K.lookup P = none ∧ (∀ (s : Shared) (u : Value), BindsTo s fd ⟨[u], []⟩ [(x, u)]) ∧
        (∀ (H : Hp) (a : Addr) (ns : List Int), ns.length ≤ n → H P = some (.tbl #[]) → SqL K H a (ns.map V.int) → sp [.ref a] H (fun v _ => v = .bl true) fun _ _ _ => False) ∧
        ∀ base : Heap, K.In base → base.Ns mainGlobals mg → TabB base mg c P → FnOk l.prog w K mg base CX k fa fd [x] sp)
    (hCX : ∀ (H : Hp) (s : Shared) (e : Value) (s' : Shared), CX [] H s (fun _ _ _ => False) e s' → False) :
    PySem.W.WalkO q loose XP YP l.row.toRowW d [] (fun f vs => PySem.call f vs) := by
  refine Att.attach_call hn hdf fun w s₀ s₁ mg mb fa o pm cd doc a vs ns G Y ho hd hcd hmg hobj hints hlen hg => ?_
  obtain ⟨K, fd, sp, c, P, KX, hT, nT, hb, hsp, hF⟩ := F w mg fa _ Y G.T.g hmg
  obtain ⟨tc, te⟩ := PySem.W.tab_of G.T KX hrec hT
  have one : ∀ {φ : Addr × Addr → Prop}, φ (c, P) → ∀ p ∈ [(c, P)], φ p := fun {φ} h p hp => by
    rw [List.mem_singleton.mp hp]
    exact h
  exact law_callTs (cs := [(c, P)]) KX G.T.g G.T.b G.T.builtins G.T.nolimit hg (one te) (one nT) (one tc) G.T.bmain hobj hints (Nat.le_trans hlen hn2) hr (fun base kb nb tb => hF base kb nb (tb _ (List.mem_singleton.mpr rfl))) hb
    (fun H hH hS => hsp H a ns hlen (hH _ (List.mem_singleton.mpr rfl)) hS) fun H e s' => hCX H s₁ e s'
/-- the rule of a def, its code told -/
theorem code_ok {P : Program} {w : World} {K : PySem.W.Frag} {mg : Str → Option Value} {base : Heap} {x qual : Str} {params : Arguments} {body : List Stmt} {scope : Scope} {dvs : List V} {kws : List (Str × V)} {f : Addr} {fd : FuncData} {CX : CXT} {N ps : List Str} {k : Nat} {sp : Sp}
    (F : FunD K x qual params body scope dvs kws f fd) (S : FnScope N ps scope) (len : ∀ vs H Q E, sp vs H Q E → vs.length = ps.length)
    (hbody : ∀ (A : Around) (outer : List Env) (s : Shared) (H : Hp) (vs : List V) (Q : VK) (E : XK), Room k (A.deeper (envOfC qual scope s.heap.objs.size f fd.code)) → sp vs H Q E →
      ∃ t, PSs (cxOf CX P w K mg base N qual scope f fd.code A outer s H E) body t ∧ t { nx := fun _ H' => Q .non H', rt := Q } (L2.start N vs) H) : FnOk P w K mg base CX (k + 1) f fd ps sp := by
  obtain ⟨oc, od, dV, kV, doc, pm, an, cdv, ct, osl, rfl, lk, hcd, _, _⟩ := F.ex
  exact fn_of lk hcd S len fun A outer s H vs Q E hr hsp => hbody A outer s H vs Q E hr hsp
/-- its code object is the one whose table is known -/
theorem code_of {K : PySem.W.Frag} {x qual : Str} {params : Arguments} {body : List Stmt} {scope : Scope} {dvs : List V} {kws : List (Str × V)} {f c P : Addr} {fd : FuncData} {h : Heap} {mg : Str → Option Value} {y : Str} (X : K.In h) (G : h.Ns mainGlobals mg)
    (F : FunD K x qual params body scope dvs kws f fd) (hf : mg y = some (.ref f)) (ht : PySem.W.tabIn K y = some (c, P)) : fd.code = .ref c := by
  obtain ⟨oc, od, dV, kV, doc, pm, an, cdv, ct, osl, rfl, lk, hcd, _, _⟩ := F.ex
  unfold PySem.W.tabIn at ht
  split at ht
  · rename_i f' hf'
    have e1 := PySem.W.mg_of X G hf'
    rw [hf] at e1
    cases e1
    rw [lk] at ht
    dsimp only at ht
    split at ht
    · split at ht
      · split at ht
        · cases ht
          rfl
        · cases ht
      · cases ht
    · cases ht
  · cases ht
end LcZE
set_option Elab.async false
set_option linter.all false
set_option maxRecDepth 100000
set_option maxHeartbeats 4000000
namespace Lc
open PySem PySem.Spec PyProof.Rows L2 LcR LamX
/-- the name of the lambdas of the law -/
abbrev TQ : Str := (("law" : Str) ++ ".<locals>.") ++ "<lambda>"
abbrev TbL (P : Addr) : List (Addr × Str) := [(P, TQ)]
theorem Tabs.sx {P p : Addr} {H H' : Hp} {xs : List V} (t : Tabs (TbL P) H) (e : H p = some (.lst xs)) (s : SameX p H H') : Tabs (TbL P) H' := fun q hq => by
  obtain ⟨ps, h1, h2, h3⟩ := t q hq
  refine ⟨ps, s _ _ (fun z => by rw [z, e] at h1; cases h1) h1, h2, fun pos cv hc => ?_⟩
  obtain ⟨c, e1, e2⟩ := h3 pos cv hc
  refine ⟨c, e1, s _ _ (fun z => ?_) e2⟩
  rw [z, e] at e2
  unfold CodeO at e2
  cases e2
theorem Tabs.s {P : Addr} {H H' : Hp} (t : Tabs (TbL P) H) (s : Same H H') : Tabs (TbL P) H' := t.ext s
theorem ext_n {H H' : Hp} (e : ExtN H H') : SameN H H' := fun b o h f => e b o h (fun ps z => by subst z; exact f)
theorem ext_s {H H1 H' : Hp} (e : ExtN H H1) (s : Same H1 H') : ExtN H H' := fun b o h n => s b o (e b o h n)
section
variable {X : Cx} {c P : Addr} {params : Arguments} {body : Expr} {scope : Scope} {p lpos pos : Pos} {t : XK → TE} {k : Nat}
theorem pe_heard0 (T : Tx X.K X.mg) (TB : TabB X.base X.mg c P) (hcode : X.env.code = .ref c) (hr : Room (k + 2) X.A) (hg : Gl X "_law_heard") (hq : X.env.qual ++ "<lambda>" = TQ) (L : LamS X.env.scope scope) (hdef : defaultsOf params X.env = ([], []))
    (hbind : ∀ (q : Str) (cl : List (Str × Addr)) (pm cv ctv : Value), bindArgs (PySem.W.kla_fn "<lambda>" q params body scope cl pm cv ctv) ⟨[], []⟩ = pure [])
    (hbody : ∀ (A : Around) (outer : List Env) (s : Shared) (H : Hp) (E : XK) (f c' : Addr), Room k (A.deeper (lamEnv X scope s.heap.objs.size f c')) → PE (lamCx X A outer s H E scope f c') body (t E)) :
    PE X (.Call (.Name "_law_heard" p) [.Lambda params body scope lpos] [] pos) (tLam (TbL P) (TH X.K) t) := by
  obtain ⟨fd, F⟩ := T.f_law_heard
  have hb := F.bindsN (ps := P_law_heard) (fun _ _ _ _ _ _ us hl => match us, hl with | [_], _ => rfl)
  obtain ⟨oc, od, dV, kV, doc, pm, an, cdv, ct, osl, rfl, lk, hcd, hD, hK⟩ := F.ex
  exact pe_lamcall (T := TbL P) (k := k) hg T.g_law_heard F.kp lk hcd hb sc_law_heard rfl (.inl rfl) (heard_gives T) TB hcode (by rw [hq]; exact List.mem_singleton.mpr rfl) (fun q hm _ => by rw [List.mem_singleton.mp hm, hq]) hr L hdef hbind hbody
theorem pe_heard1 {n : Int} {j : Nat} {dp : Pos} {b : Str} (T : Tx X.K X.mg) (TB : TabB X.base X.mg c P) (hcode : X.env.code = .ref c) (hr : Room (k + 2) X.A) (hg : Gl X "_law_heard") (hq : X.env.qual ++ "<lambda>" = TQ) (L : LcM.LamD X.N X.env.scope scope b)
    (hdef : defaultsOf params X.env = ([eval (.Constant (.int n) j dp) X.env], [])) (hkw : params.kwonlyargs = [])
    (hbind : ∀ (q : Str) (cl : List (Str × Addr)) (dt : Addr) (pm cv ctv : Value), ∃ kk, bindArgs (LcM.mFn q params body scope cl (.ref dt) pm cv ctv) ⟨[], []⟩ = seqItems? (.ref dt) >>= kk ∧ ∀ v, kk (some #[v]) = pure [(b, v)])
    (hbody : ∀ (A : Around) (outer : List Env) (s : Shared) (H : Hp) (E : XK) (f c' : Addr), Room k (A.deeper (lamEnv X scope s.heap.objs.size f c')) → PE (lamCx X A outer s H E scope f c') body (t E)) :
    PE X (.Call (.Name "_law_heard" p) [.Lambda params body scope lpos] [] pos) (fun σ H Q => Tabs (TbL P) H ∧ ∀ H1 dt, ExtN H H1 → Tabs (TbL P) H1 → H1 dt = some (.tup [.int n]) → TH X.K (fun E H' Q' => H' dt = some (.tup [.int n]) ∧ t E σ H' Q') H1 Q) := by
  obtain ⟨fd, F⟩ := T.f_law_heard
  have hb := F.bindsN (ps := P_law_heard) (fun _ _ _ _ _ _ us hl => match us, hl with | [_], _ => rfl)
  obtain ⟨oc, od, dV, kV, doc, pm, an, cdv, ct, osl, rfl, lk, hcd, hD, hK⟩ := F.ex
  exact LcM.pe_lamcall1 (T := TbL P) (k := k) (b := b) hg T.g_law_heard F.kp lk hcd hb sc_law_heard rfl (.inl rfl) (heard_gives T) TB hcode (by rw [hq]; exact List.mem_singleton.mpr rfl) (fun q hm _ => by rw [List.mem_singleton.mp hm, hq]) hr L hdef hkw hbind hbody
end
end Lc
set_option Elab.async false
set_option linter.all false
set_option maxRecDepth 100000
set_option maxHeartbeats 4000000
/-! tuple * n where n may be 1: the same tuple -/
namespace LcU
open PySem PySem.Spec PyProof.Rows L2
theorem mul_one (l : Addr) (items : Array Value) (n : Nat) (dd : Option Addr) (sl : Array (Option Value)) (u : Tok) :
    Meets (Builtin.«tuple.__mul__» ⟨[.ref l, .int 1 u], []⟩) (fun _ R s => s.heap.get? l = some { cls := .type "tuple", dict := dd, data := .seq items n, slots := sl } ∧ R (.ok (.ret (Value.ref l))) s) :=
  .of_wp fun prog w A R s h => by
    obtain ⟨hp, g, d, tk, os⟩ := s
    obtain ⟨hl, h⟩ := h
    have f1 := AutoSeq1.idx_int
    have c0 : (decide ((1 : Int) < -(2 ^ 63)) || decide ((1 : Int) ≥ 2 ^ 63)) = false := by decide
    have c1 : (items.isEmpty || (1 : Int) == 1) = true := by simp
    wp_walk using wpAny_loadPart' hl
    exact ⟨_, rfl, h⟩
def rRepA (K : PySem.W.Frag) : R2 := fun x y H Q => (∃ l xs, x = .ref l ∧ y = .int 1 ∧ SqT K H l xs ∧ Q (.ref l) H) ∨ rRepT K x y H Q
theorem op_repA {X : Cx} : OpR X (binaryOp .Mult) (rRepA X.K) := by
  intro pins s σ H x y v u Q I rx ry h
  rcases h with ⟨l, xs, rfl, rfl, hT, q⟩ | h
  · cases rx
    obtain ⟨t, rfl⟩ := ry
    obtain ⟨its, r, ⟨⟨cls, dd, data, sl⟩, ho, hc, n, hd⟩, hs⟩ := I.tuple hT
    simp only at hc hd
    subst hc hd
    exact wpAny_binaryOp_repeat_ref (T := "tuple") (U := "int") (by decide) ⟨_, ho, rfl⟩ (fun s' => typeIs_int s' 1 t) noFill_tuple_mul F.fills_int_mul F.slot_int_rmul repeat_tuple F.slot_int_index.lookup
      (call_meets F.slot_int_rmul (typeIs_int s 1 t) F.entry_int_rmul (F.args_int_rmul_2 _ _) (int_rmul_tuple 1 t l its.toArray n dd sl)
        ⟨ho, rfl, ⟨_, ho, rfl⟩, call_meets F.slot_tuple_mul ⟨_, ho, rfl⟩ F.entry_tuple_mul (F.args_tuple_mul_2 _ _) (mul_one l its.toArray n dd sl t) ⟨ho, ⟨.ref l, H, I.tok _, rfl, q⟩⟩⟩)
  · exact op_repT pins s σ H x y v u Q I rx ry h
/-- the two ways in one -/
theorem rRep_one {K : PySem.W.Frag} {H : Hp} {l : Addr} {y : V} {n : Nat} {Q : VK} (e : H l = some (.tup [y])) (h1 : 1 ≤ n) (h2 : n ≤ 1000)
    (k : ∀ p H', (∀ b o, H b = some o → H' b = some o) → H' p = some (.tup (List.replicate n y)) → Q (.ref p) H') : rRepA K (.ref l) (.int (n : Int)) H Q := by
  by_cases h : n = 1
  · subst h
    exact .inl ⟨l, [y], rfl, rfl, .inl (.inl e), k l H (fun _ _ z => z) e⟩
  · refine .inr ⟨l, (n : Int), [y], rfl, rfl, .inl (.inl e), by simp, by omega, by omega, by simp, fun p hp => k p _ (fun b o z => by rw [upd_ne (ne_of_none z hp)]; exact z) ?_⟩
    rw [upd_same, Int.toNat_natCast]
    have f : (List.replicate n [y]).flatten = List.replicate n y := by simp
    rw [f]
end LcU
set_option Elab.async false
set_option linter.all false
set_option maxRecDepth 100000
set_option maxHeartbeats 4000000
namespace LcZT
open PySem PySem.Spec PyProof.Rows L2
/-! ### zip of a tuple and a list, of one length -/
def ItzTL (K : PySem.W.Frag) (a b : Addr) : It :=
  ⟨fun i H => ∃ (xs ys : List V) (x y : V), SqT K H a xs ∧ SqL K H b ys ∧ xs[i]? = some x ∧ ys[i]? = some y,
    fun i H v H' => ∃ T x y, v = .ref T ∧ H T = none ∧ H' = upd H T (.tup [x, y]) ∧ (∀ xs, SqT K H a xs → xs[i]? = some x) ∧ ∀ ys, SqL K H b ys → ys[i]? = some y,
    fun i H => ∃ xs ys : List V, SqT K H a xs ∧ SqL K H b ys ∧ xs.length = i ∧ ys.length = i⟩
theorem turn_tl {P : Program} {w : World} {K : PySem.W.Frag} {elts : List Expr} {kk : Nat} {tpos : Pos} {a b z TI TO i1 i2 : Addr} (S : ZipSep2 z TI TO i1 i2 [i1, a] [i2, b]) (n1 : a ≠ i1) (n2 : b ≠ i2) :
    Turn P w K (.Tuple elts kk tpos) (ItzTL K a b) [z, TI, TO, i1, i2] z (fun i h => IsZip h z TI TO .none ∧ IsTupOf2 h TI (.ref i1) (.ref i2) ∧ (∃ x y, IsTupOf2 h TO x y) ∧ h.IsTupleIter i1 a i ∧ h.IsListIter i2 b i) where
  mem := by simp
  obj := fun i h st d hd => by
    obtain ⟨hz, hTI, ⟨x, y, hTO⟩, ⟨o1, e1, _, d1⟩, ⟨o2, e2, _, d2⟩⟩ := st
    have e' : d = z ∨ d = TI ∨ d = TO ∨ d = i1 ∨ d = i2 := by simpa using hd
    rcases e' with rfl | rfl | rfl | rfl | rfl
    · exact ⟨_, hz, fun v q => nomatch q⟩
    · exact ⟨_, hTI, fun v q => nomatch q⟩
    · exact ⟨_, hTO, fun v q => nomatch q⟩
    · exact ⟨o1, e1, fun v q => by rw [d1] at q; cases q⟩
    · exact ⟨o2, e2, fun v q => by rw [d2] at q; cases q⟩
  keep := fun i h h' st k => by
    obtain ⟨hz, hTI, ⟨x, y, hTO⟩, h1, h2⟩ := st
    exact ⟨k z (by simp) _ hz, k TI (by simp) _ hTI, ⟨x, y, k TO (by simp) _ hTO⟩, h1.at fun o q => k i1 (by simp) o q, h2.at fun o q => k i2 (by simp) o q⟩
  item := by
    intro X hP hw hK hc i pins s σ H E I hf st hg
    subst hP hw hK
    obtain ⟨hz, hTI, ⟨x0, y0, hTO⟩, h1, h2⟩ := st
    obtain ⟨xs, ys, x, y, hqx, hqy, hx, hy⟩ := hg
    obtain ⟨its, rv, p, _⟩ := I.tuple hqx
    obtain ⟨its2, rv2, p2, _⟩ := I.list hqy
    obtain ⟨u, hu, ru⟩ := rv.get hx
    obtain ⟨u2, hu2, ru2⟩ := rv2.get hy
    have hzl : z < s.heap.objs.size := Heap.lt_size hz
    have hh := I.ok.hd hc
    have D1 := Draws.tuple (prog := X.prog) (w := X.w) (A := X.A.in1) hh i1 a n1 its.toArray
    have D2 := Draws.list (prog := X.prog) (w := X.w) (A := X.A.in1) hh i2 b n2 its2.toArray
    have lt : ∀ {us : List Value} {v : Value}, us[i]? = some v → i < us.toArray.size := fun {us v} e => by
      have := (List.getElem?_eq_some_iff.mp e).1
      simpa using this
    refine wpAny_pyNext_zipD2_item S D1 D2 hz hTI hTO ⟨h1, p⟩ ⟨h2, p2.isList⟩ (lt hu) (lt hu2) fun v1 v2 h' tk g1 g2 z' TO' t1 t2 hT hsz hk => ?_
    have e1 : v1 = u := by have : its[i]? = some v1 := by simpa using g1
                           rw [hu] at this; exact (Option.some.inj this).symm
    have e2 : v2 = u2 := by have : its2[i]? = some v2 := by simpa using g2
                            rw [hu2] at this; exact (Option.some.inj this).symm
    subst e1 e2
    refine ⟨_, rfl, wpAny_letOwnedTupleGo_zip (s := { s with heap := h', toks := tk }) z' fun h'' z'' sb => ?_⟩
    have hT2 : h''.get? s.heap.objs.size = some { cls := .type "tuple", data := .seq #[v1, v2] } := (sb.2 _ (Nat.ne_of_gt hzl)).trans hT
    have new : ObjOk X.prog X.w (upd H s.heap.objs.size (.tup [x, y])) h'' s.heap.objs.size (.tup [x, y]) := ⟨by show 2 ≤ sizeLine; decide, [v1, v2], .cons ru (.cons ru2 .nil), ⟨_, hT2, rfl, _, rfl⟩⟩
    have I1 : Inv X pins σ (upd H s.heap.objs.size (.tup [x, y])) { s with heap := h'', toks := tk } :=
      I.turnedNew (t' := tk) (ch := [z, TI, TO, i1, i2]) (fun d o hb q => (sb.2 d (fun q' => hb (by simp [q']))).trans (hk d o (fun q' => hb (by simp [q'])) (fun q' => hb (by simp [q'])) (fun q' => hb (by simp [q'])) (fun q' => hb (by simp [q'])) q)) hf (Nat.le_refl _) new
    refine ⟨.ref s.heap.objs.size, _, I1, rfl, ⟨_, x, y, rfl, I.hok.fresh (Nat.le_refl _), rfl, fun l hl => by rw [I.tuple_inj hl hqx]; exact hx, fun l hl => by rw [I.list_inj hl hqy]; exact hy⟩, ⟨z'', ?_, ⟨v1, v2, ?_⟩, ?_, ?_⟩, fun d hdm => ?_⟩
    · exact (sb.2 _ S.TIz).trans (hk _ _ S.TIz S.TITO S.TIi1 S.TIi2 hTI)
    · exact (sb.2 _ S.TOz).trans TO'
    · exact t1.1.at fun o q => (sb.2 _ (Ne.symm S.zi1)).trans q
    · exact t2.1.at fun o q => (sb.2 _ (Ne.symm S.zi2)).trans q
    · have hlt : d < s.heap.objs.size := by
        have e' : d = z ∨ d = TI ∨ d = TO ∨ d = i1 ∨ d = i2 := by simpa using hdm
        rcases e' with rfl | rfl | rfl | rfl | rfl
        · exact hzl
        · exact Heap.lt_size hTI
        · exact Heap.lt_size hTO
        · obtain ⟨_, e1, _⟩ := h1; exact Heap.lt_size e1
        · obtain ⟨_, e2, _⟩ := h2; exact Heap.lt_size e2
      rw [upd_ne (Nat.ne_of_lt hlt)]
      exact (hf d hdm).1
  done := by
    intro X hP hw hK hc i pins s σ H E I hf st hg
    subst hP hw hK
    obtain ⟨hz, hTI, ⟨x0, y0, hTO⟩, h1, h2⟩ := st
    obtain ⟨xs, ys, hqx, hqy, l1, l2⟩ := hg
    obtain ⟨its, rv, p, _⟩ := I.tuple hqx
    obtain ⟨its2, rv2, p2, _⟩ := I.list hqy
    have m1 := rv.length
    have m2 := rv2.length
    have hh := I.ok.hd hc
    have D1 := Draws.tuple (prog := X.prog) (w := X.w) (A := X.A.in1) hh i1 a n1 its.toArray
    have D2 := Draws.list (prog := X.prog) (w := X.w) (A := X.A.in1) hh i2 b n2 its2.toArray
    refine wpAny_pyNext_zipD2_end S D1 D2 hz hTI hTO ⟨h1, p⟩ ⟨h2, p2.isList⟩ (by simp; omega) (by simp; omega) (.inl (by simp; omega)) fun h' tk hk => ⟨rfl, I.turnedL (t' := tk) (ch := [z, TI, TO, i1, i2]) (fun d o hb q =>
      hk d o (fun q' => hb (by simp [q'])) (fun q' => hb (by simp [q'])) (fun q' => hb (by simp [q'])) (fun q' => hb (by simp [q'])) q) hf⟩
  self := fun A i s Q E st h => wpAny_pyIter_zip st.1 h
def iZipTL (K : PySem.W.Frag) (ta : TA) : TI := fun σ H R => ta σ H fun vs H1 => ∃ a b xs ys, vs = [.ref a, .ref b] ∧ SqT K H1 a xs ∧ SqL K H1 b ys ∧ R (ItzTL K a b) H1
theorem pi_zipTL {X : Cx} {e e2 : Expr} {ta : TA} {p pos tpos : Pos} {elts : List Expr} {kk : Nat} (hg : Gl X "zip") (hm : X.mg "zip" = none) (ha : PA X [e, e2] ta)
    (hs : starEach [e, e2] X.env = (false, eval e X.env) :: starEach [e2] X.env := by rfl) (hpl : (backTo pos (starEach [e2] X.env)).any (·.1) = false := by rfl) : PI X (.Tuple elts kk tpos) (.Call (.Name "zip" p) [e, e2] [] pos) (iZipTL X.K ta) := by
  refine ⟨fun pins s σ H R I h => ?_⟩
  refine Call_ (ld_blt I hg hm PyProof.Rows.boot_zip (PyProof.Rows.callWith_type1 (thn (ha.run pos pins s σ H _ I h) fun us s1 ⟨vs, H1, I1, r1, q1⟩ => ?_) hs hpl))
  obtain ⟨a, b, xs, ys, ex, hqx, hqy, q⟩ := q1
  subst ex
  cases r1 with
  | cons r rr =>
    cases rr with
    | cons r' rr =>
      cases rr
      cases r
      cases r'
      obtain ⟨its, rv, p1, _⟩ := I1.tuple hqx
      obtain ⟨its2, rv2, p2, _⟩ := I1.list hqy
      have la : a < s1.heap.objs.size := by obtain ⟨o, ho, _⟩ := p1; exact Heap.lt_size ho
      have lb : b < s1.heap.objs.size := p2.lt
      refine zip_begins2 (begins_tuple a its.toArray) (begins_list b its2.toArray) p1 p2.isList fun h' hz hTI hTO h1 h2 hsz hk => wpAny_pyIter_zip hz ?_
      have I2 : Inv X pins σ H1 { s1 with heap := h' } := I1.kept (t' := s1.toks) hk
      refine ⟨s1.heap.objs.size + 4, [s1.heap.objs.size + 4, s1.heap.objs.size + 2, s1.heap.objs.size + 3, s1.heap.objs.size, s1.heap.objs.size + 1], _, _, H1, rfl, I2,
        turn_tl (zip_sep2 (N := s1.heap.objs.size) (fp1 := [a]) (fp2 := [b]) (fun d hd => by rw [List.mem_singleton.mp hd]; exact la) (fun d hd => by rw [List.mem_singleton.mp hd]; exact lb)) (Nat.ne_of_lt la) (Nat.ne_of_lt (Nat.lt_succ_of_lt lb)),
        ⟨hz, hTI, ⟨_, _, hTO⟩, ⟨_, h1, rfl, rfl⟩, ⟨_, h2, rfl, rfl⟩⟩, fun d hdm => ?_, q⟩
      have e' : d = s1.heap.objs.size + 4 ∨ d = s1.heap.objs.size + 2 ∨ d = s1.heap.objs.size + 3 ∨ d = s1.heap.objs.size ∨ d = s1.heap.objs.size + 1 := by simpa using hdm
      have hle : s1.heap.objs.size ≤ d := by
        rcases e' with rfl | rfl | rfl | rfl | rfl
        · exact Nat.le_add_right _ _
        · exact Nat.le_add_right _ _
        · exact Nat.le_add_right _ _
        · exact Nat.le_refl _
        · exact Nat.le_add_right _ _
      exact I1.fpOk hle (I1.hok.fresh hle)
theorem walk_zipTL {K : PySem.W.Frag} {a b : Addr} {xs ys : List V} {n : Nat} (l1 : xs.length = n) (l2 : ys.length = n) : Walk (ItzTL K a b) n (fun H => SqT K H a xs ∧ SqL K H b ys) (YPair (fun i => xs[i]?) (fun i => ys[i]?)) := by
  refine ⟨fun i H hi q => ⟨xs, ys, xs[i], ys[i], q.1, q.2, List.getElem?_eq_getElem (by omega), List.getElem?_eq_getElem (by omega)⟩, fun H q => ⟨xs, ys, q.1, q.2, l1, l2⟩, fun i H v H' _ q y => ?_⟩
  obtain ⟨T, x, y, h1, h2, h3, h4, h5⟩ := y
  exact ⟨T, x, y, h1, h2, h3, h4 xs q.1, h5 ys q.2⟩
end LcZT
set_option Elab.async false
set_option linter.all false
set_option maxRecDepth 100000
set_option maxHeartbeats 4000000
namespace Lc
open PySem PySem.Spec PyProof.Rows L2 LcR
open LC (Sz Had mean FarOk)
section
variable {n : Nat} {l : List ActD} {g : List Nat} {q : List Rat} {p : List (Option Nat)} {r : List Nat}
theorem at_act {a s : Nat} (h : (hsOf n l).At s a) : ∃ d, l[a]? = some d ∧ d.1 = s := by
  obtain ⟨o, e⟩ := h
  unfold hsOf at e
  rw [List.getElem?_map] at e
  obtain ⟨d, hd, e2⟩ := Option.map_eq_some_iff.mp e
  exact ⟨d, hd, by have := congrArg Prod.fst e2; exact this⟩
theorem GreatS.up' (G : GreatS n l g q p r) : ∀ s a, (hsOf n l).At s a → mean (numN q) ((hsOf n l).out a) ≤ numN q s := fun s a h => by
  obtain ⟨d, hd, rfl⟩ := at_act h
  rw [out_of hd]
  exact G.up a d hd
theorem had_pos {p0 : LC.Pk} {v : Nat → Rat} {far : Nat → Option Nat} {h : LC.Hs} (ok : h.Ok) (hp : p0.Ok h g) (H : Had h g p0 v far) : ∀ k s, far s = some k → 0 < v s := by
  have nn := H.nonneg ok hp
  intro k
  induction k with
  | zero => intro s e; rw [H.v0 s e]; decide
  | succ k ih =>
    intro s e
    obtain ⟨a, ea, t, ht, et⟩ := H.farS s k e
    obtain ⟨oko, _⟩ := (hp.at_ s a ea).ok ok
    have h1 := ih t.1 et
    rw [H.vS s k a e ea]
    have h2 : LC.psum (fun _ => (0 : Rat)) (h.out a) < LC.psum v (h.out a) := LC.psum_lt (fun q hq => (oko.2 q hq).2) (fun q hq => nn q.1 (oko.2 q hq).1) ⟨t, ht, h1⟩
    rw [LC.psum_const, Rat.zero_mul, ← LC.mean_mul oko] at h2
    have w := LC.wsumQ_pos oko
    apply Classical.byContradiction
    intro c
    have h3 := Rat.mul_le_mul_of_nonneg_right (show mean v (h.out a) ≤ 0 by grind) (show (0 : Rat) ≤ (LC.wsum (h.out a) : Rat) by grind)
    rw [Rat.zero_mul] at h3
    grind
structure GreatF (n : Nat) (l : List ActD) (g : List Nat) (q : List Rat) (p : List (Option Nat)) (r : List Nat) : Prop where
  ql : q.length = n
  pl : p.length = n
  rl : r.length = n
  nn : ∀ s, s < n → 0 ≤ numN q s
  goal : ∀ s ∈ g, numN q s = 1 ∧ pk p s = none ∧ r[s]? = some 0
  zero : ∀ s, s < n → numN q s = 0 → pk p s = none ∧ r[s]? = some 0
  rest : ∀ s, s < n → s ∉ g → numN q s ≠ 0 → ∃ a d, pk p s = some a ∧ l[a]? = some d ∧ d.1 = s ∧ mean (numN q) (prs d) = numN q s ∧ ∃ t ∈ prs d, numN q t.1 ≠ 0 ∧ (r[t.1]?).getD 0 < (r[s]?).getD 0
theorem GreatS.facts (ok : OkActs n l) (gn : ∀ s ∈ g, s < n) (G : GreatS n l g q p r) : GreatF n l g q p r := by
  obtain ⟨ql, ⟨p0, far, far', pok, H, ep, er, fo⟩, sz, up⟩ := G
  have hok := hs_ok ok
  have pl : p.length = n := by rw [ep]; exact keptP_len n q p0
  have rl : r.length = n := by rw [er]; simp
  have rat : ∀ s, s < n → r[s]? = some ((far' s).getD 0) := fun s hs => by rw [er, List.getElem?_map, List.getElem?_range hs]; rfl
  have pos := had_pos hok pok.ok H
  have pkA : ∀ s a, s < n → numN q s ≠ 0 → pk p0 s = some a → pk p s = some a := fun s a hs hq ha => by rw [ep, keptP_at hs, if_neg hq]; exact ha
  have far2 : ∀ k s, far s = some k → far' s ≠ none := by
    intro k
    induction k with
    | zero =>
      intro s e
      have sg := (H.far0 s).mp e
      have : pk p s = none := by
        rw [ep, keptP_at (gn s sg)]
        split
        · rfl
        · exact pok.gn s sg
      rw [(fo.f0 s).mpr ⟨sg, this⟩]
      simp
    | succ k ih =>
      intro s e
      obtain ⟨a, ea, t, ht, et⟩ := H.farS s k e
      have := pos _ s e
      obtain ⟨_, sn⟩ := (pok.ok.at_ s a ea).ok hok
      exact fo.fC s a (pkA s a sn (by grind) ea) ⟨t, ht, ih t.1 et⟩
  have nn : ∀ s, s < n → 0 ≤ numN q s := H.nonneg hok pok.ok
  have noFar : ∀ s, pk p s = none → (far' s).getD 0 = 0 := fun s e => by
    cases f : far' s with
    | none => rfl
    | some k =>
      cases k with
      | zero => rfl
      | succ k =>
        obtain ⟨a, ea, _⟩ := fo.fS s k f
        rw [e] at ea
        cases ea
  have pz : ∀ s, s < n → numN q s = 0 → pk p s = none := fun s hs e => by rw [ep, keptP_at hs, if_pos e]
  have pg : ∀ s ∈ g, pk p s = none := fun s hs => by
    rw [ep, keptP_at (gn s hs)]
    split
    · rfl
    · exact pok.gn s hs
  refine ⟨ql, pl, rl, nn, fun s hs => ⟨H.goal hs, pg s hs, ?_⟩, fun s hs e => ⟨pz s hs e, ?_⟩, fun s hs hg hq => ?_⟩
  · rw [rat s (gn s hs), noFar s (pg s hs)]
  · rw [rat s hs, noFar s (pz s hs e)]
  · have fs : ∃ k, far s = some (k + 1) := by
      cases f : far s with
      | none => exact absurd (H.vN s f) hq
      | some k =>
        cases k with
        | zero => exact absurd ((H.far0 s).mp f) hg
        | succ k => exact ⟨k, rfl⟩
    obtain ⟨k, ef⟩ := fs
    have f' := far2 _ s ef
    have fs' : ∃ k, far' s = some (k + 1) := by
      cases f : far' s with
      | none => exact absurd f f'
      | some k =>
        cases k with
        | zero => exact absurd ((fo.f0 s).mp f).1 hg
        | succ k => exact ⟨k, rfl⟩
    obtain ⟨k', ef'⟩ := fs'
    obtain ⟨a, ea, t, ht, et⟩ := fo.fS s k' ef'
    have ea0 : pk p0 s = some a := by rw [ep] at ea; exact (keptP_some ea).2.2
    obtain ⟨d, hd, ds⟩ := pok.at_ s a ea0
    have hout := out_of (n := n) hd
    obtain ⟨oko, _⟩ := (pok.ok.at_ s a ea0).ok hok
    have tn := (oko.2 t ht).1
    rw [hout] at ht
    refine ⟨a, d, ea, hd, ds, ?_, t, ht, fun e => ?_, ?_⟩
    · rw [← hout]
      exact (H.pick pok.ok ea0).symm
    · have hz := pz t.1 tn e
      cases k' with
      | zero =>
        have := ((fo.f0 t.1).mp et).1
        rw [H.goal this] at e
        exact absurd e (by decide)
      | succ k' =>
        obtain ⟨b, eb, _⟩ := fo.fS t.1 k' et
        rw [hz] at eb
        cases eb
    · rw [rat t.1 tn, rat s hs, et, ef']
      exact Nat.lt_succ_self k'
/-- choices that agree with the told picks have the told numbers -/
theorem great_choice (ok : OkActs n l) (gn : ∀ s ∈ g, s < n) (G : GreatS n l g q p r) {c : List Nat} (fok : FullOk n l c) (ag : ∀ s a, pk p s = some a → c[s]? = some a) {v : Nat → Rat} {far : Nat → Option Nat} (H' : Had (hsOf n l) g (pk (stopP n g c)) v far) : ∀ s, s < n → v s = numN q s := by
  have up := G.up'
  obtain ⟨ql, ⟨p0, far0, far', pok, H, ep, er, fo⟩, sz, _, _⟩ := G
  refine LC.full_eq (hs_ok ok) pok.ok (stopP_ok fok gn).ok H up H' fun s a ea hq => ?_
  obtain ⟨_, sn⟩ := (pok.ok.at_ s a ea).ok (hs_ok ok)
  have sn : s < n := sn
  have sg : s ∉ g := fun hs => by rw [pok.gn s hs] at ea; cases ea
  have hp : pk p s = some a := by rw [ep, keptP_at sn, if_neg hq]; exact ea
  rw [stopP_at sn, if_neg sg]
  exact ag s a hp
theorem great_le (ok : OkActs n l) (gn : ∀ s ∈ g, s < n) (G : GreatS n l g q p r) {c : List Nat} (fok : FullOk n l c) {v : Nat → Rat} {far : Nat → Option Nat} (H' : Had (hsOf n l) g (pk (stopP n g c)) v far) : ∀ s, s < n → v s ≤ numN q s := by
  have up := G.up'
  obtain ⟨ql, ⟨p0, far0, far', pok, H, ep, er, fo⟩, sz, _, _⟩ := G
  exact LC.full_le (hs_ok ok) pok.ok (stopP_ok fok gn).ok H up H'
theorem full_ex (ok : OkActs n l) : ∃ c, FullOk n l c := by
  have : ∀ m, m ≤ n → ∃ c : List Nat, c.length = m ∧ ∀ (s a : Nat), c[s]? = some a → ∃ d, l[a]? = some d ∧ d.1 = s := by
    intro m
    induction m with
    | zero => exact fun _ => ⟨[], rfl, fun s a h => by simp at h⟩
    | succ m ih =>
      intro hm
      obtain ⟨c, h1, h2⟩ := ih (by omega)
      obtain ⟨d, hd, ds⟩ := ok.all m (by omega)
      obtain ⟨a, ha, e⟩ := List.getElem_of_mem hd
      refine ⟨c ++ [a], by rw [List.length_append, h1]; rfl, fun s b hb => ?_⟩
      by_cases hs : s < c.length
      · rw [List.getElem?_append_left hs] at hb
        exact h2 s b hb
      · have h3 := (List.getElem?_eq_some_iff.mp hb).1
        rw [List.length_append] at h3
        have : s = m := by simp at h3; omega
        subst this
        rw [List.getElem?_append_right (by omega), h1, Nat.sub_self] at hb
        cases hb
        exact ⟨d, by rw [List.getElem?_eq_getElem ha, e], ds⟩
  obtain ⟨c, h1, h2⟩ := this n (Nat.le_refl n)
  exact ⟨c, h1, h2⟩
/-- picks, completed by a choice -/
def fillP (n : Nat) (p : List (Option Nat)) (c : List Nat) : List Nat := (List.range n).map fun s => (pk p s).getD (c.getD s 0)
theorem fillP_len (p : List (Option Nat)) (c : List Nat) : (fillP n p c).length = n := by unfold fillP; simp
theorem fillP_at {c : List Nat} {s : Nat} (hs : s < n) : (fillP n p c)[s]? = some ((pk p s).getD (c.getD s 0)) := by
  unfold fillP
  rw [List.getElem?_map, List.getElem?_range hs]
  rfl
theorem fillP_ok (G : GreatF n l g q p r) (gn : ∀ s ∈ g, s < n) {c : List Nat} (fok : FullOk n l c) : FullOk n l (fillP n p c) ∧ ∀ s a, pk p s = some a → (fillP n p c)[s]? = some a := by
  have ag : ∀ s a, pk p s = some a → (fillP n p c)[s]? = some a := fun s a e => by
    have hs : s < n := by have := pk_lt e; rw [G.pl] at this; exact this
    rw [fillP_at hs, e]
    rfl
  refine ⟨⟨fillP_len p c, fun s a e => ?_⟩, ag⟩
  have hs : s < n := by have := (List.getElem?_eq_some_iff.mp e).1; rw [fillP_len] at this; exact this
  rw [fillP_at hs] at e
  cases h : pk p s with
  | some b =>
    rw [h] at e
    cases e
    have hg : s ∉ g := fun hg => by rw [(G.goal s hg).2.1] at h; cases h
    have hq : numN q s ≠ 0 := fun hz => by rw [(G.zero s hs hz).1] at h; cases h
    obtain ⟨a', d, h1, h2, h3, _⟩ := G.rest s hs hg hq
    rw [h] at h1
    cases h1
    exact ⟨d, h2, h3⟩
  | none =>
    rw [h] at e
    have hc : c[s]? = some (c.getD s 0) := by rw [List.getD_eq_getElem?_getD, List.getElem?_eq_getElem (by rw [fok.len]; exact hs)]; rfl
    cases e
    exact fok.at_ s _ hc
theorem num_ext {q q' : List Rat} (h1 : q.length = n) (h2 : q'.length = n) (h : ∀ s, s < n → numN q s = numN q' s) : q = q' := by
  apply List.ext_getElem?
  intro s
  by_cases hs : s < n
  · have := h s hs
    unfold numN at this
    rw [List.getElem?_eq_getElem (by omega), List.getElem?_eq_getElem (by omega)] at this ⊢
    exact congrArg some this
  · rw [List.getElem?_eq_none (by omega), List.getElem?_eq_none (by omega)]
theorem great_due (ok : OkActs n l) (gn : ∀ s ∈ g, s < n) (G : GreatS n l g q p r) {q' : List Rat} (B : BestOk n l g (choices l n) q') : q' = q := by
  have F := G.facts ok gn
  obtain ⟨c, fok⟩ := full_ex ok
  obtain ⟨f1, f2⟩ := fillP_ok F gn fok
  refine num_ext B.len F.ql fun s hs => ?_
  have hm : fillP n p c ∈ choices l n := choices_full.mpr f1
  obtain ⟨v, far, H⟩ := B.had _ hm
  have e1 := great_choice ok gn G f1 f2 H s hs
  have e2 := B.ge _ hm v far H s hs
  rcases B.at_ s hs with z | ⟨c', h1, v', far', H', e⟩
  · have := F.nn s hs
    grind
  · have := great_le ok gn G (choices_full.mp h1) H' s hs
    grind
end
end Lc
set_option Elab.async false
set_option linter.all false
set_option maxRecDepth 100000
set_option maxHeartbeats 4000000
/-! f(a=x, b=y) of a def: keywords alone -/
namespace LcK
open PySem PySem.Spec PyProof.Rows L2 LcR
section
variable {X : Cx} {CX : CXT} {k : Nat} {f : Addr} {fd : FuncData} {ps ks : List Str} {sp : Sp} {E : XK} {x : Str} {p pos : Pos} {kws : List Keyword} {tk : TA} {g : List Value → List Value → List Value} {gV : List V → List V → List V}
theorem pe_callK0 (F : FnOk X.prog X.w X.K X.mg X.base CX k f fd ps sp) (hr : Room k X.A) (hg : Gl X x) (hm : X.mg x = some (.ref f)) (hk : PySem.W.keepIn X.K (.ref f) = true) (hb : KBinds X.K fd ps ks g gV) (hx : Passes CX X E) (hkw : PK X kws tk)
    (hall : (backToKw pos (keywordEach kws X.env)).all (·.1.isSome) = true := by rfl) (hks : (backToKw pos (keywordEach kws X.env)).filterMap (·.1) = ks := by rfl) (hdb : (x == ("__debug__" : Str)) = false := by decide)
    (hpl : ((backTo pos (starEach [] X.env)).any (·.1) || (backToKw pos (keywordEach kws X.env)).any (·.1.isNone)) = false := by rfl) :
    PE X (.Call (.Name x p) [] kws pos) (tCallK sp gV E tNil tk) := by
  refine ⟨fun pins s σ H Q I h => ?_⟩
  refine wpAny_Call_Name_kw (ld_glob I hg hm ?_ hdb)
  refine PySem.W.callWith_KW0 (h₀ := X.base) I.ok.mod.kin hk hall ?_ hpl
  refine thn (hkw.run pos pins s σ H _ I h) fun ws s2 ⟨zs, H2, I2, rz, q2⟩ => ⟨I2.kIn, ?_⟩
  rw [hks]
  exact run_fnk (us := []) (vs := []) F hr hb hx I2 .nil rz q2
end
section
variable {K : PySem.W.Frag} {x qual : Str} {params : Arguments} {body : List Stmt} {scope : Scope} {kws : List (Str × V)} {f : Addr} {fd : FuncData} {ps ks : List Str}
theorem kbindsK {g : List Value → List Value → List Value} {gV : List V → List V → List V} (F : FunD K x qual params body scope [] kws f fd)
    (h : ∀ (kV doc pm : Value) (an : Option Addr) (cdv ct : Value) (us ws : List Value), (g us ws).length = ps.length → bindArgs (PySem.W.fnOf x qual params body scope .none kV doc pm an cdv ct) ⟨us, ks.zip ws⟩ = pure (ps.zip (g us ws)))
    (hrel : ∀ {vs : List V} {us : List Value} {zs : List V} {ws : List Value}, Vals vs us → Vals zs ws → Vals (gV vs zs) (g us ws)) : KBinds K fd ps ks g gV := by
  obtain ⟨oc, od, dV, kV, doc, pm, an, cdv, ct, osl, rfl, lk, hcd, hD, hK⟩ := F.ex
  rcases hD with ⟨_, rfl⟩ | ⟨e, _⟩
  · exact ⟨fun s us ws _ hl => .of_eq (h kV doc pm an cdv ct us ws hl), hrel⟩
  · exact absurd rfl e
end
/-- two keywords, told the other way round -/
def swap2 {α : Type} (us ws : List α) : List α := match us, ws with
  | [], [a, b] => [b, a]
  | _, _ => []
theorem swap2_rel {vs : List V} {us : List Value} {zs : List V} {ws : List Value} (r : Vals vs us) (rz : Vals zs ws) : Vals (swap2 vs zs) (swap2 us ws) := by
  cases r with
  | cons a b => exact .nil
  | nil =>
    cases rz with
    | nil => exact .nil
    | cons a b =>
      cases b with
      | nil => exact .nil
      | cons b c =>
        cases c with
        | nil => exact .cons b (.cons a .nil)
        | cons d e => exact .nil
end LcK
set_option Elab.async false
set_option linter.all false
set_option maxRecDepth 100000
set_option maxHeartbeats 4000000
namespace LcZ
open PySem PySem.Spec PyProof.Rows L2
/-! ### zip of two lists and a tuple, of one length -/
def Itz3 (K : PySem.W.Frag) (a b c : Addr) : It :=
  ⟨fun i H => ∃ (xs ys zs : List V) (x y z : V), SqL K H a xs ∧ SqL K H b ys ∧ SqT K H c zs ∧ xs[i]? = some x ∧ ys[i]? = some y ∧ zs[i]? = some z,
    fun i H v H' => ∃ T x y z, v = .ref T ∧ H T = none ∧ H' = upd H T (.tup [x, y, z]) ∧ (∀ xs, SqL K H a xs → xs[i]? = some x) ∧ (∀ ys, SqL K H b ys → ys[i]? = some y) ∧ ∀ zs, SqT K H c zs → zs[i]? = some z,
    fun i H => ∃ xs ys zs : List V, SqL K H a xs ∧ SqL K H b ys ∧ SqT K H c zs ∧ xs.length = i ∧ ys.length = i ∧ zs.length = i⟩
theorem turn_zip3 {P : Program} {w : World} {K : PySem.W.Frag} {elts : List Expr} {kk : Nat} {tpos : Pos} {a b c z TI TO i1 i2 i3 : Addr} (S : ZipSep3 z TI TO i1 i2 i3 [i1, a] [i2, b] [i3, c]) (n1 : a ≠ i1) (n2 : b ≠ i2) (n3 : c ≠ i3) :
    Turn P w K (.Tuple elts kk tpos) (Itz3 K a b c) [z, TI, TO, i1, i2, i3] z (fun i h => IsZip h z TI TO .none ∧ IsTupOf3 h TI (.ref i1) (.ref i2) (.ref i3) ∧ (∃ x y q, IsTupOf3 h TO x y q) ∧ h.IsListIter i1 a i ∧ h.IsListIter i2 b i ∧ h.IsTupleIter i3 c i) where
  mem := by simp
  obj := fun i h st d hd => by
    obtain ⟨hz, hTI, ⟨x, y, q, hTO⟩, ⟨o1, e1, _, d1⟩, ⟨o2, e2, _, d2⟩, ⟨o3, e3, _, d3⟩⟩ := st
    have e' : d = z ∨ d = TI ∨ d = TO ∨ d = i1 ∨ d = i2 ∨ d = i3 := by simpa using hd
    rcases e' with q | q | q | q | q | q
    · rw [q]; exact ⟨_, hz, fun v q => nomatch q⟩
    · rw [q]; exact ⟨_, hTI, fun v q => nomatch q⟩
    · rw [q]; exact ⟨_, hTO, fun v q => nomatch q⟩
    · rw [q]; exact ⟨o1, e1, fun v q => by rw [d1] at q; cases q⟩
    · rw [q]; exact ⟨o2, e2, fun v q => by rw [d2] at q; cases q⟩
    · rw [q]; exact ⟨o3, e3, fun v q => by rw [d3] at q; cases q⟩
  keep := fun i h h' st k => by
    obtain ⟨hz, hTI, ⟨x, y, q, hTO⟩, h1, h2, h3⟩ := st
    exact ⟨k z (by simp) _ hz, k TI (by simp) _ hTI, ⟨x, y, q, k TO (by simp) _ hTO⟩, h1.at fun o q => k i1 (by simp) o q, h2.at fun o q => k i2 (by simp) o q, h3.at fun o q => k i3 (by simp) o q⟩
  item := by
    intro X hP hw hK hc i pins s σ H E I hf st hg
    subst hP hw hK
    obtain ⟨hz, hTI, ⟨x0, y0, q0, hTO⟩, h1, h2, h3⟩ := st
    obtain ⟨xs, ys, zs, x, y, q, hqx, hqy, hqz, hx, hy, hq⟩ := hg
    obtain ⟨its, rv, p, _⟩ := I.list hqx
    obtain ⟨its2, rv2, p2, _⟩ := I.list hqy
    obtain ⟨its3, rv3, p3, _⟩ := I.tuple hqz
    obtain ⟨u, hu, ru⟩ := rv.get hx
    obtain ⟨u2, hu2, ru2⟩ := rv2.get hy
    obtain ⟨u3, hu3, ru3⟩ := rv3.get hq
    have hzl : z < s.heap.objs.size := Heap.lt_size hz
    have hh := I.ok.hd hc
    have D1 := Draws.list (prog := X.prog) (w := X.w) (A := X.A.in1) hh i1 a n1 its.toArray
    have D2 := Draws.list (prog := X.prog) (w := X.w) (A := X.A.in1) hh i2 b n2 its2.toArray
    have D3 := Draws.tuple (prog := X.prog) (w := X.w) (A := X.A.in1) hh i3 c n3 its3.toArray
    have lt : ∀ {us : List Value} {v : Value}, us[i]? = some v → i < us.toArray.size := fun {us v} e => by
      have := (List.getElem?_eq_some_iff.mp e).1
      simpa using this
    refine wpAny_pyNext_zipD3_item S D1 D2 D3 hz hTI hTO ⟨h1, p.isList⟩ ⟨h2, p2.isList⟩ ⟨h3, p3⟩ (lt hu) (lt hu2) (lt hu3) fun v1 v2 v3 h' tk g1 g2 g3 z' TO' t1 t2 t3 hT hsz hk => ?_
    have e1 : v1 = u := by have : its[i]? = some v1 := by simpa using g1
                           rw [hu] at this; exact (Option.some.inj this).symm
    have e2 : v2 = u2 := by have : its2[i]? = some v2 := by simpa using g2
                            rw [hu2] at this; exact (Option.some.inj this).symm
    have e3 : v3 = u3 := by have : its3[i]? = some v3 := by simpa using g3
                            rw [hu3] at this; exact (Option.some.inj this).symm
    subst e1 e2 e3
    refine ⟨_, rfl, wpAny_letOwnedTupleGo_zip (s := { s with heap := h', toks := tk }) z' fun h'' z'' sb => ?_⟩
    have hT2 : h''.get? s.heap.objs.size = some { cls := .type "tuple", data := .seq #[v1, v2, v3] } := (sb.2 _ (Nat.ne_of_gt hzl)).trans hT
    have new : ObjOk X.prog X.w (upd H s.heap.objs.size (.tup [x, y, q])) h'' s.heap.objs.size (.tup [x, y, q]) :=
      ⟨by show 3 ≤ sizeLine; decide, [v1, v2, v3], .cons ru (.cons ru2 (.cons ru3 .nil)), ⟨_, hT2, rfl, _, rfl⟩⟩
    have I1 : Inv X pins σ (upd H s.heap.objs.size (.tup [x, y, q])) { s with heap := h'', toks := tk } :=
      I.turnedNew (t' := tk) (ch := [z, TI, TO, i1, i2, i3]) (fun d o hb q => (sb.2 d (fun q' => hb (by simp [q']))).trans (hk d o (fun q' => hb (by simp [q'])) (fun q' => hb (by simp [q'])) (fun q' => hb (by simp [q'])) (fun q' => hb (by simp [q'])) (fun q' => hb (by simp [q'])) q)) hf (Nat.le_refl _) new
    refine ⟨.ref s.heap.objs.size, _, I1, rfl, ⟨_, x, y, q, rfl, I.hok.fresh (Nat.le_refl _), rfl, fun l hl => by rw [I.list_inj hl hqx]; exact hx, fun l hl => by rw [I.list_inj hl hqy]; exact hy, fun l hl => by rw [I.tuple_inj hl hqz]; exact hq⟩, ⟨z'', ?_, ⟨v1, v2, v3, ?_⟩, ?_, ?_, ?_⟩, fun d hdm => ?_⟩
    · exact (sb.2 _ S.TIz).trans (hk _ _ S.TIz S.TITO S.TIi1 S.TIi2 S.TIi3 hTI)
    · exact (sb.2 _ S.TOz).trans TO'
    · exact t1.1.at fun o q => (sb.2 _ (Ne.symm S.zi1)).trans q
    · exact t2.1.at fun o q => (sb.2 _ (Ne.symm S.zi2)).trans q
    · exact t3.1.at fun o q => (sb.2 _ (Ne.symm S.zi3)).trans q
    · have hlt : d < s.heap.objs.size := by
        have e' : d = z ∨ d = TI ∨ d = TO ∨ d = i1 ∨ d = i2 ∨ d = i3 := by simpa using hdm
        rcases e' with q | q | q | q | q | q
        · rw [q]; exact hzl
        · rw [q]; exact Heap.lt_size hTI
        · rw [q]; exact Heap.lt_size hTO
        · rw [q]; obtain ⟨_, e1, _⟩ := h1; exact Heap.lt_size e1
        · rw [q]; obtain ⟨_, e2, _⟩ := h2; exact Heap.lt_size e2
        · rw [q]; obtain ⟨_, e3, _⟩ := h3; exact Heap.lt_size e3
      rw [upd_ne (Nat.ne_of_lt hlt)]
      exact (hf d hdm).1
  done := by
    intro X hP hw hK hc i pins s σ H E I hf st hg
    subst hP hw hK
    obtain ⟨hz, hTI, ⟨x0, y0, q0, hTO⟩, h1, h2, h3⟩ := st
    obtain ⟨xs, ys, zs, hqx, hqy, hqz, l1, l2, l3⟩ := hg
    obtain ⟨its, rv, p, _⟩ := I.list hqx
    obtain ⟨its2, rv2, p2, _⟩ := I.list hqy
    obtain ⟨its3, rv3, p3, _⟩ := I.tuple hqz
    have m1 := rv.length
    have m2 := rv2.length
    have m3 := rv3.length
    have hh := I.ok.hd hc
    have D1 := Draws.list (prog := X.prog) (w := X.w) (A := X.A.in1) hh i1 a n1 its.toArray
    have D2 := Draws.list (prog := X.prog) (w := X.w) (A := X.A.in1) hh i2 b n2 its2.toArray
    have D3 := Draws.tuple (prog := X.prog) (w := X.w) (A := X.A.in1) hh i3 c n3 its3.toArray
    refine wpAny_pyNext_zipD3_end S D1 D2 D3 hz hTI hTO ⟨h1, p.isList⟩ ⟨h2, p2.isList⟩ ⟨h3, p3⟩ (by simp; omega) (by simp; omega) (by simp; omega) (.inl (by simp; omega)) fun h' tk hk => ⟨rfl, I.turnedL (t' := tk) (ch := [z, TI, TO, i1, i2, i3]) (fun d o hb q =>
      hk d o (fun q' => hb (by simp [q'])) (fun q' => hb (by simp [q'])) (fun q' => hb (by simp [q'])) (fun q' => hb (by simp [q'])) (fun q' => hb (by simp [q'])) q) hf⟩
  self := fun A i s Q E st h => wpAny_pyIter_zip st.1 h
def iZip3 (K : PySem.W.Frag) (ta : TA) : TI := fun σ H R => ta σ H fun vs H1 => ∃ a b c xs ys zs, vs = [.ref a, .ref b, .ref c] ∧ SqL K H1 a xs ∧ SqL K H1 b ys ∧ SqT K H1 c zs ∧ R (Itz3 K a b c) H1
theorem pi_zip3 {X : Cx} {e e2 e3 : Expr} {ta : TA} {p pos tpos : Pos} {elts : List Expr} {kk : Nat} (hg : Gl X "zip") (hm : X.mg "zip" = none) (ha : PA X [e, e2, e3] ta)
    (hs : starEach [e, e2, e3] X.env = (false, eval e X.env) :: starEach [e2, e3] X.env := by rfl) (hpl : (backTo pos (starEach [e2, e3] X.env)).any (·.1) = false := by rfl) :
    PI X (.Tuple elts kk tpos) (.Call (.Name "zip" p) [e, e2, e3] [] pos) (iZip3 X.K ta) := by
  refine ⟨fun pins s σ H R I h => ?_⟩
  refine Call_ (ld_blt I hg hm PyProof.Rows.boot_zip (PyProof.Rows.callWith_type1 (thn (ha.run pos pins s σ H _ I h) fun us s1 ⟨vs, H1, I1, r1, q1⟩ => ?_) hs hpl))
  obtain ⟨a, b, c, xs, ys, zs, ex, hqx, hqy, hqz, q⟩ := q1
  subst ex
  cases r1 with
  | cons r rr =>
    cases rr with
    | cons r' rr =>
      cases rr with
      | cons r'' rr =>
        cases rr
        cases r
        cases r'
        cases r''
        obtain ⟨its, rv, p1, _⟩ := I1.list hqx
        obtain ⟨its2, rv2, p2, _⟩ := I1.list hqy
        obtain ⟨its3, rv3, p3, _⟩ := I1.tuple hqz
        have la : a < s1.heap.objs.size := p1.lt
        have lb : b < s1.heap.objs.size := p2.lt
        have lc : c < s1.heap.objs.size := by obtain ⟨o, ho, _⟩ := p3; exact Heap.lt_size ho
        refine zip_begins3 (begins_list a its.toArray) (begins_list b its2.toArray) (begins_tuple c its3.toArray) p1.isList p2.isList p3 fun h' hz hTI hTO h1 h2 h3 hsz hk => wpAny_pyIter_zip hz ?_
        have I2 : Inv X pins σ H1 { s1 with heap := h' } := I1.kept (t' := s1.toks) hk
        refine ⟨s1.heap.objs.size + 5, [s1.heap.objs.size + 5, s1.heap.objs.size + 3, s1.heap.objs.size + 4, s1.heap.objs.size, s1.heap.objs.size + 1, s1.heap.objs.size + 2], _, _, H1, rfl, I2,
          turn_zip3 (zip_sep3 (N := s1.heap.objs.size) (fp1 := [a]) (fp2 := [b]) (fp3 := [c]) (fun d hd => by rw [List.mem_singleton.mp hd]; exact la) (fun d hd => by rw [List.mem_singleton.mp hd]; exact lb) (fun d hd => by rw [List.mem_singleton.mp hd]; exact lc)) (Nat.ne_of_lt la) (Nat.ne_of_lt (Nat.lt_succ_of_lt lb)) (Nat.ne_of_lt (Nat.lt_succ_of_lt (Nat.lt_succ_of_lt lc))),
          ⟨hz, hTI, ⟨_, _, _, hTO⟩, ⟨_, h1, rfl, rfl⟩, ⟨_, h2, rfl, rfl⟩, ⟨_, h3, rfl, rfl⟩⟩, fun d hdm => ?_, q⟩
        have e' : d = s1.heap.objs.size + 5 ∨ d = s1.heap.objs.size + 3 ∨ d = s1.heap.objs.size + 4 ∨ d = s1.heap.objs.size ∨ d = s1.heap.objs.size + 1 ∨ d = s1.heap.objs.size + 2 := by simpa using hdm
        have hle : s1.heap.objs.size ≤ d := by
          rcases e' with z | z | z | z | z | z
          · rw [z]; exact Nat.le_add_right _ _
          · rw [z]; exact Nat.le_add_right _ _
          · rw [z]; exact Nat.le_add_right _ _
          · rw [z]; exact Nat.le_refl _
          · rw [z]; exact Nat.le_add_right _ _
          · rw [z]; exact Nat.le_add_right _ _
        exact I1.fpOk hle (I1.hok.fresh hle)
/-- a new triple -/
def YTri (xs ys zs : Nat → Option V) : Nat → Hp → V → Hp → Prop := fun i H v H' => ∃ T x y z, v = .ref T ∧ H T = none ∧ H' = upd H T (.tup [x, y, z]) ∧ xs i = some x ∧ ys i = some y ∧ zs i = some z
theorem walk_zip3 {K : PySem.W.Frag} {a b c : Addr} {xs ys zs : List V} {n : Nat} (l1 : xs.length = n) (l2 : ys.length = n) (l3 : zs.length = n) : Walk (Itz3 K a b c) n (fun H => SqL K H a xs ∧ SqL K H b ys ∧ SqT K H c zs) (YTri (fun i => xs[i]?) (fun i => ys[i]?) (fun i => zs[i]?)) := by
  refine ⟨fun i H hi q => ⟨xs, ys, zs, xs[i], ys[i], zs[i], q.1, q.2.1, q.2.2, List.getElem?_eq_getElem (by omega), List.getElem?_eq_getElem (by omega), List.getElem?_eq_getElem (by omega)⟩, fun H q => ⟨xs, ys, zs, q.1, q.2.1, q.2.2, l1, l2, l3⟩, fun i H v H' _ q y => ?_⟩
  obtain ⟨T, x, y, z, h1, h2, h3, h4, h5, h6⟩ := y
  exact ⟨T, x, y, z, h1, h2, h3, h4 xs q.1, h5 ys q.2.1, h6 zs q.2.2⟩
end LcZ
set_option Elab.async false
set_option linter.all false
set_option maxRecDepth 100000
set_option maxHeartbeats 4000000
/-! tuple != tuple where each item is seen to be equal, by code of the text -/
namespace LcN
open PySem PySem.Calls PySem.Spec PyProof.Rows
open AutoSeq1 (wpAny_loadPart')
open MeetsSeq MeetsSeq2 MeetsSeq3 SeqRoads2
section
variable {prog : Program} {w : World} {A : Around} {R : Result → Shared → Prop}
theorem tuple_neG (l b : Addr) (items items2 : Array Value) (n n2 : Nat) (dd dd2 : Option Addr) (sl sl2 : Array (Option Value)) (hsz : items.size = items2.size) (I : Nat → Shared → Prop)
    (turn : ∀ i (h1 : i < items.size) (h2 : i < items2.size) s, I i s → wpAny (model prog w) A.in1 (eqBool items[i] items2[i]) (fun r s' => r = true ∧ I (i + 1) s') (fun e s' => R (.error e) s') s)
    (fin : ∀ s, I items.size s → R (.ok (.ret (.bool false))) s) {s : Shared} (hl1 : s.heap.get? l = some { cls := .type "tuple", dict := dd, data := .seq items n, slots := sl }) (hb1 : s.heap.get? b = some { cls := .type "tuple", dict := dd2, data := .seq items2 n2, slots := sl2 }) (h : I 0 s) :
    wpAny (model prog w) A.in1 (Builtin.«tuple.__ne__» ⟨[.ref l, .ref b], []⟩) (GQ.FinOf prog w A R) (fun e s' => R (.error e) s') s := by
  have f2 := AutoSeq1.sub_tuple_tuple
  have hZ : (items.toList.zip items2.toList).length = items.size := by simp [hsz]
  have h0 := h
  obtain ⟨hp, g, d, tk, os⟩ := s
  wp_walk using wpAny_loadPart' hl1, wpAny_loadPart' hb1, wpAny_forIn_list _ (fun rest b s' => b.1 = none ∧ ∃ i, rest = (items.toList.zip items2.toList).drop i ∧ i ≤ items.size ∧ I i s') _
  case turn =>
    rintro ⟨y, x⟩ rest b s' ⟨hb', i, hz, hi, hI⟩
    have hlt : i < (items.toList.zip items2.toList).length := Nat.lt_of_not_le fun h' => by
      rw [List.drop_of_length_le h'] at hz
      cases hz
    have h1 : i < items.size := hZ ▸ hlt
    have h2 : i < items2.size := hsz ▸ h1
    rw [List.drop_eq_getElem_cons hlt] at hz
    injection hz with hyx hrest
    obtain rfl : y = items[i] := by simpa using congrArg Prod.fst hyx
    obtain rfl : x = items2[i] := by simpa using congrArg Prod.snd hyx
    refine wpAny_bind (wpAny_mono (turn i h1 h2 s' hI) (fun r s2 q2 => ?_) fun _ _ x => x)
    obtain ⟨hr, q2⟩ := q2
    subst hr
    wp_walk
    exact ⟨rfl, i + 1, hrest, h1, q2⟩
  case fin =>
    rintro ⟨b1, b2⟩ s' ⟨hb', i, hz, hi, hI⟩
    simp only at hb'
    subst hb'
    have hge : items.size ≤ i := Nat.le_of_not_lt fun h' => by
      rw [List.drop_eq_getElem_cons (hZ.symm ▸ h')] at hz
      cases hz
    have hi' : i = items.size := by omega
    have hR : R (.ok (.ret (.bool false))) s' := fin s' (hi' ▸ hI)
    wp_walk
    simpa [Builtin.Tuple.tupleCompareSizes, hsz] using hR
  case h =>
    exact ⟨rfl, 0, rfl, Nat.zero_le _, h0⟩
end
section
variable {prog : Program} {w : World} {A : Around} {E : Value → Shared → Prop} {s : Shared}
theorem rc_neG {l b : Addr} {items items2 : Array Value} {Q : Value → Shared → Prop} (hsz : items.size = items2.size) (hu : A.units < cLine) (I : Nat → Shared → Prop)
    (hl : s.heap.IsTuple l items) (hb : s.heap.IsTuple b items2)
    (turn : ∀ i (h1 : i < items.size) (h2 : i < items2.size) s, I i s → wpAny (model prog w) A.in1 (eqBool items[i] items2[i]) (fun r s' => r = true ∧ I (i + 1) s') E s)
    (fin : ∀ s, I items.size s → Q (.bool false) s) (h : I 0 s) : wpAny (model prog w) A (richCompare .NotEq (.ref l) (.ref b)) Q E s := by
  obtain ⟨⟨cls, dd, data, sl⟩, ho, hc, n, hd⟩ := id hl
  obtain ⟨⟨cls2, dd2, data2, sl2⟩, ho2, hc2, n2, hd2⟩ := id hb
  simp only at hc hd hc2 hd2
  subst hc hd hc2 hd2
  refine wpAny_richCompare_same_room (op := .NotEq) ⟨_, ho, rfl⟩ ⟨_, ho2, rfl⟩ F.slot_tuple_ne (GQ.call_here F.slot_tuple_ne ⟨_, ho, rfl⟩ F.entry_tuple_ne (F.args_tuple_ne_2 _ _) ?_) hu
  exact tuple_neG (R := wants (fun v s' => v ≠ .notImplemented ∧ Q v s') E) l b items items2 n n2 dd dd2 sl sl2 hsz I turn (fun s' q => ⟨(fun x => nomatch x), fin s' q⟩) ho ho2 h
end
open L2
section
variable {X : Cx} {n : Nat} {D : Eqv}
/-- x != y of two tuples whose items are seen to be equal -/
def rNeG (K : PySem.W.Frag) (D : Eqv) : R2 := fun x y H Q => DTup K D x y H ∧ ∀ H', Ext H H' → Q (.bl false) H'
theorem op_neG (hD : Mon D) (h : EqG X n D) (hr : Room (n + 1) X.A) : OpR X (compareOp .NotEq) (rNeG X.K D) := by
  intro pins s σ H x y v u Q I rx ry hq
  obtain ⟨⟨a, b, xs, ys, rfl, rfl, ha, hb, p⟩, q⟩ := hq
  cases rx
  cases ry
  obtain ⟨its, r, e, z⟩ := I.tuple ha
  obtain ⟨its2, r2, e2, z2⟩ := I.tuple hb
  have hsz : its.toArray.size = its2.toArray.size := by rw [List.size_toArray, List.size_toArray, ← r.length, ← r2.length]; exact p.1
  show wpAny (model X.prog X.w) X.A (richCompare .NotEq (.ref a) (.ref b)) (EP X pins σ Q) X.xe s
  refine rc_neG hsz hr.units0 (fun _ s' => LoopI X pins σ H s') e e2 (fun i h1 h2 s' l => turnG hD h ⟨hr, rfl⟩ p r r2 i h1 h2 s' l) (fun s' l => ?_) ⟨H, I, Ext.rfl'⟩
  obtain ⟨H', I', e'⟩ := l
  exact ⟨.bl false, H', I', rfl, q H' e'⟩
end
end LcN
set_option Elab.async false
set_option linter.all false
set_option maxRecDepth 100000
set_option maxHeartbeats 4000000
/-! list != list where each item is seen to be equal, by code of the text -/
namespace LcNL
open PySem PySem.Calls PySem.Spec PyProof.Rows
open AutoSeq1 (wpAny_loadPart')
open MeetsSeq MeetsSeq2 MeetsSeq3 SeqRoads2 GQ
section
variable {prog : Program} {w : World} {A : Around} {R : Result → Shared → Prop}
theorem ne_loopG (l b : Addr) (N : Nat) (I : Nat → Shared → Prop) (hl : ListI prog w A (fun e s' => R (.error e) s') l b N I)
    (fin : ∀ s, I N s → R (.ok (.ret (.bool false))) s) (k : Nat) :
    ∀ i : Nat, N - i = k → i ≤ N → ∀ s, I i s →
      wpAny (model prog w) A.in1 (Builtin.«list.__eq__.loop» ⟨[.ref l, .ref b, rawInt i, rawInt 3], []⟩) (FinOf prog w A R) (fun e s' => R (.error e) s') s := by
  induction k with
  | zero =>
    intro i hk hi s h
    obtain ⟨items, items2, n, n2, hl1, hb1, hs1, hs2, _⟩ := hl _ _ h
    have hi' : i = N := by omega
    have hR : R (.ok (.ret (.bool false))) s := fin s (hi' ▸ h)
    obtain ⟨hp, g, d, tk, os⟩ := s
    wp_walk using wpAny_loadPart' hl1, wpAny_loadPart' hb1
    have hi1 : items[((i : Nat) : Int).toNat]? = none := by simp; omega
    have hi2 : items2[((i : Nat) : Int).toNat]? = none := by simp; omega
    rw [hi1, hi2]
    wp_walk using wpAny_loadPart' hl1, wpAny_loadPart' hb1
    show R (.ok (.ret (.bool (items.size != items2.size)))) _
    rw [hs1, hs2]
    simpa using hR
  | succ k ih =>
    intro i hk hi s h
    obtain ⟨items, items2, n, n2, hl1, hb1, hs1, hs2, turn⟩ := hl _ _ h
    have hlt : i < items.size := by omega
    have hlt2 : i < items2.size := by omega
    have ht := turn hlt hlt2
    obtain ⟨hp, g, d, tk, os⟩ := s
    wp_walk using wpAny_loadPart' hl1, wpAny_loadPart' hb1
    have hi1 : items[((i : Nat) : Int).toNat]? = some items[i] := by simp [hlt]
    have hi2 : items2[((i : Nat) : Int).toNat]? = some items2[i] := by simp [hlt2]
    have hc : ((i : Int) + 1) = ((i + 1 : Nat) : Int) := by omega
    rw [hi1, hi2]
    refine wpAny_bind (wpAny_mono ht (fun r s2 h2 => ?_) fun _ _ x => x)
    obtain ⟨hr, h2⟩ := h2
    subst hr
    have hrec := ih (i + 1) (by omega) (by omega) s2 h2
    obtain ⟨hp2, g2, d2, tk2, os2⟩ := s2
    wp_walk
    rw [hc]
    exact ⟨plainId_quiet plain_eq_loop _, codeAny_builtin entry_eq_loop (by
      rw [Around.under_plainId plain_eq_loop _]
      exact hrec)⟩
theorem list_neG (l b : Addr) (N : Nat) (I : Nat → Shared → Prop) (hl : ListI prog w A (fun e s' => R (.error e) s') l b N I)
    (fin : ∀ s, I N s → R (.ok (.ret (.bool false))) s) {s : Shared} (h : I 0 s) :
    wpAny (model prog w) A.in1 (Builtin.«list.__ne__» ⟨[.ref l, .ref b], []⟩) (FinOf prog w A R) (fun e s' => R (.error e) s') s := by
  obtain ⟨items, items2, n, n2, hl1, hb1, hs1, hs2, _⟩ := hl _ _ h
  have hrec := ne_loopG (A := A) (R := R) l b N I hl fin _ 0 rfl (Nat.zero_le _) s h
  obtain ⟨hp, g, d, tk, os⟩ := s
  have f3 := AutoSeq1.sub_list_list
  have hne : ¬ (items.size != items2.size) = true := by simp [hs1, hs2]
  wp_walk using wpAny_loadPart' hl1, wpAny_loadPart' hb1
  exact ⟨plainId_quiet plain_eq_loop _, codeAny_builtin entry_eq_loop (by
    rw [Around.under_plainId plain_eq_loop _]
    exact hrec)⟩
end
section
variable {prog : Program} {w : World} {A : Around} {E : Value → Shared → Prop} {s : Shared}
theorem rc_neLG {l b : Addr} {N : Nat} {Q : Value → Shared → Prop} (hu : A.units < cLine) (I : Nat → Shared → Prop) (hl : ListI prog w A E l b N I)
    (fin : ∀ s, I N s → Q (.bool false) s) (h : I 0 s) : wpAny (model prog w) A (richCompare .NotEq (.ref l) (.ref b)) Q E s := by
  obtain ⟨items, items2, n, n2, hl1, hb1, _, _, _⟩ := hl _ _ h
  refine wpAny_richCompare_same_room (op := .NotEq) ⟨_, hl1, rfl⟩ ⟨_, hb1, rfl⟩ F.slot_list_ne (GQ.call_here F.slot_list_ne ⟨_, hl1, rfl⟩ F.entry_list_ne (F.args_list_ne_2 _ _) ?_) hu
  exact list_neG (R := wants (fun v s' => v ≠ .notImplemented ∧ Q v s') E) l b N I hl (fun s' q => ⟨(fun x => nomatch x), fin s' q⟩) h
end
open L2
section
variable {X : Cx} {n : Nat} {D : Eqv}
/-- x != y of two lists whose items are seen to be equal -/
def rNeLG (D : Eqv) : R2 := fun x y H Q => DList D x y H ∧ ∀ H', Ext H H' → Q (.bl false) H'
theorem op_neLG (hD : Mon D) (h : EqG X n D) (hr : Room (n + 1) X.A) : OpR X (compareOp .NotEq) (rNeLG D) := by
  intro pins s σ H x y v u Q I rx ry hq
  obtain ⟨⟨a, b, xs, ys, rfl, rfl, ha, hb, p⟩, q⟩ := hq
  cases rx
  cases ry
  show wpAny (model X.prog X.w) X.A (richCompare .NotEq (.ref a) (.ref b)) (EP X pins σ Q) X.xe s
  refine rc_neLG (N := xs.length) hr.units0 (fun _ s' => LoopI X pins σ H s') (fun i s' l => ?_) (fun s' l => ?_) ⟨H, I, Ext.rfl'⟩
  · obtain ⟨H1, I1, e1⟩ := id l
    obtain ⟨z, its, k, r, e⟩ := I1.hok a _ (e1 _ _ ha)
    obtain ⟨z2, its2, k2, r2, e2⟩ := I1.hok b _ (e1 _ _ hb)
    refine ⟨its.toArray, its2.toArray, k, k2, e, e2, by rw [List.size_toArray, ← r.length], by rw [List.size_toArray, ← r2.length, ← p.1], fun h1 h2 => ?_⟩
    exact turnG hD h ⟨hr, rfl⟩ p r r2 i h1 h2 s' l
  · obtain ⟨H', I', e'⟩ := l
    exact ⟨.bl false, H', I', rfl, q H' e'⟩
end
end LcNL
set_option Elab.async false
set_option linter.all false
set_option maxRecDepth 100000
set_option maxHeartbeats 4000000
namespace Lc
open PySem PySem.Spec PyProof.Rows L2 LcR
section
variable {X : Cx} {j : Nat}
def EqRR (K : PySem.W.Frag) : Addr → Addr → Hp → Prop := fun a b H => ∃ q, IsR K H (.ref a) q ∧ IsR K H (.ref b) q
theorem mon_eqr (K : PySem.W.Frag) : ∀ a b H H', Ext H H' → EqRR K a b H → EqRR K a b H' := fun a b H H' e ⟨q, h1, h2⟩ => ⟨q, h1.n (same_n e), h2.n (same_n e)⟩
/-- told != numbers, two tuples of Ratios that are equal -/
def rNeTR (K : PySem.W.Frag) : R2 := fun x y H Q => ∃ a b us vs q, x = .ref a ∧ y = .ref b ∧ H a = some (.tup us) ∧ H b = some (.tup vs) ∧ All2 (IsR K H) us q ∧ All2 (IsR K H) vs q ∧ ∀ H', Same H H' → Q (.bl false) H'
theorem eqG_R (T : Tx X.K X.mg) : EqG X 1 (DIns (CRatio X.K) (EqRR X.K)) := by
  obtain ⟨fd, F⟩ := T.f_Ratio_eq
  have F2 : FnOk X.prog X.w X.K X.mg X.base CX0 1 (He.ma X.K (CRatio X.K) "__eq__") fd P_Ratio_eq (spEq (EqRR X.K)) := by
    have F1 := ok_eq (P := X.prog) (w := X.w) (base := X.base) T F
    have imp : ∀ vs H Q E, spEq (EqRR X.K) vs H Q E → sp_eqR X.K vs H Q E := fun vs H Q E ⟨a, b, ev, ⟨q, h1, h2⟩, k⟩ => ⟨_, _, q, q, ev, h1, h2, by rw [decide_eq_true rfl]; exact k H Ext.rfl'⟩
    exact ⟨fun vs H Q E h => F1.len vs H Q E (imp vs H Q E h), fun A outer s H args us vs Q E hr e b v h => F1.run A outer s H args us vs Q E hr e b v (imp vs H Q E h)⟩
  exact eqG_ins (E := C8.E0) F2 T.eq_at T.eq_fn (bind_eq T F) C8.pass0
theorem prs_R {K : PySem.W.Frag} {H : Hp} {us vs : List V} {q : List Rat} (h1 : All2 (IsR K H) us q) (h2 : All2 (IsR K H) vs q) : Prs (DIns (CRatio K) (EqRR K)) us vs H := by
  refine ⟨by rw [h1.1, h2.1], fun i x y hx hy => ?_⟩
  obtain ⟨g, hg, r1⟩ := h1.get' hx
  have r2 := h2.2 i y g hy hg
  obtain ⟨a1, d1, rfl, e1⟩ := id r1
  obtain ⟨a2, d2, rfl, e2⟩ := id r2
  exact ⟨a1, a2, d1, d2, _, _, rfl, rfl, e1, e2, g, r1, r2⟩
/-- two lists of Ratios that are equal, != -/
def rNeLR (K : PySem.W.Frag) : R2 := fun x y H Q => ∃ a b us vs q, x = .ref a ∧ y = .ref b ∧ H a = some (.lst us) ∧ H b = some (.lst vs) ∧ All2 (IsR K H) us q ∧ All2 (IsR K H) vs q ∧ ∀ H', Same H H' → Q (.bl false) H'
theorem op_neLR (T : Tx X.K X.mg) (hr : Room j X.A) (hj : 2 ≤ j) : OpR X (compareOp .NotEq) (rNeLR X.K) := by
  intro pins s σ H x y v u Q I rx ry hq
  obtain ⟨a, b, us, vs, q, rfl, rfl, ea, eb, h1, h2, k⟩ := hq
  exact LcNL.op_neLG (mon_ins (mon_eqr X.K)) (eqG_R T) (hr.mono hj) pins s σ H _ _ v u Q I rx ry ⟨⟨a, b, us, vs, rfl, rfl, ea, eb, prs_R h1 h2⟩, fun H' e => k H' e⟩
theorem op_neTR (T : Tx X.K X.mg) (hr : Room j X.A) (hj : 2 ≤ j) : OpR X (compareOp .NotEq) (rNeTR X.K) := by
  obtain ⟨fd, F⟩ := T.f_Ratio_eq
  have F2 : FnOk X.prog X.w X.K X.mg X.base CX0 1 (He.ma X.K (CRatio X.K) "__eq__") fd P_Ratio_eq (spEq (EqRR X.K)) := by
    have F1 := ok_eq (P := X.prog) (w := X.w) (base := X.base) T F
    have imp : ∀ vs H Q E, spEq (EqRR X.K) vs H Q E → sp_eqR X.K vs H Q E := fun vs H Q E ⟨a, b, ev, ⟨q, h1, h2⟩, k⟩ => ⟨_, _, q, q, ev, h1, h2, by rw [decide_eq_true rfl]; exact k H Ext.rfl'⟩
    exact ⟨fun vs H Q E h => F1.len vs H Q E (imp vs H Q E h), fun A outer s H args us vs Q E hr e b v h => F1.run A outer s H args us vs Q E hr e b v (imp vs H Q E h)⟩
  have G : EqG X 1 (DIns (CRatio X.K) (EqRR X.K)) := eqG_ins (E := C8.E0) F2 T.eq_at T.eq_fn (bind_eq T F) C8.pass0
  intro pins s σ H x y v u Q I rx ry hq
  obtain ⟨a, b, us, vs, q, rfl, rfl, ea, eb, h1, h2, k⟩ := hq
  refine LcN.op_neG (mon_ins (mon_eqr X.K)) G (hr.mono hj) pins s σ H _ _ v u Q I rx ry ⟨⟨a, b, us, vs, rfl, rfl, .inl (.inl ea), .inl (.inl eb), by rw [h1.1, h2.1], fun i x y hx hy => ?_⟩, fun H' e => k H' e⟩
  obtain ⟨g, hg, r1⟩ := h1.get' hx
  have r2 := h2.2 i y g hy hg
  obtain ⟨a1, d1, rfl, e1⟩ := id r1
  obtain ⟨a2, d2, rfl, e2⟩ := id r2
  exact ⟨a1, a2, d1, d2, _, _, rfl, rfl, e1, e2, g, r1, r2⟩
end
end Lc
set_option Elab.async false
set_option linter.all false
set_option maxRecDepth 100000
set_option maxHeartbeats 4000000
namespace Lc
open PySem PySem.Spec PyProof.Rows L2 LcR
open LC (Sz Had)
def swap3 {α : Type} (us ws : List α) : List α := match us, ws with
  | [], [a, b, c] => [c, b, a]
  | _, _ => []
theorem swap3_rel {vs : List V} {us : List Value} {zs : List V} {ws : List Value} (r : Vals vs us) (rz : Vals zs ws) : Vals (swap3 vs zs) (swap3 us ws) := by
  cases r with
  | cons a b => exact .nil
  | nil =>
    cases rz with
    | nil => exact .nil
    | cons a b =>
      cases b with
      | nil => exact .nil
      | cons b c =>
        cases c with
        | nil => exact .nil
        | cons d e =>
          cases e with
          | nil => exact .cons d (.cons b (.cons a .nil))
          | cons x y => exact .nil
section
variable {X : Cx} {j : Nat} {p pos : Pos} {kws : List Keyword} {tk : TA}
theorem pe_cbk (T : Tx X.K X.mg) (hr : Room j X.A) (hj : 9 ≤ j) (hg : Gl X "chance_by") (hkw : PK X kws tk) (hall : (backToKw pos (keywordEach kws X.env)).all (·.1.isSome) = true := by rfl) (hks : (backToKw pos (keywordEach kws X.env)).filterMap (·.1) = [("picks" : Str), "goal", "house"] := by rfl)
    (hpl : ((backTo pos (starEach [] X.env)).any (·.1) || (backToKw pos (keywordEach kws X.env)).any (·.1.isNone)) = false := by rfl) :
    PE X (.Call (.Name "chance_by" p) [] kws pos) (tCallK (sp_chance_by X.K) swap3 C8.E0 tNil tk) := by
  obtain ⟨fd, F⟩ := T.f_chance_by
  exact LcK.pe_callK0 (ok_chance_by T F) (hr.mono hj) hg T.g_chance_by F.kp (LcK.kbindsK (g := swap3) (ks := [("picks" : Str), "goal", "house"]) F (fun _ _ _ _ _ _ us ws hl => match us, ws, hl with | [], [_, _, _], _ => rfl) swap3_rel) C8.pass0 hkw hall hks (by decide) hpl
end
theorem same_mk {H H' : Hp} {x dx : Addr} {o1 o2 : HO} (hx : H x = none) (hdx : H dx = none) (ne : dx ≠ x) (s : SameX x (upd (upd H dx o1) x o2) H') : Same H H' := fun b o hb =>
  s b o (ne_of_none hb hx) (by rw [upd_ne (ne_of_none hb hx), upd_ne (ne_of_none hb hdx)]; exact hb)
theorem asc_pw {g : List Nat} (h : g.Pairwise (· < ·)) : Asc g := fun i x y hx hy => by
  obtain ⟨h1, rfl⟩ := List.getElem?_eq_some_iff.mp hx
  obtain ⟨h2, rfl⟩ := List.getElem?_eq_some_iff.mp hy
  exact List.pairwise_iff_getElem.mp h i (i + 1) h1 h2 (by omega)
theorem pen_fresh {H' : Hp} {a c x : Addr} {m' : Nat} (p : PenV H' a c m') (h : H' x = none) : x ≠ a ∧ x ≠ c := by
  obtain ⟨ns, at_, rest, e1, e2, _⟩ := p
  exact ⟨fun z => by (subst z; rw [e1] at h; cases h), fun z => by (subst z; rw [e2] at h; cases h)⟩
/-- small flat things -/
def Flt3 (x : V) : Prop := x = .non ∨ (∃ b, x = .bl b) ∨ ∃ i, x = .int i
theorem dp_one {K : PySem.W.Frag} {H : Hp} {x : V} (h : Flt3 x) : ∃ d, Dp K H x d ∧ d.canLay0 = true ∧ d.depth = 0 := by
  rcases h with rfl | ⟨b, rfl⟩ | ⟨i, rfl⟩
  · exact ⟨_, .non, by simp [PyData.canLay0], by simp [PyData.depth]⟩
  · exact ⟨_, .bl b, by simp [PyData.canLay0], by simp [PyData.depth]⟩
  · exact ⟨_, .int i, by simp [PyData.canLay0], by simp [PyData.depth]⟩
theorem dp_flat {K : PySem.W.Frag} {H : Hp} : ∀ {xs : List V}, (∀ x ∈ xs, Flt3 x) → ∃ ds, DpAll K H xs ds ∧ PyData.canLayAll0 ds = true ∧ PyData.depthAll ds = 0
  | [], _ => ⟨[], .nil, by simp [PyData.canLayAll0], by simp [PyData.depthAll]⟩
  | x :: xs, h => by
    obtain ⟨d, h1, h2, h3⟩ := dp_one (K := K) (H := H) (h x List.mem_cons_self)
    obtain ⟨ds, h4, h5, h6⟩ := dp_flat (K := K) (H := H) (xs := xs) fun y hy => h y (List.mem_cons_of_mem _ hy)
    exact ⟨d :: ds, .cons h1 h4, by simp [PyData.canLayAll0, h2, h5], by simp [PyData.depthAll, h3, h6]⟩
theorem dp_lst {K : PySem.W.Frag} {H : Hp} {a : Addr} {xs : List V} (e : H a = some (.lst xs)) (h : ∀ x ∈ xs, Flt3 x) : ∃ d, Dp K H (.ref a) d ∧ SeqAt.shaped d = true := by
  obtain ⟨ds, h1, h2, h3⟩ := dp_flat (K := K) (H := H) h
  exact ⟨_, .lst (.inl (.inl e)) h1, by simp [SeqAt.shaped, PyData.canLay0, PyData.depth, h2, h3]⟩
theorem dp_tup {K : PySem.W.Frag} {H : Hp} {a : Addr} {xs : List V} (e : H a = some (.tup xs)) (h : ∀ x ∈ xs, Flt3 x) : ∃ d, Dp K H (.ref a) d ∧ SeqAt.shaped d = true := by
  obtain ⟨ds, h1, h2, h3⟩ := dp_flat (K := K) (H := H) h
  exact ⟨_, .tup (.inl (.inl e)) h1, by simp [SeqAt.shaped, PyData.canLay0, PyData.depth, h2, h3]⟩
theorem OddP.e {n : Nat} {l : List ActD} {H H' : Hp} {y : V} (h : OddP n l H y) (e : LamX.ExtN H H') : OddP n l H' y := by
  rcases h with h | h | ⟨a, xs, h1, h2⟩ | ⟨a, xs, h1, h2, h3⟩
  · exact .inl h
  · exact .inr (.inl h)
  · exact .inr (.inr (.inl ⟨a, xs, h1, e _ _ h2 (fun _ z => nomatch z)⟩))
  · exact .inr (.inr (.inr ⟨a, xs, h1, e _ _ h2 (fun _ z => nomatch z), h3⟩))
theorem BadG.e {n : Nat} {H H' : Hp} {u : V} (h : BadG n H u) (e : LamX.ExtN H H') : BadG n H' u := by
  rcases h with (h | ⟨a, xs, h1, h2⟩ | ⟨a, h1, h2⟩) | ⟨a, h1, h2⟩
  · exact .inl (.inl h)
  · exact .inl (.inr (.inl ⟨a, xs, h1, e _ _ h2 (fun _ z => nomatch z)⟩))
  · exact .inl (.inr (.inr ⟨a, h1, e _ _ h2 (fun _ z => nomatch z)⟩))
  · exact .inr ⟨a, h1, e _ _ h2 (fun _ z => nomatch z)⟩
theorem PenV.e {H H' : Hp} {a c : Addr} {m : Nat} (h : PenV H a c m) (e : LamX.ExtN H H') : PenV H' a c m := by
  obtain ⟨ns, at_, rest, e1, e2, r⟩ := h
  exact ⟨ns, at_, rest, e _ _ e1 (fun _ z => nomatch z), e _ _ e2 (fun _ z => nomatch z), r⟩
theorem flt_ints (c : List Nat) : ∀ x ∈ intV c, Flt3 x := fun x hx => by
  unfold intV at hx
  obtain ⟨a, _, rfl⟩ := List.mem_map.mp hx
  exact .inr (.inr ⟨_, rfl⟩)
section
variable {P : Program} {w : World} {K : PySem.W.Frag} {mg : Str → Option Value} {base : Heap}
theorem fnC {x qual : Str} {st : Stmt} {f : Addr} {fd : FuncData} {N ps : List Str} {dvs : List V} {k : Nat} {sp : Sp} (F : FunD K x qual (defArgs st) (defBody st) (defScope st) dvs [] f fd) (S : FnScope N ps (defScope st))
    (len : ∀ vs H Q E, sp vs H Q E → vs.length = ps.length)
    (hbody : ∀ (A : Around) (outer : List Env) (s : Shared) (H : Hp) (vs : List V) (Q : VK) (E : XK), Room k (A.deeper (envOfC qual (defScope st) s.heap.objs.size f fd.code)) → sp vs H Q E →
      ∃ t, PSs (cxOf CX0 P w K mg base N qual (defScope st) f fd.code A outer s H E).nox (defBody st) t ∧ t { nx := fun _ H' => Q .non H', rt := Q } (start N vs) H) : FnOk P w K mg base CX0 (k + 1) f fd ps sp :=
  LcZE.code_ok F S len fun A outer s H vs Q E hr h => (hbody A outer s H vs Q E hr h).imp fun _ z => ⟨z.1.nox, z.2⟩
def sp_law (K : PySem.W.Frag) (PT : Addr) : Sp := fun vs H Q _ => ∃ (a : Addr) (ns : List Int), vs = [.ref a] ∧ ns.length ≤ 100 ∧ SqL K H a (ns.map V.int) ∧ LamX.Tabs (TbL PT) H ∧ ∀ H', Q (.bl true) H'
theorem ok_law (T : Tx K mg) {f c0 PT : Addr} {fd : FuncData} (F : FunD K "law" "law" (defArgs s_law) (defBody s_law) (defScope s_law) [] [] f fd) (TB : LamX.TabB base mg c0 PT) (hcode : fd.code = .ref c0) : FnOk P w K mg base CX0 12 f fd P_law (sp_law K PT) := by
  obtain ⟨fc, FC⟩ := T.f_chance_by
  refine fnC F sc_law (fun vs H Q E h => ?_) (fun A outer s H vs Q E hr h => ?_)
  · obtain ⟨_, _, rfl, _⟩ := h; rfl
  obtain ⟨a0, ns, rfl, nl, hs, tb0, k⟩ := h
  refine ⟨_, (pss_cons (ps_set (i := 1) sc_law.nd rfl (Or.inr rfl) (C8.pe_c (c_law_pen T) hr (by decide) (by rfl) (pa_cons (pv 0) pa_nil)))
      (pss_cons (ps_for PassesOwn.never rfl (pi_range1 (by rfl) T.b_range (pa_cons pe_int pa_nil)) (pg_name (i := 2) sc_law.nd rfl (Or.inl rfl))
      (pss_cons (ps_asg (C8.pe_c (c_law_acts T) hr (by decide) (by rfl) (pa_cons (pv 1) (pa_cons pe_int (pa_cons pe_int pa_nil)))) (pg_tup rfl (pgs_cons (pg_name (i := 3) sc_law.nd rfl (Or.inl rfl)) (pgs_cons (pg_name (i := 4) sc_law.nd rfl (Or.inr rfl)) pgs_nil))))
      (pss_cons (ps_asg (pe_tup (pa_cons (C8.pe_mk (c_House_4 T) hr (by decide) (by rfl) (pa_cons (pv 3) (pa_cons pe_int (pa_cons (pe_tup (pa_cons pe_str pa_nil)) (pa_cons (pe_callTy call_tuple_of (by rfl) T.b_tuple (by decide +kernel) (pa_cons (pv 4) pa_nil)) pa_nil))))) (pa_cons (pe_callTy call_tuple_of (by rfl) T.b_tuple (by decide +kernel) (pa_cons (pe_lc (own := [("state", 15)]) (g := gName 15) (by rfl) sc_law.nd (pi_range1 (by rfl) T.b_range (pa_cons (pv 3) pa_nil)) (blkOk_by (own := [("state", 15)]) (N := N_law) (sc := defScope s_law) (by decide +kernel)) (fun _ _ _ _ _ => (pg_name (i := 15) sc_law.nd rfl (Or.inl rfl))) (fun _ _ _ _ _ => (pts_one (pt_cmpR op_eq (C8.pe_c (c_law_draw T) hr (by decide) (by rfl) (pa_cons (pv 1) (pa_cons pe_int pa_nil))) pe_int (nomark _)))) (fun _ _ _ _ _ => (pv 15))) pa_nil)) pa_nil))) (pg_tup rfl (pgs_cons (pg_name (i := 5) sc_law.nd rfl (Or.inr rfl)) (pgs_cons (pg_name (i := 6) sc_law.nd rfl (Or.inr rfl)) pgs_nil))))
      (pss_cons (ps_set (i := 7) sc_law.nd rfl (Or.inl rfl) (pe_op op_rep (pe_lst (pa_cons (C8.pe_mk (c_Ratio_1 T) hr (by decide) (by rfl) (pa_cons pe_int pa_nil)) pa_nil)) (pv 3)))
      (pss_cons (ps_for PassesOwn.never rfl (pi_list (C8.pe_c (c_law_choices T) hr (by decide) (by rfl) (pa_cons (pv 3) (pa_cons (pv 4) pa_nil)))) (pg_name (i := 8) sc_law.nd rfl (Or.inl rfl))
      (pss_cons (ps_set (i := 9) sc_law.nd rfl (Or.inl rfl) (C8.pe_c (c_law_by T) hr (by decide) (by rfl) (pa_cons (pv 3) (pa_cons (pv 4) (pa_cons (pv 8) (pa_cons (pe_callTy (call_dictP rfl) (by rfl) T.b_dict (by decide +kernel) (pa_cons (pe_lc (own := [("state", 15)]) (g := gName 15) (te := (tTup (tCons (tVar 15) (tCons (tMake (CRatio K) (sp_Ratio_init K) [.int 1] C8.E0 (tCons (tC (.int 1)) tNil)) tNil)))) (by rfl) sc_law.nd (pi_tup (pv 6)) (blkOk_by (own := [("state", 15)]) (N := N_law) (sc := defScope s_law) (by decide +kernel)) (fun _ _ _ _ _ => (pg_name (i := 15) sc_law.nd rfl (Or.inl rfl))) (fun _ _ _ _ _ => pts_nil) (fun _ _ _ _ _ => (pe_tup (pa_cons (pv 15) (pa_cons (C8.pe_mk (c_Ratio_1 T) hr (by decide) (by rfl) (pa_cons pe_int pa_nil)) pa_nil))))) pa_nil)) pa_nil))))))
      (pss_cons (ps_set (i := 10) sc_law.nd rfl (Or.inl rfl) (C8.pe_c (c_chance_by T) hr (by decide) (by rfl) (pa_cons (pv 5) (pa_cons (pv 6) (pa_cons (pe_callTy call_tuple_of (by rfl) T.b_tuple (by decide +kernel) (pa_cons (pv 8) pa_nil)) pa_nil)))))
      (pss_cons (ps_if (PW.pt (pw_or (pt_cmpR (op_neTR T hr (by decide)) (pv 10) (pe_callTy call_tuple_of (by rfl) T.b_tuple (by decide +kernel) (pa_cons (pv 9) pa_nil)) (nomark _)) (pw_or1 (pt_cmpR (op_neTR T hr (by decide)) (pe_cbk T hr (by decide) (by rfl) (pk_cons (pe_callTy call_tuple_of (by rfl) T.b_tuple (by decide +kernel) (pa_cons (pv 8) pa_nil)) (pk_cons (pv 6) (pk_cons (pv 5) pk_nil)))) (pv 10) (nomark _))))) (pss_one (ps_ret pe_bl)) pss_nil)
      (pss_one (ps_setLc (i := 7) (own := [("one", 16), ("other", 17)]) (g := gTup K 2 (gCons (gName 16) (gCons (gName 17) (gNil)))) (te := (tIf (tB (tMeth (CRatio K) "is_below" (sp_is_below K) [] C8.E0 (tVar 17) (tCons (tVar 16) tNil))) (tVar 16) (tVar 17))) (by rfl) sc_law.nd rfl rfl (sw_true rfl rfl rfl (by decide +kernel)) (LcZT.pi_zipTL (by rfl) T.b_zip (pa_cons (pv 10) (pa_cons (pv 7) pa_nil))) (blkOk_by (own := [("one", 16), ("other", 17)]) (N := N_law) (sc := defScope s_law) (by decide +kernel)) (fun _ _ _ _ _ => (pg_tup rfl (pgs_cons (pg_name (i := 16) sc_law.nd rfl (Or.inl rfl)) (pgs_cons (pg_name (i := 17) sc_law.nd rfl (Or.inl rfl)) pgs_nil)))) (fun _ _ _ _ _ => pts_nil) (fun _ _ _ _ _ => (pe_ifExp (pt_val (C8.pe_mt (m_is_below T) hr (by decide) (pv 17) (pa_cons (pv 16) pa_nil))) (pv 16) (pv 17)))))))))
      (pss_cons (ps_if (pt_cmpR (op_neTR T hr (by decide)) (pe_callTy call_tuple_of (by rfl) T.b_tuple (by decide +kernel) (pa_cons (pv 7) pa_nil)) (pe_fld (C8.pe_c (c_greatest_coming T) hr (by decide) (by rfl) (pa_cons (pv 5) (pa_cons (pv 6) pa_nil))) rfl) (nomark _)) (pss_one (ps_ret pe_bl)) pss_nil)
      (pss_cons (ps_set (i := 11) sc_law.nd rfl (Or.inl rfl) (pe_callTy call_tuple_of (by rfl) T.b_tuple (by decide +kernel) (pa_cons (pe_ix ix_list (C8.pe_c (c_law_choices T) hr (by decide) (by rfl) (pa_cons (pv 3) (pa_cons (pv 4) pa_nil))) pe_int (fun _ _ => rfl)) pa_nil)))
      (pss_cons (ps_set (i := 12) sc_law.nd rfl (Or.inr rfl) (C8.pe_c (c_law_pick T) hr (by decide) (by rfl) (pa_cons (pv 1) (pa_cons (pe_lst (pa_cons pe_non (pa_cons (pe_callTy call_list_of (by rfl) T.b_list (by decide +kernel) (pa_cons (pv 11) pa_nil)) (pa_cons (pe_slice sl_tupA (pv 11) (po_some pe_int) po_none) (pa_cons (pe_op op_catA (pv 11) (pe_tup (pa_cons pe_int pa_nil))) (pa_cons (pe_op LcU.op_repA (pe_tup (pa_cons pe_non pa_nil)) (pv 3)) (pa_cons (pe_op LcU.op_repA (pe_tup (pa_cons (pe_callB call_len (by rfl) T.b_len (by decide +kernel) (pa_cons (pv 4) pa_nil)) pa_nil)) (pv 3)) (pa_cons (pe_op LcU.op_repA (pe_tup (pa_cons (pe_un un_neg pe_int) pa_nil)) (pv 3)) (pa_cons (pe_op LcU.op_repA (pe_tup (pa_cons pe_bl pa_nil)) (pv 3)) (pa_cons pe_str pa_nil)))))))))) pa_nil))))
      (pss_cons (ps_if (pt_cmpR (op_eqD (hu64 hr)) (pv 12) (pv 11) (nomark _)) (pss_one ps_continue) pss_nil)
      (pss_cons (ps_set (i := 13) sc_law.nd rfl (Or.inr rfl) (C8.pe_c (c_law_pick T) hr (by decide) (by rfl) (pa_cons (pv 1) (pa_cons (pe_lst (pa_cons pe_non (pa_cons (pe_tup (pa_cons (pv 3) pa_nil)) (pa_cons (pe_lst (pa_cons pe_int pa_nil)) (pa_cons (pe_tup (pa_cons pe_int (pa_cons pe_int pa_nil))) pa_nil))))) pa_nil))))
      (pss_cons (ps_set (i := 14) sc_law.nd rfl (Or.inl rfl) (pe_lst (pa_cons (pe_heard0 (k := 9) T TB hcode (hr.mono (by decide)) (by rfl) (by rfl) (LamX.lamS_by (sc := defScope s_law) (by decide +kernel)) (by rfl) (fun _ _ _ _ _ => rfl) (fun A outer s H E f c hr2 => (L2.pe_callS (ok_chance_byP T FC) hr2 (by rfl) T.g_chance_by FC.kp (FC.bindsN (fun _ _ _ _ _ _ us hl => match us, hl with | [_, _, _], _ => rfl)) (E := WE (fun cls d _ H => E cls d H)) (fun σ => L2.passAt (W := fun cls d _ H => E cls d H) (takes_of rfl rfl rfl rfl) σ) (by exact (pa_cons (pv 5) (pa_cons (pv 6) (pa_cons (pv 12) pa_nil))))))) (pa_cons (pe_heard1 (k := 9) (b := "a1") T TB hcode (hr.mono (by decide)) (by rfl) (by rfl) (LcM.lamD_by (N := N_law) (sc := defScope s_law) (by decide +kernel)) (by rfl) (by rfl) (fun _ _ _ _ _ _ => ⟨_, rfl, fun _ => rfl⟩) (fun A outer s H E f c hr2 => (L2.pe_callS (ok_chance_byG T FC) hr2 (by rfl) T.g_chance_by FC.kp (FC.bindsN (fun _ _ _ _ _ _ us hl => match us, hl with | [_, _, _], _ => rfl)) (E := WE (fun cls d _ H => E cls d H)) (fun σ => L2.passAt (W := fun cls d _ H => E cls d H) (takes_of rfl rfl rfl rfl) σ) (by exact (pa_cons (pv 5) (pa_cons (pv 13) (pa_cons (pv 12) pa_nil))))))) (pa_cons (pe_heard1 (k := 9) (b := "a2") T TB hcode (hr.mono (by decide)) (by rfl) (by rfl) (LcM.lamD_by (N := N_law) (sc := defScope s_law) (by decide +kernel)) (by rfl) (by rfl) (fun _ _ _ _ _ _ => ⟨_, rfl, fun _ => rfl⟩) (fun A outer s H E f c hr2 => (L2.pe_callS (ok_chance_byH T FC) hr2 (by rfl) T.g_chance_by FC.kp (FC.bindsN (fun _ _ _ _ _ _ us hl => match us, hl with | [_, _, _], _ => rfl)) (E := WE (fun cls d _ H => E cls d H)) (fun σ => L2.passAt (W := fun cls d _ H => E cls d H) (takes_of rfl rfl rfl rfl) σ) (by exact (pa_cons (pv 4) (pa_cons (pv 13) (pa_cons (pv 12) pa_nil))))))) pa_nil)))))
      (pss_one (ps_if (pt_cmpR (op_neD (hu64 hr)) (pv 14) (pe_lst (pa_cons pe_str (pa_cons pe_str (pa_cons pe_str pa_nil)))) (nomark _)) (pss_one (ps_ret pe_bl)) pss_nil)))))))))))))
      (pss_one (ps_ret pe_bl)))), ?_⟩
  refine ⟨_, rfl, a0, ns, rfl, hs, fun H1 p c s1 p1 => ?_⟩
  refine ⟨(4 : Int), rfl, by omega, by omega, ?_⟩
  refine for_it (walk_range (n := 4)) (fun i σ H2 => (∃ x2 x3 x4 x5 x6 x7 x8 x9 x10 x11 x12 x13 x14, σ = [some (.ref a0), some (.ref p), x2, x3, x4, x5, x6, x7, x8, x9, x10, x11, x12, x13, x14, none, none, none]) ∧ PenV H2 p c (400 * i) ∧ LamX.Tabs (TbL PT) H2)
    ⟨⟨none, none, none, none, none, none, none, none, none, none, none, none, none, rfl⟩, p1, Tabs.s tb0 s1⟩ (fun i σ H2 _ p => trivial) ?_ ?_
  · rintro i x σ H3' H3 hi ⟨⟨x2, x3, x4, x5, x6, x7, x8, x9, x10, x11, x12, x13, x14, rfl⟩, p3, tb3⟩ ⟨rfl, ex⟩
    obtain rfl : x = V.int ((i : Nat) : Int) := ex.trans (congrArg V.int (Int.zero_add _))
    dsimp only [gName, List.set]
    refine ⟨_, rfl, p, c, _, rfl, p3, by omega, fun H4 t n l ac us s4 p4 et hac eac al ok n5 l15 => ?_⟩
    have acp := (pen_fresh p3 hac).1
    have n1 := ok.n1
    obtain ⟨xs3, ea3⟩ := p3.at_
    have tb4 := Tabs.sx tb3 ea3 s4
    refine ⟨t, _, rfl, .inl (.inl et), rfl, _, _, rfl, _, _, rfl, rfl, ?_⟩
    dsimp only [List.set]
    refine ⟨_, rfl, by show 1 ≤ sizeLine; decide, fun m hm => ?_⟩
    refine ⟨_, rfl, ac, us, rfl, .inl ⟨.inl (.inl (same_upd hm _ _ eac)), fun ta hta => ?_⟩⟩
    have t5 := (same_upd (o := .tup [.str "x"]) hm).trans (same_upd (o := .tup us) hta)
    have em : upd (upd H4 m (.tup [.str "x"])) ta (.tup us) m = some (.tup [.str "x"]) := same_upd hta _ _ upd_same
    have eta : upd (upd H4 m (.tup [.str "x"])) ta (.tup us) ta = some (.tup us) := upd_same
    generalize upd (upd H4 m (.tup [.str "x"])) ta (.tup us) = H5 at t5 em eta
    refine fun x dx hx hdx ne => ?_
    have s6 := same_made (o := .ins (CHouse K) dx []) hx hdx
    refine ⟨n, x, dx, m, .ref ta, l, rfl, upd_same, s6 _ _ em, ⟨ta, us, rfl, s6 _ _ eta, al.imp fun x y z => z.n (same_n (t5.trans s6))⟩, ok, fun H6 sx hv he => ⟨rfl, ?_⟩⟩
    have s46 : Same H4 H6 := t5.trans (same_mk hx hdx ne sx)
    have p6 := p4.same s46
    have tb6 := Tabs.s tb4 s46
    have eac6 := s46 _ _ eac
    have al6 : All2 (ActV H6) us l := al.imp fun x y z => z.n (same_n s46)
    clear sx s46 s6 em eta t5 hx hdx hm hta ne al eac p4 tb4 he tb3 ea3
    refine ⟨_, rfl, (n : Int), rfl, by omega, by omega, fun D hD => ?_⟩
    obtain ⟨pD, cD⟩ := pen_fresh p6 hD
    have hD6 := hD
    refine lc_it walk_range (fun j H' => SameX p H6 H' ∧ PenV H' p c (400 * i + 300 + j) ∧ ∃ g : List Nat, H' D = some (.lst (g.map fun s : Nat => V.int (s : Int))) ∧ g.Pairwise (· < ·) ∧ (∀ s ∈ g, s < j) ∧ g.length ≤ j)
      ⟨SameX.of (same_upd hD), p6.other pD cD, [], upd_same, List.Pairwise.nil, fun _ h => by simp at h, Nat.zero_le _⟩ (fun _ _ _ _ => trivial) (fun j x H7 H7' hj pv y => ?_) (fun H8 pv => ?_)
    · obtain ⟨rfl, ex⟩ := y
      obtain rfl : x = V.int ((j : Nat) : Int) := ex.trans (congrArg V.int (Int.zero_add _))
      have pv' : SameX p H6 H7' ∧ PenV H7' p c (400 * i + 300 + j) ∧ ∃ g : List Nat, H7' D = some (.lst (g.map fun s : Nat => V.int (s : Int))) ∧ g.Pairwise (· < ·) ∧ (∀ s ∈ g, s < j) ∧ g.length ≤ j := pv
      clear pv
      obtain ⟨s7, p7, g, eD, gp, gj, gl⟩ := pv'
      have hj1 : j < n := by have h : j < (n : Int).toNat := hj; omega
      refine ⟨rfl, _, rfl, p, c, _, 3, rfl, p7, by decide, by decide, by omega, fun H9 r' s9 p9 q0 q1 => ⟨rfl, _, rfl, ite2 (fun h1 => ?_) (fun h1 => ?_)⟩⟩
      · refine ⟨_, rfl, _, s9 _ _ pD eD, Nat.lt_of_le_of_lt (by rw [List.length_map]; omega : (g.map fun s : Nat => V.int (s : Int)).length ≤ 6) (by decide), ?_⟩
        refine ⟨samex_at (s7.trans s9) hD6, p9.other pD cD, g ++ [j], by rw [upd_same, List.map_append]; rfl, ?_, fun s hs => ?_, by rw [List.length_append]; exact Nat.succ_le_succ gl⟩
        · refine List.pairwise_append.mpr ⟨gp, List.pairwise_singleton _ _, fun a ha b hb => ?_⟩
          rw [List.mem_singleton.mp hb]
          exact gj a ha
        · rcases List.mem_append.mp hs with h | h
          · have := gj s h
            omega
          · rw [List.mem_singleton.mp h]; omega
      · exact ⟨s7.trans s9, p9, g, s9 _ _ pD eD, gp, fun s hs => by have := gj s hs; omega, by omega⟩
    have pv' : SameX p H6 H8 ∧ PenV H8 p c (400 * i + 300 + (n : Int).toNat) ∧ ∃ g : List Nat, H8 D = some (.lst (g.map fun s : Nat => V.int (s : Int))) ∧ g.Pairwise (· < ·) ∧ (∀ s ∈ g, s < (n : Int).toNat) ∧ g.length ≤ (n : Int).toNat := pv
    clear pv
    obtain ⟨s8, p8, g, eD, gp, gn, gl⟩ := pv'
    rw [Int.toNat_natCast] at p8 gn gl
    obtain ⟨xs6, ea6⟩ := p6.at_
    have sn8 := s8.n ea6
    have tb8 := Tabs.sx tb6 ea6 s8
    have eac8 : H8 ac = some (.lst us) := s8 _ _ acp eac6
    have al8 : All2 (ActV H8) us l := al6.imp fun x y z => z.n sn8
    have hv8 : HouseV K H8 (.ref x) n l := HouseV.n hv sn8
    clear hv al6 eac6 s8 sn8 ea6 hD6 tb6
    refine ⟨D, _, rfl, .inl ⟨.inl (.inl eD), fun G hG => ?_⟩⟩
    refine ⟨by show 2 ≤ sizeLine; decide, fun tp htp => ⟨tp, _, rfl, .inl (.inl upd_same), rfl, _, _, rfl, _, _, rfl, rfl, ?_⟩⟩
    dsimp only [List.set]
    have s9 := (same_upd (o := .tup (g.map fun s : Nat => V.int (s : Int))) hG).trans (same_upd (o := .tup [.ref x, .ref G]) htp)
    have eG : upd (upd H8 G (.tup (g.map fun s : Nat => V.int (s : Int)))) tp (.tup [.ref x, .ref G]) G = some (.tup (intV g)) := same_upd htp _ _ upd_same
    generalize upd (upd H8 G (.tup (g.map fun s : Nat => V.int (s : Int)))) tp (.tup [.ref x, .ref G]) = H9 at s9 eG
    have p9 := p8.same s9
    have tb9 := Tabs.s tb8 s9
    have eac9 := s9 _ _ eac8
    have al9 : All2 (ActV H9) us l := al8.imp fun x y z => z.n (same_n s9)
    have hv9 : HouseV K H9 (.ref x) n l := hv8.n (same_n s9)
    clear hG s9 eac8 al8 hv8 eD hD p6 p8 htp tb8
    have gd : g.Nodup := gp.imp fun h e => by omega
    have A9 : ActsL H9 (.ref ac) l := ⟨ac, us, rfl, eac9, al9⟩
    refine fun xr dxr hxr hdxr ner => mR1 hxr hdxr ner fun H10 s10 hz => ⟨rfl, by show 1 ≤ sizeLine; decide, fun Lz hLz => ?_⟩
    have s11 := s10.trans (same_upd (o := .lst [.ref xr]) hLz)
    have hz2 : IsR K (upd H10 Lz (.lst [.ref xr])) (.ref xr) 0 := (show IsR K H10 (.ref xr) 0 from hz).n (sameN_new hLz)
    refine ⟨_, rfl, Lz, (n : Int), [.ref xr], rfl, rfl, upd_same, by omega, by omega, ?_, fun B0 hB0 => ?_⟩
    · rw [Int.toNat_natCast]
      exact Nat.le_trans (by simp; omega : [V.ref xr].length * n ≤ 6) (by decide)
    rw [Int.toNat_natCast]
    have flt : (List.replicate n [V.ref xr]).flatten = List.replicate n (V.ref xr) := by simp
    rw [flt]
    dsimp only [List.set]
    have s12 := s11.trans (same_upd (o := .lst (List.replicate n (V.ref xr))) hB0)
    have nb : NumsL K (upd (upd H10 Lz (.lst [.ref xr])) B0 (.lst (List.replicate n (V.ref xr)))) (.ref B0) (List.replicate n 0) := ⟨B0, _, rfl, upd_same, by simp, fun j u q h1 h2 => by
      rw [(List.mem_replicate.mp (List.mem_of_getElem? h1)).2, (List.mem_replicate.mp (List.mem_of_getElem? h2)).2]
      exact hz2.n (sameN_new hB0)⟩
    generalize upd (upd H10 Lz (.lst [.ref xr])) B0 (.lst (List.replicate n (V.ref xr))) = H12 at s12 nb
    refine ⟨_, rfl, _, rfl, .ref ac, n, l, rfl, A9.s s12, ok, n5, l15, fun H13 vc s13 cv => ?_⟩
    have s913 := s12.trans s13
    obtain ⟨ca, cus, rfl, ec, cl⟩ := cv
    refine ⟨ca, rfl, ⟨cus, .inl (.inl ec)⟩, ?_⟩
    refine for_it walk_list (fun j σ H14 => (∃ bv y8 y9 y10 q, σ = [some (.ref a0), some (.ref p), some (.int (i : Int)), some (.int (n : Int)), some (.ref ac), some (.ref x), some (.ref G), some bv, y8, y9, y10, x11, x12, x13, x14, none, none, none] ∧ NumsL K H14 bv q ∧ BestOk n l g ((choices l n).take j) q) ∧ Same H13 H14)
      ⟨⟨_, x8, x9, x10, _, rfl, nb.s s13, by rw [List.take_zero]; exact best_zero⟩, Same.refl _⟩ (fun j σ H14 _ p => .inl (.inl (p.2 _ _ ec))) ?_ ?_
    · rintro j xj σ H14' H14 hj ⟨⟨bv, y8, y9, y10, q, rfl, nq, BO⟩, s14⟩ ⟨rfl, hx⟩
      obtain ⟨c, hc, cb, rfl, ecb⟩ := cl.get' hx
      have fok : FullOk n l c := choices_full.mp (List.mem_of_getElem? hc)
      have tk : (choices l n).take (j + 1) = (choices l n).take j ++ [c] := by rw [List.take_add_one, hc]; rfl
      have s914 := s913.trans s14
      have eG14 := s914 _ _ eG
      have S1 : SqT K H14 G (intV g) := .inl (.inl eG14)
      have il : (intV g).length = g.length := List.length_map _
      dsimp only [gName, List.set]
      refine ⟨_, rfl, _, rfl, _, rfl, _, rfl, G, rfl, ⟨_, S1⟩, fun D hD => ?_⟩
      refine lcm walk_tup hD (Nat.le_trans (by omega : (intV g).length ≤ 5) (by decide)) (fun _ => true) (fun j y H6 => ∃ t r s0, y = .ref t ∧ g[j]? = some s0 ∧ H6 t = some (.tup [.int (s0 : Nat), r]) ∧ IsR K H6 r 1) (fun j y H6 H7 s z => ?_) (fun H6 s => same_seqT s S1) (fun j x H6' H6 kN' kY hj s y kn ky => ?_) (fun H6 ys s6 e6 kp => ?_)
      · obtain ⟨t, r, s0, h1, h2, h3, h4⟩ := z
        exact ⟨t, r, s0, h1, h2, s _ _ h3 trivial, h4.n s⟩
      · obtain ⟨rfl, hx⟩ := y
        unfold intV at hx
        rw [List.getElem?_map] at hx
        obtain ⟨s0, hs0, rfl⟩ := Option.map_eq_some_iff.mp hx
        refine ⟨rfl, yes ⟨_, rfl, fun x dx hx hdx ne => mR1 hx hdx ne fun H7 s7 hz => ⟨rfl, by show 2 ≤ sizeLine; decide, fun t ht => ?_⟩⟩⟩
        exact ky _ _ (s7.trans (same_upd ht)) rfl ⟨t, .ref x, s0, rfl, hs0, upd_same, (show IsR K H7 (.ref x) 1 from hz).n (sameN_new ht)⟩
      obtain ⟨l1, l2⟩ := kp.all
      rw [il] at l1
      obtain ⟨ps, rs, eys, pl, rl, hps⟩ := dict_parts l1 l2
      subst eys
      have zl : ((g.map keyN).zip rs).length = g.length := by rw [List.length_zip, List.length_map]; omega
      refine ⟨D, ps, (g.map keyN).zip rs, rfl, .inl (.inl e6), paired_mk (by omega) fun j t kv ht hkv => ?_, fun pd hpd => ?_⟩
      · rw [List.getElem?_zip_eq_some] at hkv
        obtain ⟨h1, h2⟩ := hkv
        rw [List.getElem?_map] at h1
        obtain ⟨s0, hs0, e⟩ := Option.map_eq_some_iff.mp h1
        obtain ⟨t', r', a1, a2, a3, _⟩ := hps j s0 hs0
        rw [ht] at a1
        rw [h2] at a2
        cases a1
        cases a2
        rw [← e]
        exact .inl (.inl a3)
      have knd : (((g.map keyN).zip rs).map (·.1)).Nodup := by
        rw [zip_fst g rs rl]
        exact List.pairwise_map.mpr (gd.imp fun h e => h (keyN_inj e))
      rw [merge_app _ [] (by simpa using knd), List.nil_append]
      have s7 := s6.trans (same_upd (o := .dK ((g.map keyN).zip rs)) hpd)
      have W7 : WorthsV K (upd H6 pd (.dK ((g.map keyN).zip rs))) (.ref pd) g := ⟨pd, _, rfl, upd_same, zip_fst g rs rl, fun s0 hs0 => by
        obtain ⟨j, hj, e⟩ := List.getElem_of_mem hs0
        have hg := List.getElem?_eq_getElem hj
        rw [e] at hg
        obtain ⟨t', r', a1, a2, a3, a4⟩ := hps j s0 hg
        exact ⟨r', by rw [zip_get g rs j s0 gd hg rl, a2], a4.n (sameN_new hpd)⟩⟩
      generalize upd H6 pd (.dK ((g.map keyN).zip rs)) = H7 at s7 W7
      refine ⟨.ref ac, n, l, cb, c, .ref pd, g, rfl, A9.s (s914.trans s7), ok, by omega, (s14.trans s7) _ _ ecb, fok, W7, gn, fun H8 ta tus tq far s8 et at_ tl pok had tz => ?_⟩
      dsimp only [List.set]
      have s78 := s7.trans s8
      have s148 := s14.trans s78
      have s98 := s914.trans s78
      clear W7 knd zl hps l2 e6 kp hpd s7 s8 hD
      -- told
      refine ⟨_, rfl, _, rfl, _, rfl, cb, _, rfl, .inl ⟨.inl (.inl (s148 _ _ ecb)), fun tc htc => ?_⟩⟩
      have s15 := s98.trans (same_upd (o := .tup (intV c)) htc)
      refine ⟨.ref x, n, l, .ref G, g, tc, c, rfl, hv9.n (same_n s15), ok, by omega, ⟨G, rfl, s15 _ _ eG⟩, asc_pw gp, gn, upd_same, fok, fun H16 t2 us2 q2 far2 s16 et2 at2 tl2 pok2 had2 tz2 => ?_⟩
      dsimp only [List.set]
      obtain rfl : q2 = tq := num_ext tl2 tl fun s hs => LC.had_unique (hs_ok ok) pok2.ok had2 had s hs
      have s816 := (same_upd (o := .tup (intV c)) htc).trans s16
      have s916 := s98.trans s816
      have et16 := s816 _ _ et
      have at16 := at_.imp fun x y z => z.n (same_n s816)
      clear htc s15 s16 pok2 had2 tz2
      -- told != tuple(due)
      refine ⟨_, rfl, _, rfl, ta, tus, rfl, .inl ⟨.inl (.inl et16), fun tu htu => ?_⟩⟩
      have u17 := same_upd (o := .tup tus) htu
      refine ⟨t2, tu, us2, tus, q2, rfl, rfl, u17 _ _ et2, upd_same, at2.imp fun x y z => z.n (same_n u17), at16.imp fun x y z => z.n (same_n u17), fun H18 s18 => ⟨_, rfl, iteF ?_⟩⟩
      have s1618 := u17.trans s18
      have s918 := s916.trans s1618
      have s1418 := s78.trans (s816.trans s1618)
      clear htu u17 s18
      -- by keywords
      refine ⟨_, rfl, cb, _, rfl, .inl ⟨.inl (.inl ((s14.trans s1418) _ _ ecb)), fun tc2 htc2 => ?_⟩⟩
      have s19 := s918.trans (same_upd (o := .tup (intV c)) htc2)
      refine ⟨_, rfl, _, rfl, .ref x, n, l, .ref G, g, tc2, c, rfl, hv9.n (same_n s19), ok, by omega, ⟨G, rfl, s19 _ _ eG⟩, asc_pw gp, gn, upd_same, fok, fun H20 t3 us3 q3 far3 s20 et3 at3 tl3 pok3 had3 tz3 => ?_⟩
      obtain rfl : q3 = q2 := num_ext tl3 tl fun s hs => LC.had_unique (hs_ok ok) pok3.ok had3 had s hs
      have s1820 := (same_upd (o := .tup (intV c)) htc2).trans s20
      have s1620 := s1618.trans s1820
      refine ⟨_, rfl, t3, t2, us3, us2, q3, rfl, rfl, et3, s1620 _ _ et2, at3, at2.imp fun x y z => z.n (same_n s1620), fun H21 s21 => ⟨_, rfl, iteF ?_⟩⟩
      have s1621 := s1620.trans s21
      have s1421 := s1418.trans (s1820.trans s21)
      clear htc2 s19 s20 s21 s1820 s1620 pok3 had3 tz3 s918 s1618 s1418
      -- best
      obtain ⟨ba, bus, rfl, eb, ab⟩ := nq.s s1421
      have et21 := s1621 _ _ et2
      have at21 := at2.imp fun x y z => z.n (same_n s1621)
      have tul : us2.length = n := at2.1.trans tl
      have bul : bus.length = n := ab.1.trans BO.len
      refine ⟨_, rfl, _, rfl, t2, ba, us2, bus, rfl, .inl (.inl et21), .inl (.inl eb), fun D3 hD3 => ?_⟩
      refine lcm (LcZT.walk_zipTL tul bul) hD3 (Nat.le_trans (by omega : n ≤ 5) (by decide)) (fun _ => true) (fun j y H9 => ∃ a b, q3[j]? = some a ∧ q[j]? = some b ∧ IsR K H9 y (if b < a then a else b)) (fun j y H9 H10 s z => ?_) (fun H9 s => ⟨.inl (.inl (s _ _ et21)), .inl (.inl (s _ _ eb))⟩) (fun j x H9' H9 kN' kY hj s y kn ky => ?_) (fun H9 zs s9 e9 kp9 => ?_)
      · obtain ⟨a, b, a1, a2, r⟩ := z
        exact ⟨a, b, a1, a2, r.n s⟩
      · obtain ⟨Tq, x1, y1, rfl, hTq, rfl, hx1, hy1⟩ := y
        obtain ⟨a, ha, ra⟩ := at21.get' hx1
        obtain ⟨b, hb, rb⟩ := ab.get' hy1
        have t6 := same_upd (o := .tup [x1, y1]) hTq
        have ra' := ra.n (same_n (s.trans t6))
        have rb' := rb.n (same_n (s.trans t6))
        obtain ⟨b2, d2, rfl, eb2⟩ := id rb'
        refine ⟨_, _, rfl, .inl (.inl upd_same), rfl, _, _, rfl, _, _, rfl, rfl, rfl, yes ?_⟩
        refine ⟨_, rfl, b2, d2, _, rfl, eb2, rfl, _, rfl, _, _, b, a, _, _, _, _, rfl, rb', .inl ra', BO.sz b (List.mem_of_getElem? hb), tz a (List.mem_of_getElem? ha), by omega, _, rfl, ite2 (fun h => ?_) (fun h => ?_)⟩
        · have h := of_decide_eq_true h
          exact ⟨_, rfl, ky _ _ t6 rfl ⟨a, b, ha, hb, by rw [if_pos h]; exact ra'⟩⟩
        · have h : ¬ b < a := fun z => h (decide_eq_true z)
          exact ⟨_, rfl, ky _ _ t6 rfl ⟨a, b, ha, hb, by rw [if_neg h]; exact rb'⟩⟩
      obtain ⟨m1, m2⟩ := kp9.all
      have q'l : ((List.range n).map fun s => if numN q s < numN q3 s then numN q3 s else numN q s).length = n := by simp
      refine ⟨⟨.ref D3, _, _, _, (List.range n).map fun s => if numN q s < numN q3 s then numN q3 s else numN q s, rfl, ⟨D3, zs, rfl, e9, all2_of (by rw [m1, q'l]) fun j y hy => ?_⟩, ?_⟩, s14.trans (s1421.trans s9)⟩
      · have hj : j < n := by have := (List.getElem?_eq_some_iff.mp hy).1; omega
        obtain ⟨a, b, a1, a2, r⟩ := m2 j y hy
        refine ⟨_, by rw [List.getElem?_map, List.getElem?_range hj]; rfl, ?_⟩
        have ea : numN q3 j = a := by unfold numN; rw [a1]; rfl
        have eb : numN q j = b := by unfold numN; rw [a2]; rfl
        simp only [ea, eb]
        exact r
      · rw [tk]
        refine BO.snoc ok pok had tl tz q'l fun s hs => ?_
        have : numN ((List.range n).map fun s => if numN q s < numN q3 s then numN q3 s else numN q s) s = if numN q s < numN q3 s then numN q3 s else numN q s := by
          conv => lhs; unfold numN
          rw [List.getElem?_map, List.getElem?_range hs]
          rfl
        exact this
    · rintro σ H14 ⟨⟨bv, y8, y9, y10, q, rfl, nq, BO⟩, s14⟩
      rw [cl.1, List.take_length] at BO
      have s914 := s913.trans s14
      obtain ⟨ba, bus, rfl, eb, ab⟩ := nq
      refine ⟨_, rfl, ba, bus, rfl, .inl ⟨.inl (.inl eb), fun tB htB => ?_⟩⟩
      have s15 := s914.trans (same_upd (o := .tup bus) htB)
      refine ⟨_, rfl, _, rfl, .ref x, n, l, .ref G, g, rfl, hv9.n (same_n s15), ok, by omega, ⟨G, rfl, s15 _ _ eG⟩, asc_pw gp, gn, fun H16 vg tq tp tr s16 gv gs => ?_⟩
      obtain rfl := great_due ok gn gs BO
      obtain ⟨xc, dxc, t1, t2, t3, us2, rfl, exc, et1, alt, et2, et3⟩ := id gv
      have s1416 := (same_upd (o := .tup bus) htB).trans s16
      refine ⟨xc, _, dxc, _, _, rfl, exc, T.cl_Coming, T.na_Coming_numbers, rfl, tB, t1, bus, us2, q, rfl, rfl, s16 _ _ upd_same, et1, ab.imp fun x y z => z.n (same_n s1416), alt, fun H17 s17 => ⟨_, rfl, iteF ?_⟩⟩
      have s917 := s914.trans (s1416.trans s17)
      clear s15 s16 s17 s1416 gv exc et1 et2 et3 alt htB eb ab gs BO s914 s913 s14 cl ec nb
      have p17 := p9.same s917
      have tb17 := Tabs.s tb9 s917
      have A17 := A9.s s917
      have hv17 : HouseV K H17 (.ref x) n l := hv9.n (same_n s917)
      have eG17 := s917 _ _ eG
      have eac17 := s917 _ _ eac9
      have ul : us.length = l.length := al9.1
      clear s917 p9 tb9 A9 hv9 eG eac9 al9
      -- fine
      refine ⟨_, rfl, _, rfl, .ref ac, n, l, rfl, A17, ok, n5, l15, fun H18 vc s18 cv => ?_⟩
      obtain ⟨ca, cus, rfl, ec, cl⟩ := cv
      obtain ⟨cf, fokf⟩ := full_ex ok
      obtain ⟨f0, hf0⟩ : ∃ f0, (choices l n)[0]? = some f0 := by
        have h := choices_full.mpr fokf
        cases e : choices l n with
        | nil => rw [e] at h; cases h
        | cons c r => exact ⟨c, rfl⟩
      have fok0 : FullOk n l f0 := choices_full.mp (List.mem_of_getElem? hf0)
      obtain ⟨u0, hu0, cb, rfl, ecb⟩ := cl.get hf0
      refine ⟨ca, cus, 0, .ref cb, rfl, rfl, .inl (.inl ec), atI_nat (j := 0) hu0, cb, _, rfl, .inl ⟨.inl (.inl ecb), fun tf htf => ?_⟩⟩
      dsimp only [List.set]
      have fl : (intV f0).length = n := by unfold intV; rw [List.length_map]; exact fok0.len
      have fne : intV f0 ≠ [] := fun z => by rw [z] at fl; simp at fl; omega
      have s20 := s18.trans (same_upd (o := .tup (intV f0)) htf)
      have ef : upd H18 tf (.tup (intV f0)) tf = some (.tup (intV f0)) := upd_same
      generalize upd H18 tf (.tup (intV f0)) = H20 at s20 ef
      have p20 := p17.same s20
      have tb20 := Tabs.s tb17 s20
      have hv20 : HouseV K H20 (.ref x) n l := hv17.n (same_n s20)
      have eG20 := s20 _ _ eG17
      have eac20 := s20 _ _ eac17
      clear s20 p17 tb17 A17 hv17 eG17 eac17 s18 ec cl htf ecb hu0
      -- odd
      refine ⟨_, rfl, _, rfl, tf, intV f0, rfl, .inr (.inl (.inl ef)), fun o1 ho1 => ?_⟩
      have o1p := (pen_fresh p20 ho1).1
      have e1 : upd H20 o1 (.lst (intV f0)) o1 = some (.lst (intV f0)) := upd_same
      have r1 := same_upd (o := .lst (intV f0)) ho1
      generalize upd H20 o1 (.lst (intV f0)) = I1 at e1 r1
      refine ⟨_, rfl, 1, rfl, tf, intV f0, rfl, .inl (.inl (r1 _ _ ef)), fun z => ?_, fun _ o2 ho2 => ?_⟩
      · have z1 := z.1
        rw [show (1 : Int) = ((1 : Nat) : Int) from rfl, HT.sIx_nat, fl] at z1
        omega
      rw [cut1]
      have e2 : upd I1 o2 (.tup ((intV f0).drop 1)) o2 = some (.tup ((intV f0).drop 1)) := upd_same
      have r2 := r1.trans (same_upd (o := .tup ((intV f0).drop 1)) ho2)
      have e1 := same_upd (o := .tup ((intV f0).drop 1)) ho2 _ _ e1
      generalize upd I1 o2 (.tup ((intV f0).drop 1)) = I2 at e1 e2 r2
      refine ⟨_, rfl, by show 1 ≤ sizeLine; decide, fun q3 hq3 => ?_⟩
      have v3 := same_upd (o := .tup [.int 0]) hq3
      refine ⟨tf, q3, intV f0, [.int 0], rfl, rfl, .inl (.inl (v3 _ _ (r2 _ _ ef))), .inl (.inl upd_same), ?_, fun z => absurd z fne, (fun _ z => nomatch z), fun _ _ o3 ho3 => ?_⟩
      · rw [fl]
        exact Nat.le_trans (by simp; omega : n + [V.int 0].length ≤ 6) (by decide)
      have w3 := v3.trans (same_upd (o := .tup (intV f0 ++ [.int 0])) ho3)
      have e3 : upd (upd I2 q3 (.tup [.int 0])) o3 (.tup (intV f0 ++ [.int 0])) o3 = some (.tup (intV f0 ++ [.int 0])) := upd_same
      generalize upd (upd I2 q3 (.tup [.int 0])) o3 (.tup (intV f0 ++ [.int 0])) = I3 at w3 e3
      have r3 := r2.trans w3
      have e1 := w3 _ _ e1
      have e2 := w3 _ _ e2
      refine ⟨by show 1 ≤ sizeLine; decide, fun q4 hq4 => ⟨_, rfl, LcU.rRep_one upd_same n1 (by omega) fun o4 I4 g4 e4 => ?_⟩⟩
      have w4 : Same I3 I4 := (same_upd hq4).trans g4
      have r4 := r3.trans w4
      have e1 := w4 _ _ e1
      have e2 := w4 _ _ e2
      have e3 := w4 _ _ e3
      refine ⟨_, rfl, _, us.length, rfl, .inl ⟨us, .inl (.inl (r4 _ _ eac20)), rfl⟩, ?_⟩
      refine ⟨by show 1 ≤ sizeLine; decide, fun q5 hq5 => ⟨_, rfl, LcU.rRep_one upd_same n1 (by omega) fun o5 I5 g5 e5 => ?_⟩⟩
      have w5 : Same I4 I5 := (same_upd hq5).trans g5
      have r5 := r4.trans w5
      have e1 := w5 _ _ e1
      have e2 := w5 _ _ e2
      have e3 := w5 _ _ e3
      have e4 := w5 _ _ e4
      refine ⟨1, rfl, by show 1 ≤ sizeLine; decide, fun q6 hq6 => ⟨_, rfl, LcU.rRep_one upd_same n1 (by omega) fun o6 I6 g6 e6 => ?_⟩⟩
      have w6 : Same I5 I6 := (same_upd hq6).trans g6
      have r6 := r5.trans w6
      have e1 := w6 _ _ e1
      have e2 := w6 _ _ e2
      have e3 := w6 _ _ e3
      have e4 := w6 _ _ e4
      have e5 := w6 _ _ e5
      refine ⟨by show 1 ≤ sizeLine; decide, fun q7 hq7 => ⟨_, rfl, LcU.rRep_one upd_same n1 (by omega) fun o7 I7 g7 e7 => ?_⟩⟩
      have w7 : Same I6 I7 := (same_upd hq7).trans g7
      have r7 := r6.trans w7
      have e1 := w7 _ _ e1
      have e2 := w7 _ _ e2
      have e3 := w7 _ _ e3
      have e4 := w7 _ _ e4
      have e5 := w7 _ _ e5
      have e6 := w7 _ _ e6
      refine ⟨by show 9 ≤ sizeLine; decide, fun lo hlo => ?_⟩
      have p7 := p20.same r7
      have lop := (pen_fresh p7 hlo).1
      obtain ⟨xs7, ea7⟩ := p7.at_
      have w8 := same_upd (o := .lst [.non, .ref o1, .ref o2, .ref o3, .ref o4, .ref o5, .ref o6, .ref o7, .str "0"]) hlo
      refine ⟨p, c, _, lo, _, rfl, p7.same w8, by omega, upd_same, lop, by simp, by simp, fun J8 yo x8' p8 hm => ?_⟩
      dsimp only [List.set]
      have tupK : ∀ b zs, I7 b = some (.tup zs) → J8 b = some (.tup zs) := fun b zs e => x8' _ _ (fun z => by rw [z, ea7] at e; cases e) (w8 _ _ e)
      have f1 : J8 o1 = some (.lst (intV f0)) := x8' _ _ o1p (w8 _ _ e1)
      have f2 := tupK _ _ e2
      have f3 := tupK _ _ e3
      have f4 := tupK _ _ e4
      have f5 := tupK _ _ e5
      have f6 := tupK _ _ e6
      have f7 := tupK _ _ e7
      have ff := tupK _ _ (r7 _ _ ef)
      have fG := tupK _ _ (r7 _ _ eG20)
      have fac : J8 ac = some (.lst us) := x8' _ _ acp (w8 _ _ (r7 _ _ eac20))
      have tb8 := Tabs.sx (Tabs.s tb20 (r7.trans w8)) (w8 _ _ ea7) x8'
      have hv8 : HouseV K J8 (.ref x) n l := (hv20.n (same_n (r7.trans w8))).n (x8'.n (w8 _ _ ea7))
      clear e1 e2 e3 e4 e5 e6 e7 r1 r2 r3 r4 r5 r6 r7 w3 w4 w5 w6 w7 v3 g4 g5 g6 g7 hlo ho1 ho2 ho3 hq3 hq4 hq5 hq6 hq7 ef eG20 eac20 tb20 hv20 p7 p20 x8' w8 tupK ea7
      obtain ⟨xs8, ea8⟩ := p8.at_
      have tN : ∀ {b : Addr} {zs : List V}, J8 b = some (.tup zs) → b ≠ p := fun {b zs} e z => by rw [z, ea8] at e; cases e
      have OW : (∀ J, SameX p J8 J → OddP n l J yo) ∧ ∃ d, Dp K J8 yo d ∧ SeqAt.shaped d = true := by
        have rp : ∀ {z : V}, Flt3 z → ∀ x ∈ List.replicate n z, Flt3 x := fun {z} h x hx => by rw [(List.mem_replicate.mp hx).2]; exact h
        have ln : ∀ {z : V}, (List.replicate n z).length ≤ 10 := fun {z} => by rw [List.length_replicate]; omega
        have at_ : ∀ {z : V} {i : Nat} {y : V}, (List.replicate n z)[i]? = some y → y = z := fun {z i y} h => (List.mem_replicate.mp (List.mem_of_getElem? h)).2
        simp only [List.mem_cons, List.not_mem_nil, or_false] at hm
        rcases hm with rfl | rfl | rfl | rfl | rfl | rfl | rfl | rfl | rfl
        · exact ⟨fun _ _ => .inl rfl, _, .non, by decide +kernel⟩
        · exact ⟨fun J s => .inr (.inr (.inl ⟨o1, _, rfl, s _ _ o1p f1⟩)), dp_lst f1 (flt_ints f0)⟩
        · exact ⟨fun J s => .inr (.inr (.inr ⟨o2, _, rfl, s _ _ (tN f2) f2, by rw [List.length_drop, fl]; omega, .inl (by rw [List.length_drop, fl]; omega)⟩)), dp_tup f2 fun x hx => flt_ints f0 x (List.mem_of_mem_drop hx)⟩
        · refine ⟨fun J s => .inr (.inr (.inr ⟨o3, _, rfl, s _ _ (tN f3) f3, by rw [List.length_append, fl]; simp; omega, .inl (by rw [List.length_append, fl]; simp)⟩)), dp_tup f3 fun x hx => ?_⟩
          rcases List.mem_append.mp hx with h | h
          · exact flt_ints f0 x h
          · rw [List.mem_singleton.mp h]
            exact .inr (.inr ⟨_, rfl⟩)
        · exact ⟨fun J s => .inr (.inr (.inr ⟨o4, _, rfl, s _ _ (tN f4) f4, ln, .inr fun i x hx => .inl (at_ hx)⟩)), dp_tup f4 (rp (.inl rfl))⟩
        · refine ⟨fun J s => .inr (.inr (.inr ⟨o5, _, rfl, s _ _ (tN f5) f5, ln, .inr fun i x hx => .inr (.inr ⟨_, at_ hx, fun a ha hm => ?_⟩)⟩)), dp_tup f5 (rp (.inr (.inr ⟨_, rfl⟩)))⟩
          obtain ⟨d, hd, _⟩ := actsAt_mem.mp hm
          have := (List.getElem?_eq_some_iff.mp hd).1
          omega
        · exact ⟨fun J s => .inr (.inr (.inr ⟨o6, _, rfl, s _ _ (tN f6) f6, ln, .inr fun i x hx => .inr (.inr ⟨_, at_ hx, fun a ha => by omega⟩)⟩)), dp_tup f6 (rp (.inr (.inr ⟨_, rfl⟩)))⟩
        · exact ⟨fun J s => .inr (.inr (.inr ⟨o7, _, rfl, s _ _ (tN f7) f7, ln, .inr fun i x hx => .inr (.inl (at_ hx))⟩)), dp_tup f7 (rp (.inr (.inl ⟨_, rfl⟩)))⟩
        · exact ⟨fun _ _ => .inr (.inl rfl), _, .str "0", by decide +kernel⟩
      obtain ⟨odd, d, hd, sd⟩ := OW
      obtain ⟨df, hdf, sdf⟩ := dp_tup (K := K) ff (flt_ints f0)
      clear f1 f2 f3 f4 f5 f6 f7 hm ff
      refine ⟨_, rfl, _, rfl, d, df, hd, hdf, sd, sdf, _, rfl, ite2 (fun _ => ?_) (fun _ => ?_)⟩
      · exact ⟨⟨_, _, _, _, _, _, _, _, _, _, _, _, _, rfl⟩, p8.le (by omega), tb8⟩
      clear hd hdf sd sdf
      -- bad
      refine ⟨_, rfl, _, rfl, by show 1 ≤ sizeLine; decide, fun b1 hb1 => ?_⟩
      have v1 := same_upd (o := .tup [.int (n : Int)]) hb1
      have c1 : upd J8 b1 (.tup [.int (n : Int)]) b1 = some (.tup [.int (n : Int)]) := upd_same
      generalize upd J8 b1 (.tup [.int (n : Int)]) = J9 at v1 c1
      refine ⟨by show 1 ≤ sizeLine; decide, fun b2 hb2 => ?_⟩
      have b2p := (pen_fresh (p8.same v1) hb2).1
      have v2 := v1.trans (same_upd (o := .lst [.int 0]) hb2)
      have c1 := same_upd (o := .lst [.int 0]) hb2 _ _ c1
      have c2 : upd J9 b2 (.lst [.int 0]) b2 = some (.lst [.int 0]) := upd_same
      generalize upd J9 b2 (.lst [.int 0]) = J10 at v2 c1 c2
      refine ⟨by show 2 ≤ sizeLine; decide, fun b3 hb3 => ?_⟩
      have v3 := v2.trans (same_upd (o := .tup [.int 0, .int 0]) hb3)
      have c1 := same_upd (o := .tup [.int 0, .int 0]) hb3 _ _ c1
      have c2 := same_upd (o := .tup [.int 0, .int 0]) hb3 _ _ c2
      have c3 : upd J10 b3 (.tup [.int 0, .int 0]) b3 = some (.tup [.int 0, .int 0]) := upd_same
      generalize upd J10 b3 (.tup [.int 0, .int 0]) = J11 at v3 c1 c2 c3
      refine ⟨by show 4 ≤ sizeLine; decide, fun lb hlb => ?_⟩
      have p11 := p8.same v3
      have lbp := (pen_fresh p11 hlb).1
      obtain ⟨xs11, ea11⟩ := p11.at_
      have w12 := same_upd (o := .lst [.non, .ref b1, .ref b2, .ref b3]) hlb
      refine ⟨p, c, _, lb, _, rfl, p11.same w12, by omega, upd_same, lbp, by simp, by simp, fun J13 yb x13' p13 hm => ?_⟩
      dsimp only [List.set]
      have tupK : ∀ b zs, J11 b = some (.tup zs) → J13 b = some (.tup zs) := fun b zs e => x13' _ _ (fun z => by rw [z, ea11] at e; cases e) (w12 _ _ e)
      have bad : BadG n J13 yb := by
        simp only [List.mem_cons, List.not_mem_nil, or_false] at hm
        rcases hm with rfl | rfl | rfl | rfl
        · exact .inl (.inl rfl)
        · exact .inr ⟨b1, rfl, tupK _ _ c1⟩
        · exact .inl (.inr (.inl ⟨b2, _, rfl, x13' _ _ b2p (w12 _ _ c2)⟩))
        · exact .inl (.inr (.inr ⟨b3, rfl, tupK _ _ c3⟩))
      have sx13 : SameX p J8 J13 := fun b o nb e => x13' _ _ nb (w12 _ _ (v3 _ _ e))
      have odd13 := odd J13 sx13
      have hv13 : HouseV K J13 (.ref x) n l := (hv8.n (same_n (v3.trans w12))).n (x13'.n (w12 _ _ ea11))
      have fG13 := tupK _ _ (v3 _ _ fG)
      have fac13 : J13 ac = some (.lst us) := sx13 _ _ acp fac
      have tb13 := Tabs.sx (Tabs.s tb8 (v3.trans w12)) (w12 _ _ ea11) x13'
      clear odd tN ea8 ea11 tupK c1 c2 c3 v1 v2 v3 w12 x13' sx13 hv8 fG fac tb8 p8 p11 hlb hb1 hb2 hb3 hm
      -- heard
      refine ⟨tb13, fun H1 x1 tb1 Q1 _ => ?_⟩
      refine ⟨_, rfl, _, rfl, _, rfl, .ref x, n, l, .ref G, g, yo, rfl, hv13.n (ext_n x1), ok, by omega, ⟨G, rfl, x1 _ _ fG13 (fun _ z => nomatch z)⟩, asc_pw gp, gn, odd13.e x1, fun d1 H2 s2 hd1 ed1 => ⟨CBadPlan K, d1, "picks", "picks", rfl, rfl, ed1, .inr (.inr ⟨rfl, rfl⟩), fun H3 s3 => ?_⟩⟩
      have y3 : LamX.ExtN J13 H3 := ext_s x1 (s2.trans s3)
      refine ⟨Tabs.s tb1 (s2.trans s3), fun H4 dt x4 tb4 edt Q4 _ => ⟨edt, ?_⟩⟩
      have y4 := y3.trans x4
      refine ⟨_, rfl, _, rfl, _, rfl, .ref x, n, l, yb, yo, rfl, hv13.n (ext_n y4), bad.e y4, fun d5 H5 s5 hd5 ed5 => ⟨CBadGoal K, d5, "goal", "goal", rfl, rfl, ed5, .inr (.inl ⟨rfl, rfl⟩), fun H6 s6 => ?_⟩⟩
      have y6 : LamX.ExtN J13 H6 := ext_s y4 (s5.trans s6)
      refine ⟨Tabs.s tb4 (s5.trans s6), fun H7 dt7 x7 tb7 edt7 Q7 _ => ⟨edt7, ?_⟩⟩
      have y7 := y6.trans x7
      refine ⟨_, rfl, _, rfl, _, rfl, ac, us, yb, yo, rfl, y7 _ _ fac13 (fun _ z => nomatch z), fun d8 H8 s8 hd8 ed8 => ⟨CBadHouse K, d8, "house", "house", rfl, rfl, ed8, .inl ⟨rfl, rfl⟩, fun H9 s9 => ?_⟩⟩
      have y9 : LamX.ExtN J13 H9 := ext_s y7 (s8.trans s9)
      have tb9 := Tabs.s tb7 (s8.trans s9)
      refine ⟨by show 3 ≤ sizeLine; decide, fun lh hlh => ?_⟩
      dsimp only [List.set]
      have t10 := same_upd (o := .lst [.str "picks", .str "goal", .str "house"]) hlh
      refine ⟨_, rfl, by show 3 ≤ sizeLine; decide, fun lq hlq => ?_⟩
      have t11 := same_upd (o := .lst [.str "picks", .str "goal", .str "house"]) hlq
      have dpS : ∀ {H : Hp} {a : Addr}, H a = some (.lst [.str "picks", .str "goal", .str "house"]) → Dp K H (.ref a) (.list [.str "picks", .str "goal", .str "house"]) := fun {H a} e => .lst (.inl (.inl e)) (.cons (.str _) (.cons (.str _) (.cons (.str _) .nil)))
      refine ⟨_, _, dpS (t11 _ _ upd_same), dpS upd_same, by decide +kernel, by decide +kernel, false, ?_, iteF ?_⟩
      · rw [SeqAt.eqv_refl _ (by decide +kernel)]
        rfl
      exact ⟨⟨_, _, _, _, _, _, _, _, _, _, _, _, _, rfl⟩, (PenV.e p13 (ext_s y9 (t10.trans t11))).le (by omega), Tabs.s tb9 (t10.trans t11)⟩
  · rintro σ H2 ⟨⟨x2, x3, x4, x5, x6, x7, x8, x9, x10, x11, x12, x13, x14, rfl⟩, p2, tb2⟩
    exact k _
end
end Lc
set_option Elab.async false
set_option linter.all false
set_option maxRecDepth 100000
set_option maxHeartbeats 0
open PySem PySem.W PySem.Calls PyProof.Rows
theorem PySem.Challenge.cw_longchances_k77_chances_by_told_picks_holds : PySem.Challenge.rw_longchances_k77_chances_by_told_picks.Holds := by
  w_on; o_law
  refine HandSHeadRun.head_imp (r := OpenLaw.row Hd.LAW) (q := view (OpenLaw.row Hd.LAW).prog [0, 91]) (H := Hd.hk) (ob := Hd.ob) (M := 20000) (loose := Hd.loose) (d := HandSHeadRun.topDef (OpenLaw.row Hd.LAW).prog 91) (kwd := []) Hd.ob_eq
    Hd.run (by kernel_rfl) (by kernel_rfl) (by kernel_rfl) (by rfl) (by first | assumption | decide +kernel) (by decide +kernel) ⟨rfl, rfl, rfl, rfl, rfl, by decide +kernel⟩ ?hw ?hc
  case hw => w_witness2
  case hc =>
    have en : (HandSHeadRun.topDef (OpenLaw.row Hd.LAW).prog 91).name = ("law" : PySem.Str) := by kernel_rfl
    obtain ⟨dL, hrec⟩ : ∃ dL, (recsOf (view (OpenLaw.row Hd.LAW).prog [0, 91])).find? (fun e => e.name == (HandSHeadRun.topDef (OpenLaw.row Hd.LAW).prog 91).name) = some dL := Option.isSome_iff_exists.mp (by kernel_rfl)
    refine LcZE.walk_tab (l := Hd.LAW) (n := 63) (k := 12) (x := "script") (CX := L2.CX0) rfl (by decide) (by kernel_rfl) ⟨rfl, by decide, by decide⟩ hrec ?F (fun _ _ _ _ z => z)
    intro w mg fa h Y G hmg0
    obtain ⟨K, KX, c⟩ := Y
    have hmg : mg ("law" : PySem.Str) = some (.ref fa) := by
      rw [← en]
      exact hmg0
    have T : Lc.Tx K mg := Lc.tx_of KX G c
    obtain ⟨c0, PT, ht, hn⟩ := Lc.tab_of c
    obtain ⟨fd, F⟩ := T.f_law
    have e := hmg.symm.trans T.g_law
    cases e
    have b := L2.FunD.bindsA (ps := ["script"]) F fun _ _ _ _ _ _ us hl => match us, hl with | [_], _ => rfl
    exact ⟨K, fd, Lc.sp_law K PT, c0, PT, KX, by rw [en]; exact ht, hn, fun s v => b s [v] rfl,
      fun H a ns hl hP hS => ⟨a, ns, rfl, Nat.le_trans hl (by decide), hS, fun p hp => by rw [List.mem_singleton.mp hp]; exact LamX.TabS.nil hP, fun _ => rfl⟩,
      fun base kb nb TB => Lc.ok_law T F TB (LcZE.code_of kb nb F hmg ht)⟩
