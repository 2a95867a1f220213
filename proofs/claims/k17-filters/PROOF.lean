import PyProof.Rows.All
import Wide.All
import OpenK.AllK
import Wide.FinOn
import PyProof.EqAt
import PyProof.EqKinds
import PyProof.TupleCall
import HandS.Base
import HandS.Call
import HandS.List
import HandS.Dict
import HandS.More
import HandS.Slots
import HandS.ClsMeth
import KE.KStateDown
import HandS.Exc
import HandS.IsInst
import HandS.Defaults
import HandS.HeadHook1
import HandS.HeadHook2
import HandS.Head0
import HandS.Head1
import HandS.Head2
import HandS.HeadEnd
import HandS.ForMost
import HandS.Walk
import HandS.Style
import HandS.Steps
import HandS.Conv
import PySem.Challenge.RW_recordyard_k17_filters_by_names
set_option Elab.async false
set_option linter.all false
set_option maxRecDepth 100000
set_option maxHeartbeats 4000000
/-! Rules beyond the layer: == and != of instances of classes without an own __eq__ (by identity), in and not in over lists of such, a def read off its class. -/
namespace RA
open PySem PySem.Spec PyProof.Rows PySem.SeqAt
/-- a class whose instances are equal by identity -/
structure PlainC (K : PySem.W.Frag) (C : Addr) : Prop where
  mro : PySem.W.mroIn K C (.type "object") = some true
  eq : PySem.W.findIn K (.ref C) "__eq__" = some (some (.builtin "object.__eq__"))
  ne : PySem.W.findIn K (.ref C) "__ne__" = some (some (.builtin "object.__ne__"))
def PairC (K : PySem.W.Frag) (C D : Addr) : Prop := C = D ∨ ∃ b, PySem.W.subIn K (.ref D) (.ref C) = some b
section
variable {M : Model} {prog : Program} {w : World} {A : Around} {E : Value → Shared → Prop} {s : Shared} {K : PySem.W.Frag} {x y C D : Addr} {ox oy : Obj} {od od' : Option Obj}
theorem inst_get (I : PySem.W.InstAt s.heap x ox C od) : s.heap.get? x = some ox := I.at_
theorem inst_notup (I : PySem.W.InstAt s.heap x ox C od) : ox.cls ≠ .type "tuple" := by
  rw [I.cls]; intro z; cases z
theorem eq_same {Q : Value → Shared → Prop} (X : K.In s.heap) (I : PySem.W.InstAt s.heap x ox C od) (hm : PySem.W.mroIn K C (.type "object") = some true) (hq : Q (.bool true) s) :
    wpAny (model prog w) A (call (.builtin "object.__eq__") [.ref x, .ref x]) Q E s :=
  wpAny_call (codeAny_call_builtin F.cmp_object.eq.plain F.cmpEntry_eq (PySem.W.check_slot F.cmpKind_eq F.cmpSplit_eq (I.type.andThen (PySem.W.looks_mroIn X hm)) (F.cmpArgs_eq _ _) (objEq_entry_same hq)))
theorem eq_other {Q : Value → Shared → Prop} (X : K.In s.heap) (I : PySem.W.InstAt s.heap x ox C od) (hm : PySem.W.mroIn K C (.type "object") = some true) (hy : s.heap.get? y = some oy) (hxy : x ≠ y) (hq : Q .notImplemented s) :
    wpAny (model prog w) A (call (.builtin "object.__eq__") [.ref x, .ref y]) Q E s :=
  wpAny_call (codeAny_call_builtin F.cmp_object.eq.plain F.cmpEntry_eq (PySem.W.check_slot F.cmpKind_eq F.cmpSplit_eq (I.type.andThen (PySem.W.looks_mroIn X hm)) (F.cmpArgs_eq _ _) (objEq_entry_other hxy (inst_get I) hy (inst_notup I) hq)))
theorem ifB_ne {args : List Value} {Q : Option Value → Shared → Prop} (X : K.In s.heap) (I : PySem.W.InstAt s.heap x ox C od) (hs : PySem.W.findIn K (.ref C) "__ne__" = some (some (.builtin "object.__ne__")))
    (h : wpAny M A (call (.builtin "object.__ne__") (.ref x :: args)) (fun v => Q (some v)) E s) : wpAny M A (callSpecialIfBound? (.ref x) "__ne__" args) Q E s := by
  simp only [callSpecialIfBound?, bindSpecialIfBound?]
  refine wpAny_holding (wpAny_bind (wpAny_bind (wpAny_bind (I.type.here ((PySem.W.looks_findIn X hs).here ?_)))))
  refine wpAny_bind (wpAny_askSetting (wpAny_ite ?_))
  have fin : wpAny M A (call (.builtin "object.__ne__") ([.ref x] ++ args) >>= fun v => pure (some v)) Q E s := wpAny_bind (wpAny_mono h (fun v s' h' => wpAny_pure h') fun _ _ h' => h')
  split
  · exact wpAny_bind (wpAny_of_eq (F.cmp_object.ne.bind _) (wpAny_pure (by exact fin)))
  · exact wpAny_tryCatch (wpAny_bind (wpAny_of_eq (F.cmp_object.ne.bind _) (wpAny_pure (by exact fin))))
theorem ne_entry_same {Q : Fin → Shared → Prop} (X : K.In s.heap) (I : PySem.W.InstAt s.heap x ox C od) (P : PlainC K C) (hu : A.units < cLine) (hq : Q (.done (.ret (.bool false))) s) :
    wpAny (model prog w) A (Builtin.«object.__ne__» ⟨[.ref x, .ref x], []⟩) Q E s := by
  unfold Builtin.«object.__ne__»
  repeat (first | with_reducible refine wpAny_cRoomFor hu ?_ | with_reducible refine HN.ifBound_objEq X I P.eq (eq_same X I P.mro ?_) | wp_step)
  exact hq
theorem ne_entry_other {Q : Fin → Shared → Prop} (X : K.In s.heap) (I : PySem.W.InstAt s.heap x ox C od) (P : PlainC K C) (hy : s.heap.get? y = some oy) (hxy : x ≠ y) (hu : A.units < cLine) (hq : Q (.done (.ret .notImplemented)) s) :
    wpAny (model prog w) A (Builtin.«object.__ne__» ⟨[.ref x, .ref y], []⟩) Q E s := by
  unfold Builtin.«object.__ne__»
  repeat (first | with_reducible refine wpAny_cRoomFor hu ?_ | with_reducible refine HN.ifBound_objEq X I P.eq (eq_other X I P.mro hy hxy ?_) | wp_step)
  exact hq
theorem try_eq_same {Q : Option Value → Shared → Prop} (X : K.In s.heap) (I : PySem.W.InstAt s.heap x ox C od) (P : PlainC K C) (h : Q (some (.bool true)) s) : wpAny (model prog w) A (tryCompare (.ref x) "__eq__" (.ref x)) Q E s := by
  unfold tryCompare
  exact wpAny_bind (HN.ifBound_objEq X I P.eq (eq_same X I P.mro (wpAny_pure h)))
theorem try_eq_other {Q : Option Value → Shared → Prop} (X : K.In s.heap) (I : PySem.W.InstAt s.heap x ox C od) (P : PlainC K C) (hy : s.heap.get? y = some oy) (hxy : x ≠ y) (h : Q none s) : wpAny (model prog w) A (tryCompare (.ref x) "__eq__" (.ref y)) Q E s := by
  unfold tryCompare
  exact wpAny_bind (HN.ifBound_objEq X I P.eq (eq_other X I P.mro hy hxy (wpAny_pure h)))
theorem try_ne_same {Q : Option Value → Shared → Prop} (hu : A.units + 1 < cLine) (X : K.In s.heap) (I : PySem.W.InstAt s.heap x ox C od) (P : PlainC K C) (h : Q (some (.bool false)) s) : wpAny (model prog w) A (tryCompare (.ref x) "__ne__" (.ref x)) Q E s := by
  unfold tryCompare
  refine wpAny_bind (ifB_ne X I P.ne (wpAny_call (codeAny_call_builtin F.cmp_object.ne.plain F.cmpEntry_ne (PySem.W.check_slot F.cmpKind_ne F.cmpSplit_ne (I.type.andThen (PySem.W.looks_mroIn X P.mro)) (F.cmpArgs_ne _ _) (ne_entry_same (A := A.in1) X I P hu ?_)))))
  exact wpAny_pure h
theorem try_ne_other {Q : Option Value → Shared → Prop} (hu : A.units + 1 < cLine) (X : K.In s.heap) (I : PySem.W.InstAt s.heap x ox C od) (P : PlainC K C) (hy : s.heap.get? y = some oy) (hxy : x ≠ y) (h : Q none s) : wpAny (model prog w) A (tryCompare (.ref x) "__ne__" (.ref y)) Q E s := by
  unfold tryCompare
  refine wpAny_bind (ifB_ne X I P.ne (wpAny_call (codeAny_call_builtin F.cmp_object.ne.plain F.cmpEntry_ne (PySem.W.check_slot F.cmpKind_ne F.cmpSplit_ne (I.type.andThen (PySem.W.looks_mroIn X P.mro)) (F.cmpArgs_ne _ _) (ne_entry_other (A := A.in1) X I P hy hxy hu ?_)))))
  exact wpAny_pure h
theorem rc_same (hu : A.units < cLine) (X : K.In s.heap) (I : PySem.W.InstAt s.heap x ox C od) (P : PlainC K C) : RcAt A s (.ref x) (.ref x) true := fun prog w E Q h => by
  simp only [richCompare, cmpInfo_Eq, oneThing_ref]
  refine wpAny_holding (wpAny_bind (wpAny_cRoomFor hu ?_))
  refine wpAny_bind (I.type.here (wpAny_bind (I.type.here ?_)))
  rw [if_neg (by simp)]
  refine wpAny_bind (wpAny_pure ?_)
  simp only [Bool.false_eq_true, if_false]
  exact wpAny_bind (try_eq_same X I P (wpAny_pure h))
theorem rcn_same (hu : A.units + 1 < cLine) (X : K.In s.heap) (I : PySem.W.InstAt s.heap x ox C od) (P : PlainC K C) {Q : Value → Shared → Prop} (h : Q (.bool false) s) : wpAny (model prog w) A (richCompare .NotEq (.ref x) (.ref x)) Q E s := by
  simp only [richCompare, cmpInfo_NotEq, oneThing_ref]
  refine wpAny_holding (wpAny_bind (wpAny_cRoomFor (Nat.lt_of_succ_lt hu) ?_))
  refine wpAny_bind (I.type.here (wpAny_bind (I.type.here ?_)))
  rw [if_neg (by simp)]
  refine wpAny_bind (wpAny_pure ?_)
  simp only [Bool.false_eq_true, if_false]
  exact wpAny_bind (try_ne_same hu X I P (wpAny_pure h))
theorem rc_other (hu : A.units < cLine) (X : K.In s.heap) (I : PySem.W.InstAt s.heap x ox C od) (J : PySem.W.InstAt s.heap y oy D od') (P : PlainC K C) (P' : PlainC K D) (hp : PairC K C D) (hxy : x ≠ y) : RcAt A s (.ref x) (.ref y) false := fun prog w E Q h => by
  have fin : ∀ (tag : String), wpAny (model prog w) A (rule tag >>= fun _ => isSame (.ref x) (.ref y) >>= fun b => pure (Value.bool b)) Q E s := fun tag =>
    wpAny_bind (wpAny_rule (wpAny_bind (wpAny_isSame_ref_other hxy (inst_get I) (inst_get J) (inst_notup I) (wpAny_pure h))))
  simp only [richCompare, cmpInfo_Eq, oneThing_ref]
  refine wpAny_holding (wpAny_bind (wpAny_cRoomFor hu ?_))
  refine wpAny_bind (I.type.here (wpAny_bind (J.type.here ?_)))
  by_cases hCD : C = D
  · subst hCD
    rw [if_neg (by simp)]
    refine wpAny_bind (wpAny_pure ?_)
    simp only [Bool.false_eq_true, if_false, Bool.not_false, if_true]
    refine wpAny_bind (try_eq_other X I P (inst_get J) hxy ?_)
    refine wpAny_bind (try_eq_other X J P' (inst_get I) (Ne.symm hxy) ?_)
    exact fin _
  · rw [if_pos (by simp [hCD])]
    obtain ⟨b, hb⟩ := hp.resolve_left hCD
    refine wpAny_bind ((PySem.W.looks_subIn X hb).here ?_)
    cases b with
    | false =>
      simp only [Bool.false_eq_true, if_false, Bool.not_false, if_true]
      refine wpAny_bind (try_eq_other X I P (inst_get J) hxy ?_)
      refine wpAny_bind (try_eq_other X J P' (inst_get I) (Ne.symm hxy) ?_)
      exact fin _
    | true =>
      simp only [Bool.not_true, Bool.false_eq_true, if_false, if_true]
      refine wpAny_bind (try_eq_other X J P' (inst_get I) (Ne.symm hxy) ?_)
      refine wpAny_bind (try_eq_other X I P (inst_get J) hxy ?_)
      exact fin _
theorem rcn_other (hu : A.units + 1 < cLine) (X : K.In s.heap) (I : PySem.W.InstAt s.heap x ox C od) (J : PySem.W.InstAt s.heap y oy D od') (P : PlainC K C) (P' : PlainC K D) (hp : PairC K C D) (hxy : x ≠ y) {Q : Value → Shared → Prop} (h : Q (.bool true) s) :
    wpAny (model prog w) A (richCompare .NotEq (.ref x) (.ref y)) Q E s := by
  have fin : ∀ (tag : String), wpAny (model prog w) A (rule tag >>= fun _ => isSame (.ref x) (.ref y) >>= fun b => pure (Value.bool (!b))) Q E s := fun tag =>
    wpAny_bind (wpAny_rule (wpAny_bind (wpAny_isSame_ref_other hxy (inst_get I) (inst_get J) (inst_notup I) (wpAny_pure h))))
  simp only [richCompare, cmpInfo_NotEq, oneThing_ref]
  refine wpAny_holding (wpAny_bind (wpAny_cRoomFor (Nat.lt_of_succ_lt hu) ?_))
  refine wpAny_bind (I.type.here (wpAny_bind (J.type.here ?_)))
  by_cases hCD : C = D
  · subst hCD
    rw [if_neg (by simp)]
    refine wpAny_bind (wpAny_pure ?_)
    simp only [Bool.false_eq_true, if_false, Bool.not_false, if_true]
    refine wpAny_bind (try_ne_other hu X I P (inst_get J) hxy ?_)
    refine wpAny_bind (try_ne_other hu X J P' (inst_get I) (Ne.symm hxy) ?_)
    exact fin _
  · rw [if_pos (by simp [hCD])]
    obtain ⟨b, hb⟩ := hp.resolve_left hCD
    refine wpAny_bind ((PySem.W.looks_subIn X hb).here ?_)
    cases b with
    | false =>
      simp only [Bool.false_eq_true, if_false, Bool.not_false, if_true]
      refine wpAny_bind (try_ne_other hu X I P (inst_get J) hxy ?_)
      refine wpAny_bind (try_ne_other hu X J P' (inst_get I) (Ne.symm hxy) ?_)
      exact fin _
    | true =>
      simp only [Bool.not_true, Bool.false_eq_true, if_false, if_true]
      refine wpAny_bind (try_ne_other hu X J P' (inst_get I) (Ne.symm hxy) ?_)
      refine wpAny_bind (try_ne_other hu X I P (inst_get J) hxy ?_)
      exact fin _
end
end RA
namespace RA
open PySem PySem.Spec PyProof.Rows PySem.SeqAt L2
/-- an instance of a plain class stands there -/
def InsP (K : PySem.W.Frag) (H : Hp) (a C : Addr) : Prop := (∃ dx fs, H a = some (.ins C dx fs)) ∧ PlainC K C
theorem InsP.of {K : PySem.W.Frag} {H : Hp} {a C dx : Addr} {fs : List (Str × V)} (h : H a = some (.ins C dx fs)) (p : PlainC K C) : InsP K H a C := ⟨⟨dx, fs, h⟩, p⟩
section
variable {X : Cx} {pins : List (Addr × Obj)} {σ : L2.St} {H : Hp} {s : Shared}
theorem insp_at {a C : Addr} (I : Inv X pins σ H s) (h : InsP X.K H a C) : ∃ ox od, PySem.W.InstAt s.heap a ox C od := by
  obtain ⟨⟨dx, fs, ha⟩, _⟩ := h
  obtain ⟨mA, O, _⟩ := ins_get I.hok ha
  obtain ⟨od, J, _⟩ := O.look
  exact ⟨_, _, J⟩
/-- x == y: y an instance, None, or a number, a text, a truth -/
def rEqP (K : PySem.W.Frag) : R2 := fun x y H Q => ∃ a C, x = .ref a ∧ InsP K H a C ∧ ((y = .non ∧ Q (.bl false) H) ∨ ∃ b D, y = .ref b ∧ InsP K H b D ∧ PairC K C D ∧ Q (.bl (decide (a = b))) H)
def rNeP (K : PySem.W.Frag) : R2 := fun x y H Q => ∃ a C b D, x = .ref a ∧ InsP K H a C ∧ y = .ref b ∧ InsP K H b D ∧ PairC K C D ∧ Q (.bl (!decide (a = b))) H
theorem op_eqP (hu : X.A.units < cLine) : OpR X (compareOp .Eq) (rEqP X.K) := by
  intro pins s σ H x y v u Q I rx ry h
  obtain ⟨a, C, rfl, ha, h⟩ := h
  cases rx
  obtain ⟨ox, od, Ia⟩ := insp_at I ha
  rcases h with ⟨rfl, q⟩ | ⟨b, D, rfl, hb, hp, q⟩
  · cases ry
    exact HN.rc_none hu I.kIn Ia ha.2.mro ha.2.eq _ _ _ _ (fin_bl I q rfl)
  · cases ry
    obtain ⟨oy, od', Ib⟩ := insp_at I hb
    by_cases z : a = b
    · subst z
      have e : C = D := by
        have h1 := Ia.cls.symm.trans ((congrArg Obj.cls (Option.some.inj (Ia.at_.symm.trans Ib.at_))).trans Ib.cls)
        exact Value.ref.inj h1
      subst e
      exact rc_same hu I.kIn Ia ha.2 _ _ _ _ (fin_bl I q (by simp))
    · exact rc_other hu I.kIn Ia Ib ha.2 hb.2 hp z _ _ _ _ (fin_bl I q (by simp [z]))
theorem op_neP (hu : X.A.units + 1 < cLine) : OpR X (compareOp .NotEq) (rNeP X.K) := by
  intro pins s σ H x y v u Q I rx ry h
  obtain ⟨a, C, b, D, rfl, ha, rfl, hb, hp, q⟩ := h
  cases rx
  cases ry
  obtain ⟨ox, od, Ia⟩ := insp_at I ha
  obtain ⟨oy, od', Ib⟩ := insp_at I hb
  by_cases z : a = b
  · subst z
    exact rcn_same hu I.kIn Ia ha.2 (fin_bl I q (by simp))
  · exact rcn_other hu I.kIn Ia Ib ha.2 hb.2 hp z (fin_bl I q (by simp [z]))
/-- x in l: x an instance, the items instances -/
def rInP (K : PySem.W.Frag) (neg : Bool) : R2 := fun x y H Q => ∃ (a C p : Addr) (as : List Addr), x = .ref a ∧ InsP K H a C ∧ y = .ref p ∧ SqL K H p (as.map V.ref) ∧ (∀ b ∈ as, ∃ D, InsP K H b D ∧ PairC K D C) ∧ Q (.bl (if neg then !decide (a ∈ as) else decide (a ∈ as))) H
theorem eqAt_ref {A : Around} {a b C D : Addr} (I : Inv X pins σ H s) (hu : A.units < cLine) (ha : InsP X.K H a C) (hb : InsP X.K H b D) (hp : PairC X.K D C) : EqAt A s (.ref b) (.ref a) (decide (b = a)) := by
  by_cases z : b = a
  · subst z
    rw [decide_eq_true rfl]
    exact EqAt.same _
  · rw [decide_eq_false z]
    obtain ⟨ox, od, Ia⟩ := insp_at I ha
    obtain ⟨oy, od', Ib⟩ := insp_at I hb
    intro prog w E Q h
    unfold eqBool
    refine wpAny_holding ?_
    refine wpAny_ite_split (fun hab => absurd (eq_of_beq hab) (fun e => z (Value.ref.inj e))) (fun _ => ?_)
    exact wpAny_bind (rc_other hu I.kIn Ib Ia hb.2 ha.2 hp z prog w E _ (wpAny_truthy_bool h))
theorem any_refs {a : Addr} : ∀ {as : List Addr} {us : List Value}, Vals (as.map V.ref) us → us.any (fun u => u == .ref a) = decide (a ∈ as)
  | [], _, .nil => by simp
  | b :: as, u :: us, .cons r t => by
    cases (show u = Value.ref b from r)
    rw [List.any_cons, any_refs t]
    by_cases z : b = a
    · subst z; simp
    · have z' : ¬ a = b := fun e => z e.symm
      simp [z, z']
theorem mem_refs {A : Around} {a C : Addr} (I : Inv X pins σ H s) (hu : A.units < cLine) (ha : InsP X.K H a C) : ∀ {as : List Addr} {us : List Value}, Vals (as.map V.ref) us → (∀ b ∈ as, ∃ D, InsP X.K H b D ∧ PairC X.K D C) → ∀ u ∈ us, EqAt A s u (.ref a) (u == .ref a)
  | [], _, .nil, _ => fun u hu' => by cases hu'
  | b :: as, u :: us, .cons r t, f => fun u' hu' => by
    rcases List.mem_cons.mp hu' with e | hu'
    · subst e
      cases (show u' = Value.ref b from r)
      obtain ⟨D, hb, hp⟩ := f b (List.mem_cons_self ..)
      have e2 : (Value.ref b == Value.ref a) = decide (b = a) := by
        by_cases z : b = a <;> simp [z]
      rw [e2]
      exact eqAt_ref I hu ha hb hp
    · exact mem_refs I hu ha t (fun z hz => f z (List.mem_cons_of_mem _ hz)) u' hu'
theorem op_inP (hu : X.A.units + 64 < cLine) : OpR X (compareOp .In) (rInP X.K false) := by
  intro pins s σ H x y v u Q I rx ry h
  obtain ⟨a, C, p, as, rfl, ha, rfl, hq, f, q⟩ := h
  cases rx
  cases ry
  obtain ⟨its, rv, hl, _⟩ := I.list hq
  have hu1 : X.A.in1.units < cLine := by show X.A.units + 1 < cLine; omega
  refine SeqAt.in_listAt (fun u => u == .ref a) hl.isList (fun z hz => mem_refs I hu1 ha rv f z (by simpa using hz)) ⟨.bl _, H, I, rfl, ?_⟩
  rw [show its.toArray.any (fun u => u == .ref a) = its.any (fun u => u == .ref a) by simp, any_refs rv]
  exact q
theorem op_notInP (hu : X.A.units + 64 < cLine) : OpR X (compareOp .NotIn) (rInP X.K true) := by
  intro pins s σ H x y v u Q I rx ry h
  obtain ⟨a, C, p, as, rfl, ha, rfl, hq, f, q⟩ := h
  cases rx
  cases ry
  obtain ⟨its, rv, hl, _⟩ := I.list hq
  have hu1 : X.A.in1.units < cLine := by show X.A.units + 1 < cLine; omega
  refine SeqAt.notIn_listAt (fun u => u == .ref a) hl.isList (fun z hz => mem_refs I hu1 ha rv f z (by simpa using hz)) ⟨.bl _, H, I, rfl, ?_⟩
  rw [show its.toArray.any (fun u => u == .ref a) = its.any (fun u => u == .ref a) by simp, any_refs rv]
  exact q
/-! ### a def read off its class: C.m(x, ..) -/
structure CFun (K : PySem.W.Frag) (C : Addr) (m : Str) (f : Addr) : Prop where
  ga : PySem.W.specialIn K (.ref C) "__getattribute__" = some (some (.builtin "type.__getattribute__"))
  rd : PySem.W.readsIn K C (.type "type") = true
  at_ : PySem.W.findCls K (.ref C) (.type "type") m = some (.val (.ref f))
  kp : PySem.W.keepIn K (.ref f) = true
def tCFun (C : Addr) (sp : Sp) (dvs : List V) (E : XK) (ta : TE) (t : TA) : TE := fun σ H Q => ta σ H fun x H1 => x = .ref C ∧ t σ H1 fun vs H2 => sp (vs ++ dvs) H2 Q E
theorem pe_cfun {CX : CXT} {k : Nat} {C f : Addr} {fd : FuncData} {ps : List Str} {sp : Sp} {dvs : List V} {ds : List Value} {E : XK} {o e : Expr} {es : List Expr} {m : Str} {pos apos : Pos} {ta : TE} {t : TA} {pl : Sem Bool}
    (he : PE X o ta) (c : CFun X.K C m f) (F : FnOk X.prog X.w X.K X.mg X.base CX k f fd ps sp) (hr : Room k X.A) (hb : Binds X.K fd ps ds) (hd : Vals dvs ds) (hx : Passes CX X E) (ha : PA X (e :: es) t)
    (hst : starEach (e :: es) X.env = (false, eval e X.env) :: starEach es X.env := by rfl) (hpl : (backTo pos (starEach es X.env)).any (·.1) = false := by rfl)
    (ht : eval (.Call (.Attribute o m apos) (e :: es) [] pos) X.env = (do
      let ov ← eval o X.env
      standAt apos.atName
      let (f, first) ← holding [ov] (getMethod ov m pl)
      callWith pos f first (backTo pos (starEach (e :: es) X.env)) (backToKw pos (keywordEach [] X.env))) := by rfl) :
    PE X (.Call (.Attribute o m apos) (e :: es) [] pos) (tCFun C sp dvs E ta t) := by
  refine ⟨fun pins s σ H Q I h => ?_⟩
  refine PySem.W.methodCall_KW (pl := pl) (thn (he.run pins s σ H _ I h) fun u s1 ⟨x, H1, I1, rx, ex, q⟩ => ?_) ht
  subst ex
  obtain rfl : u = Value.ref C := rx
  refine PySem.W.method_cls I1.kIn c.ga (PySem.W.cls_value I1.kIn c.rd c.at_ (handed_of (v := .ref f) rfl) ?_)
  have I2 := I1.tok (s1.toks + 1)
  refine PySem.W.callWith_K (first := []) (h₀ := X.base) I2.ok.mod.kin c.kp (thn (ha.run pos pins _ σ H1 _ I2 q) fun us s2 ⟨vs, H2, I3, r, q2⟩ => ⟨I3.kIn, ?_⟩) hst hpl
  exact run_fn F hr hb hd hx I3 r q2
/-! ### one of two rules -/
theorem PE.or {e : Expr} {t t' : TE} (h : PE X e t) (h' : PE X e t') : PE X e (fun σ H Q => t σ H Q ∨ t' σ H Q) := ⟨fun pins s σ H Q I q => by
  rcases q with q | q
  · exact h.run pins s σ H Q I q
  · exact h'.run pins s σ H Q I q⟩
/-- any of many rules for one expression -/
theorem PE.any {ι : Type} {e : Expr} {t : ι → TE} (S : ι → Prop) (h : ∀ i, S i → PE X e (t i)) : PE X e (fun σ H Q => ∃ i, S i ∧ t i σ H Q) := ⟨fun pins s σ H Q I ⟨i, hi, q⟩ => (h i hi).run pins s σ H Q I q⟩
end
end RA

set_option Elab.async false
set_option linter.all false
set_option maxRecDepth 100000
set_option maxHeartbeats 4000000
/-! The head's facts: He.Fa and He.DefD, further facts of classes, dicts of the top with their items. -/
namespace RB
open PySem PySem.Spec PyProof.Rows L2 He
/-- what isinstance asks of a value's own class -/
structure TyC (K : PySem.W.Frag) (C : Addr) : Prop where
  ha : PySem.W.findIn K (.ref C) "__class__" = some (some (.builtin "object.__class__"))
  hn : PySem.W.specialIn K (.builtin "object.__class__") "__get__" = some (some (.builtin "getset_descriptor.__get__"))
  ht : PySem.W.takesIn K (.builtin "object.__class__") = some true
  hm : PySem.W.mroIn K C (.type "object") = some true
inductive Fx where
  | pl (x : Str)
  | sub (x y : Str)
  | cf (x m : Str)
  | ty (x : Str)
  | kit (x y : Str) (b : Bool)
  | kib (n : String) (y : Str) (b : Bool)
  | dtup (p : Str × Option Str) (i : Nat)
def Fx.ok (K : PySem.W.Frag) : Fx → Bool
  | .pl x => decide (PySem.W.mroIn K (ga K x) (.type "object") = some true) && (eqO (PySem.W.findIn K (.ref (ga K x)) "__eq__") (some (some (.builtin "object.__eq__"))) && eqO (PySem.W.findIn K (.ref (ga K x)) "__ne__") (some (some (.builtin "object.__ne__"))))
  | .sub x y => decide (ga K x = ga K y) || (PySem.W.subIn K (.ref (ga K y)) (.ref (ga K x))).isSome
  | .cf x m => eqO (PySem.W.specialIn K (.ref (ga K x)) "__getattribute__") (some (some (.builtin "type.__getattribute__"))) && (PySem.W.readsIn K (ga K x) (.type "type") && ((match PySem.W.findCls K (.ref (ga K x)) (.type "type") m with
    | some (.val (.ref f)) => decide (f = ma K (ga K x) m)
    | _ => false) && PySem.W.keepIn K (.ref (ma K (ga K x) m))))
  | .ty x => eqO (PySem.W.findIn K (.ref (ga K x)) "__class__") (some (some (.builtin "object.__class__"))) && (eqO (PySem.W.specialIn K (.builtin "object.__class__") "__get__") (some (some (.builtin "getset_descriptor.__get__"))) && (decide (PySem.W.takesIn K (.builtin "object.__class__") = some true) && decide (PySem.W.mroIn K (ga K x) (.type "object") = some true)))
  | .kit x y b => decide (PySem.W.kitOne K (.ref (ga K x)) (.ref (ga K y)) = some b)
  | .kib n y b => decide (PySem.W.kitOne K (.type n) (.ref (ga K y)) = some b)
  | .dtup p i => (match K.lookup (dflAt p i K) with
    | some ⟨.type c, _, .seq its _, _⟩ => decide (c = "tuple") && its.isEmpty
    | _ => false)
section
variable {K : PySem.W.Frag}
theorem pl_ok {x : Str} (c : (Fx.pl x).ok K = true) : RA.PlainC K (ga K x) := by
  obtain ⟨c1, c⟩ := ba c
  obtain ⟨c2, c3⟩ := ba c
  exact ⟨of_decide_eq_true c1, eqO_ok c2, eqO_ok c3⟩
theorem sub_ok {x y : Str} (c : (Fx.sub x y).ok K = true) : RA.PairC K (ga K x) (ga K y) := by
  rcases Bool.or_eq_true_iff.mp c with c | c
  · exact .inl (of_decide_eq_true c)
  · exact .inr (Option.isSome_iff_exists.mp c)
theorem cf_ok {x m : Str} (c : (Fx.cf x m).ok K = true) : RA.CFun K (ga K x) m (ma K (ga K x) m) := by
  obtain ⟨c1, c⟩ := ba c
  obtain ⟨c2, c⟩ := ba c
  obtain ⟨c3, c4⟩ := ba c
  refine ⟨eqO_ok c1, c2, ?_, c4⟩
  cases e : PySem.W.findCls K (.ref (ga K x)) (.type "type") m with
  | none => rw [e] at c3; cases c3
  | some r =>
    rw [e] at c3
    cases r with
    | get _ _ _ _ => cases c3
    | val v =>
      cases v with
      | ref f => rw [of_decide_eq_true c3]
      | _ => cases c3
theorem ty_ok {x : Str} (c : (Fx.ty x).ok K = true) : TyC K (ga K x) := by
  obtain ⟨c1, c⟩ := ba c
  obtain ⟨c2, c⟩ := ba c
  obtain ⟨c3, c4⟩ := ba c
  exact ⟨eqO_ok c1, eqO_ok c2, of_decide_eq_true c3, of_decide_eq_true c4⟩
theorem kit_ok {x y : Str} {b : Bool} (c : (Fx.kit x y b).ok K = true) : PySem.W.kitOne K (.ref (ga K x)) (.ref (ga K y)) = some b := of_decide_eq_true c
theorem kib_ok {n : String} {y : Str} {b : Bool} (c : (Fx.kib n y b).ok K = true) : PySem.W.kitOne K (.type n) (.ref (ga K y)) = some b := of_decide_eq_true c
theorem dtup_ok {p : Str × Option Str} {i : Nat} (h : (Fx.dtup p i).ok K = true) (H : Hp) : SqT K H (dflAt p i K) [] := by
  have h1 : (match K.lookup (dflAt p i K) with
    | some ⟨.type c, _, .seq its _, _⟩ => decide (c = "tuple") && its.isEmpty
    | _ => false) = true := h
  cases q : K.lookup (dflAt p i K) with
  | none => rw [q] at h1; cases h1
  | some o =>
    obtain ⟨oc, od, dt, osl⟩ := o
    rw [q] at h1
    cases oc with
    | type c =>
      cases dt with
      | seq its n =>
        obtain ⟨h2, h3⟩ := ba (show (decide (c = "tuple") && its.isEmpty) = true from h1)
        have e3 : its = #[] := Array.isEmpty_iff.mp h3
        subst e3
        exact .inr ⟨_, #[], n, q, congrArg Value.type (of_decide_eq_true h2), rfl, Nat.zero_le _, .nil⟩
      | _ => cases h1
    | _ => cases dt <;> cases h1
theorem TyC.tyx {C a dx : Addr} {H : Hp} {fs : List (Str × V)} (t : TyC K C) (c : Cls K C) (e : H a = some (.ins C dx fs)) : TyX K H (.ref a) (.ref C) := .base (.ins e c t.ha t.hn t.ht t.hm)
end
/-! ### dicts of the top -/
def keyE (e : DictEntry) : Option (Key × Int) := match e.key with
  | .int i _ => some (Sum.inl i, e.hash)
  | .str x _ => some (Sum.inr x, e.hash)
  | _ => none
def keyHP (P : Params) : Key → Int
  | .inl i => hashInt i
  | .inr x => PyData.keyHash P x
abbrev Tb : Type := Str × List (Key × Dv)
def tbRow (K : PySem.W.Frag) (x : Str) : Option (List (Option (Key × Int))) := match K.lookup (ga K x) with
  | some ⟨.type c, none, .dict es _, sl⟩ => (match decide (c = "dict") && (sl.isEmpty && !(ga K x == sysModules)) with
    | true => some (es.toList.map keyE)
    | false => none)
  | _ => none
def tbWant (P : Params) (kvs : List (Key × Dv)) : Option (List (Option (Key × Int))) := some (kvs.map fun q => some (q.1, keyHP P q.1))
def tbVals (K : PySem.W.Frag) (t : Tb) : Bool := decide ((t.2.map (·.1)).Nodup) && (decide (t.2.length ≤ sizeLine) && (match K.lookup (ga K t.1) with
  | some ⟨_, _, .dict es _, _⟩ => relAll (t.2.map fun q => q.2.v K) (es.toList.map (·.val))
  | _ => false))
/-- a dict of the top with these items -/
structure KD (P : Program) (w : World) (K : PySem.W.Frag) (a : Addr) (kvs : List (Key × V)) : Prop where
  low : (a == sysModules) = false
  len : kvs.length ≤ sizeLine
  at_ : ∃ vs, KV kvs vs ∧ ∀ h : Heap, K.In h → h.DictOf (mixKind P w) a vs
theorem rows_pairs {P : Program} {w : World} : ∀ {es : List DictEntry} {kvs : List (Key × V)}, es.map keyE = kvs.map (fun q => some (q.1, keyHP w.params q.1)) → relAll (kvs.map (·.2)) (es.map (·.val)) = true →
    ∃ vs, KV kvs vs ∧ Pairs (mixKind P w) es vs ∧ vs.map (·.1) = kvs.map (·.1) ∧ ∀ e ∈ es, ∃ k, (mixKind P w).is k e.key = true ∧ e.hash = (mixKind P w).hash k
  | [], [], _, _ => ⟨[], .nil, .nil, rfl, fun _ h => nomatch h⟩
  | [], _ :: _, h, _ => by cases h
  | _ :: _, [], h, _ => by cases h
  | e :: es, q :: kvs, h, hv => by
    rw [List.map_cons, List.map_cons] at h
    injection h with h1 h2
    obtain ⟨v1, v2⟩ := ba (show (relB q.2 e.val && relAll (kvs.map (·.2)) (es.map (·.val))) = true from hv)
    obtain ⟨vs, r, p, n, kk⟩ := rows_pairs (P := P) h2 v2
    have key : (mixKind P w).is q.1 e.key = true ∧ e.hash = (mixKind P w).hash q.1 := by
      unfold keyE at h1
      split at h1
      · rename_i i t ek
        have h3 := Prod.mk.inj (Option.some.inj h1)
        rw [← h3.1, ek]
        refine ⟨mixKind_int P w i t, ?_⟩
        rw [h3.2, ← h3.1]; rfl
      · rename_i x t ek
        have h3 := Prod.mk.inj (Option.some.inj h1)
        rw [← h3.1, ek]
        refine ⟨mixKind_str P w x t, ?_⟩
        rw [h3.2, ← h3.1]; rfl
      · cases h1
    refine ⟨(q.1, e.val) :: vs, .cons ⟨rfl, relB_ok v1⟩ r, .cons key.1 rfl p, by rw [List.map_cons, List.map_cons, n], fun e' he => ?_⟩
    rcases List.mem_cons.mp he with rfl | he
    · exact ⟨q.1, key⟩
    · exact kk e' he
theorem kd_of {P : Program} {w : World} {K : PySem.W.Frag} {t : Tb} (h1 : tbRow K t.1 = tbWant w.params t.2) (h2 : tbVals K t = true) : KD P w K (ga K t.1) (t.2.map fun q => (q.1, q.2.v K)) := by
  obtain ⟨nd, h2⟩ := ba h2
  obtain ⟨ln, h2⟩ := ba h2
  unfold tbRow tbWant at h1
  cases q : K.lookup (ga K t.1) with
  | none => rw [q] at h1; cases h1
  | some o =>
    obtain ⟨oc, od, dt, osl⟩ := o
    rw [q] at h1 h2
    cases oc with
    | type c =>
      cases od with
      | none =>
        cases dt with
        | dict es n =>
          have h3 : (match decide (c = "dict") && (osl.isEmpty && !(ga K t.1 == sysModules)) with
            | true => some (es.toList.map keyE)
            | false => none) = some (t.2.map fun q => some (q.1, keyHP w.params q.1)) := h1
          cases z : decide (c = "dict") && (osl.isEmpty && !(ga K t.1 == sysModules)) with
          | false => rw [z] at h3; cases h3
          | true =>
            rw [z] at h3
            obtain ⟨z1, z2⟩ := ba z
            obtain ⟨z3, z4⟩ := ba z2
            have e1 : c = "dict" := of_decide_eq_true z1
            have e2 : osl = #[] := Array.isEmpty_iff.mp z3
            have e3 : (ga K t.1 == sysModules) = false := by
              cases y : (ga K t.1 == sysModules) with
              | false => rfl
              | true => rw [y] at z4; cases z4
            subst e1 e2
            have h4 : es.toList.map keyE = (t.2.map fun q => (q.1, q.2.v K)).map (fun q => some (q.1, keyHP w.params q.1)) := by
              rw [List.map_map]
              exact Option.some.inj h3
            have h5 : relAll ((t.2.map fun q => (q.1, q.2.v K)).map (·.2)) (es.toList.map (·.val)) = true := by
              rw [List.map_map]
              exact h2
            obtain ⟨vs, r, p, nm, kk⟩ := rows_pairs (P := P) h4 h5
            refine ⟨e3, by rw [List.length_map]; exact of_decide_eq_true ln, vs, r, fun h X => ⟨_, es, n, X _ _ q, ⟨rfl, rfl, rfl⟩, rfl, fun e he => kk e (Array.mem_toList_iff.mpr he), p, ?_⟩⟩
            rw [nm, List.map_map]
            exact of_decide_eq_true nd
        | _ => cases h1
      | some d => cases dt <;> cases h1
    | _ => cases od <;> cases dt <;> cases h1
section
variable {X : Cx}
/-- dict(D), D a dict of the top: a new one -/
theorem call_dictK {D : Addr} {kvs : List (Key × V)} (k : KD X.prog X.w X.K D kvs) : CallR X (.type "dict") (fun xs H Q => xs = [.ref D] ∧ ∀ p, H p = none → Q (.ref p) (upd H p (.dK kvs))) := by
  intro pins s σ H xs us Q I r q
  obtain ⟨ex, q⟩ := q
  subst ex
  obtain ⟨u, eu, rx⟩ := vals1 r
  subst eu
  cases rx
  obtain ⟨vs, rel, dd⟩ := k.at_
  refine kt_call_dict k.low (dd _ I.kIn) (by rw [← rel.length]; exact k.len) fun h' d' hs => ?_
  have hm : (s.heap.objs.size == sysModules) = false := beq_eq_false_iff_ne.mpr (Nat.ne_of_gt I.big)
  exact ⟨.ref s.heap.objs.size, upd H s.heap.objs.size (.dK kvs), I.laid (t' := s.toks) (fun b u e => (hs.2 b (Nat.ne_of_lt (Heap.lt_size e))).trans (Heap.get?_push_of_some _ e)) (Nat.le_refl _)
    (show ObjOk X.prog X.w _ _ _ (.dK kvs) from ⟨k.len, hm, vs, rel, d'⟩), rfl, q _ (I.hok.fresh (Nat.le_refl _))⟩
end
/-! ### the Hook -/
abbrev AlB : Type := AlD × List (Option (List (Option (Key × Int)))) × Bool
def obsB (fa : List Fa) (fx : List Fx) (fn : List DefD) (ts : List Tb) (K : PySem.W.Frag) : AlB := (obsD fa fn K, ts.map fun t => tbRow K t.1, (fx.all fun f => f.ok K) && ts.all fun t => tbVals K t)
def valB (fn : List DefD) (ts : List Tb) (w : World) : AlB := (valD fn, ts.map fun t => tbWant w.params t.2, true)
def SaysB (fa : List Fa) (fx : List Fx) (fn : List DefD) (ts : List Tb) (w : World) (K : PySem.W.Frag) : Prop := obsB fa fx fn ts K = valB fn ts w
/-- and the objects that are defaults: one step further, for those alone -/
def extraB (g : Addr → Option Obj) (fx : List Fx) (as : List Addr) : List Addr := cStatics :: (as ++ fx.filterMap fun
  | .dtup p i => some (dflAt p i (frG g as))
  | _ => none)
def obsBG (n : Nat) (fa : List Fa) (fx : List Fx) (fn : List DefD) (ts : List Tb) (g : Addr → Option Obj) : AlB := obsB fa fx fn ts (frG g (extraB g fx (asD g n)))
def hookB (n : Nat) (fa : List Fa) (fx : List Fx) (fn : List DefD) (ts : List Tb) : PySem.W.Hook where
  α := AlB
  obs := fun s => obsBG n fa fx fn ts s.heap.get?
  val := fun w => valB fn ts w
  says := fun w h => ∃ K : PySem.W.Frag, K.In h ∧ SaysB fa fx fn ts w K
  of := fun _ _ e => ⟨_, frG_in, e⟩
  keeps := fun _ _ _ ⟨K, hK, c⟩ k => ⟨K, PySem.W.Frag.In.keeps hK k, c⟩
theorem obsBG_eq {n : Nat} {fa : List Fa} {fx : List Fx} {fn : List DefD} {ts : List Tb} {g : Addr → Option Obj} {s : Shared} (h : ∀ a, g a = s.heap.get? a) : obsBG n fa fx fn ts g = (hookB n fa fx fn ts).obs s := by
  have e : g = s.heap.get? := funext h
  rw [e] <;> rfl
section
variable {fa : List Fa} {fx : List Fx} {fn : List DefD} {ts : List Tb} {w : World} {K : PySem.W.Frag}
theorem SaysB.d (c : SaysB fa fx fn ts w K) : SaysD fa fn K := congrArg (fun z : AlB => z.1) c
theorem SaysB.fact (c : SaysB fa fx fn ts w K) (i : Nat) {f : Fa} (h : fa[i]? = some f := by rfl) : f.ok K = true := c.d.fact i h
theorem SaysB.more (c : SaysB fa fx fn ts w K) (i : Nat) {f : Fx} (h : fx[i]? = some f := by rfl) : f.ok K = true := by
  have c1 := (ba (show ((fx.all fun f => f.ok K) && ts.all fun t => tbVals K t) = true from congrArg (fun z : AlB => z.2.2) c)).1
  exact List.all_eq_true.mp c1 f (List.mem_of_getElem? h)
theorem SaysB.tb (c : SaysB fa fx fn ts w K) (i : Nat) {t : Tb} (h : ts[i]? = some t := by rfl) (P : Program) : KD P w K (ga K t.1) (t.2.map fun q => (q.1, q.2.v K)) := by
  have c1 := (ba (show ((fx.all fun f => f.ok K) && ts.all fun t => tbVals K t) = true from congrArg (fun z : AlB => z.2.2) c)).2
  have e : ts.map (fun t => tbRow K t.1) = ts.map fun t => tbWant w.params t.2 := congrArg (fun z : AlB => z.2.1) c
  have e2 : (ts.map fun t => tbRow K t.1)[i]? = (ts.map fun t => tbWant w.params t.2)[i]? := by rw [e]
  rw [List.getElem?_map, List.getElem?_map, h] at e2
  exact kd_of (Option.some.inj e2) (List.all_eq_true.mp c1 t (List.mem_of_getElem? h))
end
end RB

set_option Elab.async false
set_option linter.all false
set_option maxRecDepth 100000
set_option maxHeartbeats 4000000
/-! What a caller needs of a def, in one word; the stream of draws. -/
namespace RC
open PySem PySem.Spec PyProof.Rows L2 He
/-- the def at f may be called with all parameters but the last ones, whose defaults are dvs -/
def Callable (P : Program) (w : World) (K : PySem.W.Frag) (mg : Str → Option Value) (base : Heap) (k : Nat) (f : Addr) (ps : List Str) (dvs : List V) (sp : Sp) : Prop :=
  ∃ fd ds, FnOk P w K mg base CX0 k f fd ps sp ∧ Vals dvs ds ∧ Binds K fd ps ds ∧ PySem.W.keepIn K (.ref f) = true
section
variable {X : Cx} {k : Nat} {f C : Addr} {ps : List Str} {sp : Sp} {dvs : List V} {x m : Str} {p pos apos : Pos} {e o : Expr} {es : List Expr} {ta : TE} {t : TA} {pl : Sem Bool}
theorem pe_fn (hm : X.mg x = some (.ref f)) (c : Callable X.prog X.w X.K X.mg X.base k f ps dvs sp) (hr : Room k X.A) (hg : Gl X x) (ha : PA X (e :: es) t) (hdb : (x == ("__debug__" : Str)) = false := by decide)
    (he : starEach (e :: es) X.env = (false, eval e X.env) :: starEach es X.env := by rfl) (hpl : (backTo pos (starEach es X.env)).any (·.1) = false := by rfl) : PE X (.Call (.Name x p) (e :: es) [] pos) (tCall sp dvs E0 t) := by
  obtain ⟨fd, ds, F, hd, hb, hk⟩ := c
  exact pe_call F hr hg hm hk hb hd pass0 ha hdb he hpl
theorem pe_fn0 (hm : X.mg x = some (.ref f)) (c : Callable X.prog X.w X.K X.mg X.base k f ps dvs sp) (hr : Room k X.A) (hg : Gl X x) (hdb : (x == ("__debug__" : Str)) = false := by decide) : PE X (.Call (.Name x p) [] [] pos) (tCall sp dvs E0 tNil) := by
  obtain ⟨fd, ds, F, hd, hb, hk⟩ := c
  exact pe_call0 F hr hg hm hk hb hd pass0 hdb
theorem pe_mt (cl : Cls X.K C) (hm : Meth X.K C m f) (c : Callable X.prog X.w X.K X.mg X.base k f ps dvs sp) (hr : Room k X.A) (he : PE X o ta) (ha : PA X (e :: es) t)
    (hst : starEach (e :: es) X.env = (false, eval e X.env) :: starEach es X.env := by rfl) (hpl : (backTo pos (starEach es X.env)).any (·.1) = false := by rfl)
    (ht : eval (.Call (.Attribute o m apos) (e :: es) [] pos) X.env = (do
      let ov ← eval o X.env
      standAt apos.atName
      let (f, first) ← holding [ov] (getMethod ov m pl)
      callWith pos f first (backTo pos (starEach (e :: es) X.env)) (backToKw pos (keywordEach [] X.env))) := by rfl) :
    PE X (.Call (.Attribute o m apos) (e :: es) [] pos) (tMeth C m sp dvs E0 ta t) := by
  obtain ⟨fd, ds, F, hd, hb, hk⟩ := c
  exact pe_meth he cl hm F hr hb hd pass0 ha hst hpl ht
theorem pe_mt0 (cl : Cls X.K C) (hm : Meth X.K C m f) (c : Callable X.prog X.w X.K X.mg X.base k f ps dvs sp) (hr : Room k X.A) (he : PE X o ta)
    (ht : eval (.Call (.Attribute o m apos) [] [] pos) X.env = (do
      let ov ← eval o X.env
      standAt apos.atName
      let (f, first) ← holding [ov] (getMethod ov m pl)
      callWith pos f first (backTo pos (starEach [] X.env)) (backToKw pos (keywordEach [] X.env))) := by rfl) :
    PE X (.Call (.Attribute o m apos) [] [] pos) (tMeth C m sp dvs E0 ta tNil) := by
  obtain ⟨fd, ds, F, hd, hb, hk⟩ := c
  exact pe_meth0 he cl hm F hr hb hd pass0 ht
theorem pe_mk (M : Mk X.K C f) (hm : X.mg x = some (.ref C)) (c : Callable X.prog X.w X.K X.mg X.base k f ps dvs sp) (hr : Room (k + 1) X.A) (hg : Gl X x) (ha : PA X (e :: es) t) (hdb : (x == ("__debug__" : Str)) = false := by decide)
    (he : starEach (e :: es) X.env = (false, eval e X.env) :: starEach es X.env := by rfl) (hpl : (backTo pos (starEach es X.env)).any (·.1) = false := by rfl) : PE X (.Call (.Name x p) (e :: es) [] pos) (tMake C sp dvs E0 t) := by
  obtain ⟨fd, ds, F, hd, hb, hk⟩ := c
  exact pe_make M F hr hg hm hb hd pass0 ha hdb he hpl
theorem pe_mk0 (M : Mk X.K C f) (hm : X.mg x = some (.ref C)) (c : Callable X.prog X.w X.K X.mg X.base k f ps dvs sp) (hr : Room (k + 1) X.A) (hg : Gl X x) (hdb : (x == ("__debug__" : Str)) = false := by decide) : PE X (.Call (.Name x p) [] [] pos) (tMake C sp dvs E0 tNil) := by
  obtain ⟨fd, ds, F, hd, hb, hk⟩ := c
  exact pe_make0 M F hr hg hm hb hd pass0 hdb
theorem pe_cf (cf : RA.CFun X.K C m f) (c : Callable X.prog X.w X.K X.mg X.base k f ps dvs sp) (hr : Room k X.A) (he : PE X o ta) (ha : PA X (e :: es) t)
    (hst : starEach (e :: es) X.env = (false, eval e X.env) :: starEach es X.env := by rfl) (hpl : (backTo pos (starEach es X.env)).any (·.1) = false := by rfl)
    (ht : eval (.Call (.Attribute o m apos) (e :: es) [] pos) X.env = (do
      let ov ← eval o X.env
      standAt apos.atName
      let (f, first) ← holding [ov] (getMethod ov m pl)
      callWith pos f first (backTo pos (starEach (e :: es) X.env)) (backToKw pos (keywordEach [] X.env))) := by rfl) :
    PE X (.Call (.Attribute o m apos) (e :: es) [] pos) (RA.tCFun C sp dvs E0 ta t) := by
  obtain ⟨fd, ds, F, hd, hb, hk⟩ := c
  exact RA.pe_cfun he cf F hr hb hd pass0 ha hst hpl ht
end
section
variable {P : Program} {w : World} {K : PySem.W.Frag} {mg : Str → Option Value} {base : Heap} {x qual : Str} {params : Arguments} {body : List Stmt} {scope : Scope} {dvs : List V} {f : Addr} {k : Nat} {N ps : List Str} {sp : Sp}
/-- a def that stands there -/
def Stands (K : PySem.W.Frag) (x qual : Str) (st : Stmt) (dvs : List V) (f : Addr) : Prop := ∃ fd, FunD K x qual (defArgs st) (defBody st) (defScope st) dvs [] f fd
/-- THE RULE for a def, whatever its defaults: what it promises of every call; bind: how its arguments bind with the first n parameters given -/
theorem Stands.call {st : Stmt} (F : Stands K x qual st dvs f) (S : FnScope N ps (defScope st)) (n j : Nat) (len : ∀ vs H Q E, sp vs H Q E → vs.length = ps.length)
    (hbody : ∀ (cdv : Value) (A : Around) (outer : List Env) (s : Shared) (H : Hp) (vs : List V) (Q : VK) (E : XK), Room k (A.deeper (envOfC qual (defScope st) s.heap.objs.size f cdv)) → sp vs H Q E →
      ∃ t, PSs (cxOf CX0 P w K mg base N qual (defScope st) f cdv A outer s H E).nox (defBody st) t ∧ t { nx := fun _ H' => Q .non H', rt := Q } (start N vs) H)
    (h0 : dvs = [] → n = ps.length ∧ ∀ (kV doc pm : Value) (an : Option Addr) (cdv ct : Value) (us : List Value), us.length = ps.length → bindArgs (PySem.W.fnOf x qual (defArgs st) (defBody st) (defScope st) .none kV doc pm an cdv ct) ⟨us, []⟩ = pure (ps.zip us))
    (h1 : dvs ≠ [] → n + (dvs.length - j) = ps.length ∧ ∀ (T : Addr) (kV doc pm : Value) (an : Option Addr) (cdv ct : Value) (us its : List Value), us.length = n → its.length = dvs.length →
      ∃ k, bindArgs (PySem.W.fnOf x qual (defArgs st) (defBody st) (defScope st) (.ref T) kV doc pm an cdv ct) ⟨us, []⟩ = seqItems? (.ref T) >>= k ∧ k (some its.toArray) = pure (ps.zip (us ++ its.drop j))) :
    Callable P w K mg base (k + 1) f ps (dvs.drop j) sp := by
  obtain ⟨fd, F⟩ := F
  have ok : FnOk P w K mg base CX0 (k + 1) f fd ps sp := F.ok S len fun cdv A outer s H vs Q E hr hsp => by
    obtain ⟨t, h, q⟩ := hbody cdv A outer s H vs Q E hr hsp
    exact ⟨t, h.nox, q⟩
  by_cases hd : dvs = []
  · subst hd
    exact ⟨fd, [], ok, by rw [List.drop_nil]; exact .nil, F.bindsN (h0 rfl).2, F.kp⟩
  · obtain ⟨ds, hv, hb⟩ := F.binds1 n j hd (h1 hd).1 (h1 hd).2
    exact ⟨fd, ds, ok, hv, hb, F.kp⟩
/-- no defaults -/
theorem Stands.call0 {st : Stmt} (F : Stands K x qual st [] f) (S : FnScope N ps (defScope st)) (len : ∀ vs H Q E, sp vs H Q E → vs.length = ps.length)
    (hbody : ∀ (cdv : Value) (A : Around) (outer : List Env) (s : Shared) (H : Hp) (vs : List V) (Q : VK) (E : XK), Room k (A.deeper (envOfC qual (defScope st) s.heap.objs.size f cdv)) → sp vs H Q E →
      ∃ t, PSs (cxOf CX0 P w K mg base N qual (defScope st) f cdv A outer s H E).nox (defBody st) t ∧ t { nx := fun _ H' => Q .non H', rt := Q } (start N vs) H)
    (h0 : ∀ (kV doc pm : Value) (an : Option Addr) (cdv ct : Value) (us : List Value), us.length = ps.length → bindArgs (PySem.W.fnOf x qual (defArgs st) (defBody st) (defScope st) .none kV doc pm an cdv ct) ⟨us, []⟩ = pure (ps.zip us)) :
    Callable P w K mg base (k + 1) f ps [] sp := by
  obtain ⟨fd, F⟩ := F
  have ok : FnOk P w K mg base CX0 (k + 1) f fd ps sp := F.ok S len fun cdv A outer s H vs Q E hr hsp => by
    obtain ⟨t, h, q⟩ := hbody cdv A outer s H vs Q E hr hsp
    exact ⟨t, h.nox, q⟩
  exact ⟨fd, [], ok, .nil, F.bindsN h0, F.kp⟩
theorem Callable.imp {sp' : Sp} {dv : List V} (c : Callable P w K mg base k f ps dv sp) (h : ∀ vs H Q E, sp' vs H Q E → sp vs H Q E) : Callable P w K mg base k f ps dv sp' :=
  let ⟨fd, ds, F, r⟩ := c
  ⟨fd, ds, F.imp h, r⟩
theorem Callable.up {j : Nat} {dv : List V} (c : Callable P w K mg base j f ps dv sp) (h : j ≤ k) : Callable P w K mg base k f ps dv sp :=
  let ⟨fd, ds, F, r⟩ := c
  ⟨fd, ds, F.mono h, r⟩
end
/-! ### heaps -/
theorem same_new {H : Hp} {p : Addr} (h : H p = none) (o : HO) : Same H (upd H p o) := fun b u q => by rw [upd_ne (ne_of_none q h)]; exact q
theorem _root_.L2.Same.seqT {K : PySem.W.Frag} {H H' : Hp} {a : Addr} {xs : List V} (e : Same H H') (h : SqT K H a xs) : SqT K H' a xs := by
  rcases h with (h | ⟨o, h⟩) | h
  · exact .inl (.inl (e _ _ h))
  · exact .inl (.inr ⟨o, e _ _ h⟩)
  · exact .inr h
theorem upd_none {H : Hp} {a p : Addr} {o : HO} (h : upd H a o p = none) : p ≠ a ∧ H p = none := by
  by_cases e : p = a
  · subst e; rw [upd_same] at h; cases h
  · rw [upd_ne e] at h; exact ⟨e, h⟩
/-! ### the stream of draws -/
/-- the law's stream at s: its list of ints at l, the number at hand, how many were made up, the seed; n: a bound of those made up -/
def Stm (H : Hp) (s l : Addr) (n : Nat) : Prop := s ≠ l ∧ ∃ (ns : List Int) (x c d : Int), H s = some (.lst [.ref l, .int x, .int c, .int d]) ∧ H l = some (.lst (ns.map V.int)) ∧ ns.length ≤ 63 ∧ 0 ≤ x ∧ 0 ≤ c ∧ c ≤ n ∧ 0 ≤ d ∧ d < 2147483647
theorem Stm.mono {H : Hp} {s l : Addr} {n m : Nat} (h : Stm H s l n) (k : n ≤ m) : Stm H s l m := by
  obtain ⟨ne, ns, x, c, d, h1, h2, h3, h4, h5, h6, h7, h8⟩ := h
  exact ⟨ne, ns, x, c, d, h1, h2, h3, h4, h5, by omega, h7, h8⟩
theorem Stm.same {H H' : Hp} {s l : Addr} {n : Nat} (h : Stm H s l n) (k : Same H H') : Stm H' s l n := by
  obtain ⟨ne, ns, x, c, d, h1, h2, h3⟩ := h
  exact ⟨ne, ns, x, c, d, k _ _ h1, k _ _ h2, h3⟩
/-- all but the stream is as it was -/
def But (s l : Addr) (H H' : Hp) : Prop := ∀ b, b ≠ s → b ≠ l → H' b = H b
/-- all that was there but the stream is as it was -/
def Old (s l : Addr) (H H' : Hp) : Prop := ∀ b o, b ≠ s → b ≠ l → H b = some o → H' b = some o
theorem But.old {s l : Addr} {H H' : Hp} (h : But s l H H') : Old s l H H' := fun b o h1 h2 e => by rw [h b h1 h2]; exact e
theorem Old.refl {s l : Addr} (H : Hp) : Old s l H H := fun _ _ _ _ e => e
theorem Old.trans {s l : Addr} {H H1 H2 : Hp} (a : Old s l H H1) (b : Old s l H1 H2) : Old s l H H2 := fun c o h1 h2 e => b c o h1 h2 (a c o h1 h2 e)
theorem Old.of_same {s l : Addr} {H H' : Hp} (h : Same H H') : Old s l H H' := fun b o _ _ e => h b o e
section
variable {X : Cx} {x : Str} {pos : Pos}
theorem pe_gi {i : Int} (hg : Gl X x) (hm : ∃ t, X.mg x = some (.int i t)) (hd : (x == ("__debug__" : Str)) = false := by decide) : PE X (.Name x pos) (tC (.int i)) := by
  obtain ⟨t, h⟩ := hm
  exact pe_glob hg h ⟨t, rfl⟩ (by first | assumption | exact hd)
theorem pe_gs {z : Str} (hg : Gl X x) (hm : ∃ t, X.mg x = some (.str z t)) (hd : (x == ("__debug__" : Str)) = false := by decide) : PE X (.Name x pos) (tC (.str z)) := by
  obtain ⟨t, h⟩ := hm
  exact pe_glob hg h ⟨t, rfl⟩ (by first | assumption | exact hd)
end
/-! ### in a comprehension's block the written part is the def's own: rules that name it -/
section
variable {X : Cx} {K : PySem.W.Frag}
theorem opK (r : PySem.W.Frag → R2) {f : Value → Value → Sem Value} (h : OpR X f (r X.K)) (e : X.K = K := by rfl) : OpR X f (r K) := e ▸ h
theorem callK (r : PySem.W.Frag → List V → Hp → VK → Prop) {f : Value} (h : CallR X f (r X.K)) (e : X.K = K := by rfl) : CallR X f (r K) := e ▸ h
theorem ixK (r : PySem.W.Frag → R2) (h : IxR X (r X.K)) (e : X.K = K := by rfl) : IxR X (r K) := e ▸ h
theorem pe_fldK {e : Expr} {f : Str} {pos : Pos} {ta : TE} (he : PE X e ta) (hb : attributeBase e f X.env (eval e X.env) = eval e X.env) (z : X.K = K := by rfl) : PE X (.Attribute e f pos) (tFld K ta f) := z ▸ pe_fld he hb
end
/-- an expression that is never reached -/
def tNo : TE := fun _ _ _ => False
theorem pe_never {X : Cx} {e : Expr} : PE X e tNo := ⟨fun _ _ _ _ _ _ h => h.elim⟩
def tNoT : TT := fun _ _ _ => False
theorem pt_never {X : Cx} {e : Expr} : PT X e tNoT := ⟨fun _ _ _ _ _ _ h => h.elim⟩
theorem tyx_tup {K : PySem.W.Frag} {H : Hp} {a : Addr} {xs : List V} (h : SqT K H a xs) : TyX K H (.ref a) (.type "tuple") := by
  rcases h with (h | ⟨o, h⟩) | ⟨o, its, n, h, c, _⟩
  · exact .base (.tup h)
  · exact .fTuple h
  · exact .kTuple h c
theorem tyx_lst {K : PySem.W.Frag} {H : Hp} {a : Addr} {xs : List V} (h : SqL K H a xs) : TyX K H (.ref a) (.type "list") := by
  rcases h with (h | ⟨o, h⟩) | ⟨o, its, n, h, c, _⟩
  · exact .base (.lst h)
  · exact .base (.frz h)
  · exact .kList h c
/-- behind a lock all is as it was but the new -/
theorem unlock {H : Hp} {d D : Addr} {f u o : HO} (hd : H d = some u) (hD : upd H d f D = none) : upd (upd (upd H d f) D o) d u = upd H D o := by
  have ne : D ≠ d := (upd_none hD).1
  funext b
  by_cases e : b = d
  · subst e; rw [upd_same, upd_ne (Ne.symm ne)]; exact hd.symm
  · rw [upd_ne e]
    by_cases z : b = D
    · subst z; rw [upd_same, upd_same]
    · rw [upd_ne z, upd_ne z, upd_ne e]
theorem iteT' {c : Bool} {A B : Prop} (hc : c = true) (h : A) : if c = true then A else B := by rw [if_pos hc]; exact h
theorem iteF' {c : Bool} {A B : Prop} (hc : c = false) (h : B) : if c = true then A else B := by rw [if_neg (by rw [hc]; exact Bool.false_ne_true)]; exact h
end RC

set_option Elab.async false
set_option linter.all false
set_option maxRecDepth 100000
set_option maxHeartbeats 0
namespace K17
open PySem PySem.Spec PyProof.Rows L2 RC
/-! ### the text -/
def top (i : Nat) : Stmt := PySem.Challenge.pw_recordyard_k17_filters_by_names.main.body.getD i (.Pass ⟨0, 0, 0, 0⟩)
abbrev s_copied_value : Stmt := top 10
abbrev nm_copied_value : List Str := ["thing", "part", "name"]
theorem sc_copied_value : FnScope nm_copied_value ["thing"] (defScope s_copied_value) := ⟨rfl, rfl, rfl, by decide +kernel, rfl, by decide +kernel, by decide +kernel⟩
def dd_copied_value : He.DefD := ⟨("copied_value", none), "copied_value", "copied_value", defArgs s_copied_value, defBody s_copied_value, defScope s_copied_value, [], []⟩
abbrev s_LogRecord_init : Stmt := inClass (top 12) 0
abbrev nm_LogRecord_init : List Str := ["self", "name", "levelno", "levelname", "msg", "args", "created", "extra"]
theorem sc_LogRecord_init : FnScope nm_LogRecord_init ["self", "name", "levelno", "levelname", "msg", "args", "created", "extra"] (defScope s_LogRecord_init) := ⟨rfl, rfl, rfl, by decide +kernel, rfl, by decide +kernel, by decide +kernel⟩
def dd_LogRecord_init : He.DefD := ⟨("LogRecord", some "__init__"), "__init__", "LogRecord.__init__", defArgs s_LogRecord_init, defBody s_LogRecord_init, defScope s_LogRecord_init, [], []⟩
abbrev s_is_below : Stmt := top 14
abbrev nm_is_below : List Str := ["name", "above"]
theorem sc_is_below : FnScope nm_is_below ["name", "above"] (defScope s_is_below) := ⟨rfl, rfl, rfl, by decide +kernel, rfl, by decide +kernel, by decide +kernel⟩
def dd_is_below : He.DefD := ⟨("is_below", none), "is_below", "is_below", defArgs s_is_below, defBody s_is_below, defScope s_is_below, [], []⟩
abbrev s_let_by : Stmt := top 15
abbrev nm_let_by : List Str := ["one", "record", "told"]
theorem sc_let_by : FnScope nm_let_by ["one", "record"] (defScope s_let_by) := ⟨rfl, rfl, rfl, by decide +kernel, rfl, by decide +kernel, by decide +kernel⟩
def dd_let_by : He.DefD := ⟨("let_by", none), "let_by", "let_by", defArgs s_let_by, defBody s_let_by, defScope s_let_by, [], []⟩
abbrev s_Filter_init : Stmt := inClass (top 16) 0
abbrev nm_Filter_init : List Str := ["self", "name"]
theorem sc_Filter_init : FnScope nm_Filter_init ["self", "name"] (defScope s_Filter_init) := ⟨rfl, rfl, rfl, by decide +kernel, rfl, by decide +kernel, by decide +kernel⟩
def dd_Filter_init : He.DefD := ⟨("Filter", some "__init__"), "__init__", "Filter.__init__", defArgs s_Filter_init, defBody s_Filter_init, defScope s_Filter_init, [.str ""], []⟩
abbrev s_Filter_passes : Stmt := inClass (top 16) 1
abbrev nm_Filter_passes : List Str := ["self", "record"]
theorem sc_Filter_passes : FnScope nm_Filter_passes ["self", "record"] (defScope s_Filter_passes) := ⟨rfl, rfl, rfl, by decide +kernel, rfl, by decide +kernel, by decide +kernel⟩
def dd_Filter_passes : He.DefD := ⟨("Filter", some "passes"), "passes", "Filter.passes", defArgs s_Filter_passes, defBody s_Filter_passes, defScope s_Filter_passes, [], []⟩
abbrev s_Filterer_init : Stmt := inClass (top 17) 0
abbrev nm_Filterer_init : List Str := ["self"]
theorem sc_Filterer_init : FnScope nm_Filterer_init ["self"] (defScope s_Filterer_init) := ⟨rfl, rfl, rfl, by decide +kernel, rfl, by decide +kernel, by decide +kernel⟩
def dd_Filterer_init : He.DefD := ⟨("Filterer", some "__init__"), "__init__", "Filterer.__init__", defArgs s_Filterer_init, defBody s_Filterer_init, defScope s_Filterer_init, [], []⟩
abbrev s_Filterer_addFilter : Stmt := inClass (top 17) 1
abbrev nm_Filterer_addFilter : List Str := ["self", "one"]
theorem sc_Filterer_addFilter : FnScope nm_Filterer_addFilter ["self", "one"] (defScope s_Filterer_addFilter) := ⟨rfl, rfl, rfl, by decide +kernel, rfl, by decide +kernel, by decide +kernel⟩
def dd_Logger_addFilter : He.DefD := ⟨("Logger", some "addFilter"), "addFilter", "Filterer.addFilter", defArgs s_Filterer_addFilter, defBody s_Filterer_addFilter, defScope s_Filterer_addFilter, [], []⟩
abbrev s_Filterer_removeFilter : Stmt := inClass (top 17) 2
abbrev nm_Filterer_removeFilter : List Str := ["self", "one", "other"]
theorem sc_Filterer_removeFilter : FnScope nm_Filterer_removeFilter ["self", "one"] (defScope s_Filterer_removeFilter) := ⟨rfl, rfl, rfl, by decide +kernel, rfl, by decide +kernel, by decide +kernel⟩
def dd_Logger_removeFilter : He.DefD := ⟨("Logger", some "removeFilter"), "removeFilter", "Filterer.removeFilter", defArgs s_Filterer_removeFilter, defBody s_Filterer_removeFilter, defScope s_Filterer_removeFilter, [], []⟩
abbrev s_Filterer_filtered : Stmt := inClass (top 17) 3
abbrev nm_Filterer_filtered : List Str := ["self", "record", "found", "one"]
theorem sc_Filterer_filtered : FnScope nm_Filterer_filtered ["self", "record"] (defScope s_Filterer_filtered) := ⟨rfl, rfl, rfl, by decide +kernel, rfl, by decide +kernel, by decide +kernel⟩
def dd_Logger_filtered : He.DefD := ⟨("Logger", some "filtered"), "filtered", "Filterer.filtered", defArgs s_Filterer_filtered, defBody s_Filterer_filtered, defScope s_Filterer_filtered, [], []⟩
def dd_NullHandler_addFilter : He.DefD := ⟨("NullHandler", some "addFilter"), "addFilter", "Filterer.addFilter", defArgs s_Filterer_addFilter, defBody s_Filterer_addFilter, defScope s_Filterer_addFilter, [], []⟩
def dd_NullHandler_removeFilter : He.DefD := ⟨("NullHandler", some "removeFilter"), "removeFilter", "Filterer.removeFilter", defArgs s_Filterer_removeFilter, defBody s_Filterer_removeFilter, defScope s_Filterer_removeFilter, [], []⟩
def dd_NullHandler_filtered : He.DefD := ⟨("NullHandler", some "filtered"), "filtered", "Filterer.filtered", defArgs s_Filterer_filtered, defBody s_Filterer_filtered, defScope s_Filterer_filtered, [], []⟩
abbrev s_Handler_init : Stmt := inClass (top 19) 0
abbrev nm_Handler_init : List Str := ["self", "yard"]
theorem sc_Handler_init : FnScope nm_Handler_init ["self", "yard"] (defScope s_Handler_init) := ⟨rfl, rfl, rfl, by decide +kernel, rfl, by decide +kernel, by decide +kernel⟩
def dd_Handler_init : He.DefD := ⟨("Handler", some "__init__"), "__init__", "Handler.__init__", defArgs s_Handler_init, defBody s_Handler_init, defScope s_Handler_init, [], []⟩
abbrev s_StreamHandler_init : Stmt := inClass (top 20) 0
abbrev nm_StreamHandler_init : List Str := ["self", "yard", "stream"]
theorem sc_StreamHandler_init : FnScope nm_StreamHandler_init ["self", "yard", "stream"] (defScope s_StreamHandler_init) := ⟨rfl, rfl, rfl, by decide +kernel, rfl, by decide +kernel, by decide +kernel⟩
def dd_StreamHandler_init : He.DefD := ⟨("StreamHandler", some "__init__"), "__init__", "StreamHandler.__init__", defArgs s_StreamHandler_init, defBody s_StreamHandler_init, defScope s_StreamHandler_init, [.str "stderr"], []⟩
def dd_NullHandler_init : He.DefD := ⟨("NullHandler", some "__init__"), "__init__", "Handler.__init__", defArgs s_Handler_init, defBody s_Handler_init, defScope s_Handler_init, [], []⟩
abbrev s_is_integer : Stmt := top 31
abbrev nm_is_integer : List Str := ["thing"]
theorem sc_is_integer : FnScope nm_is_integer ["thing"] (defScope s_is_integer) := ⟨rfl, rfl, rfl, by decide +kernel, rfl, by decide +kernel, by decide +kernel⟩
def dd_is_integer : He.DefD := ⟨("is_integer", none), "is_integer", "is_integer", defArgs s_is_integer, defBody s_is_integer, defScope s_is_integer, [], []⟩
abbrev s_is_part : Stmt := top 34
abbrev nm_is_part : List Str := ["text", "sign"]
theorem sc_is_part : FnScope nm_is_part ["text"] (defScope s_is_part) := ⟨rfl, rfl, rfl, by decide +kernel, rfl, by decide +kernel, by decide +kernel⟩
def dd_is_part : He.DefD := ⟨("is_part", none), "is_part", "is_part", defArgs s_is_part, defBody s_is_part, defScope s_is_part, [], []⟩
abbrev s_are_parts : Stmt := top 35
abbrev nm_are_parts : List Str := ["thing", "part"]
theorem sc_are_parts : FnScope nm_are_parts ["thing"] (defScope s_are_parts) := ⟨rfl, rfl, rfl, by decide +kernel, rfl, by decide +kernel, by decide +kernel⟩
def dd_are_parts : He.DefD := ⟨("are_parts", none), "are_parts", "are_parts", defArgs s_are_parts, defBody s_are_parts, defScope s_are_parts, [], []⟩
abbrev s_parent_of : Stmt := top 36
abbrev nm_parent_of : List Str := ["yard", "name", "parts", "many", "above"]
theorem sc_parent_of : FnScope nm_parent_of ["yard", "name"] (defScope s_parent_of) := ⟨rfl, rfl, rfl, by decide +kernel, rfl, by decide +kernel, by decide +kernel⟩
def dd_parent_of : He.DefD := ⟨("parent_of", none), "parent_of", "parent_of", defArgs s_parent_of, defBody s_parent_of, defScope s_parent_of, [], []⟩
abbrev s_place_loggers : Stmt := top 37
abbrev nm_place_loggers : List Str := ["yard", "name"]
theorem sc_place_loggers : FnScope nm_place_loggers ["yard"] (defScope s_place_loggers) := ⟨rfl, rfl, rfl, by decide +kernel, rfl, by decide +kernel, by decide +kernel⟩
def dd_place_loggers : He.DefD := ⟨("place_loggers", none), "place_loggers", "place_loggers", defArgs s_place_loggers, defBody s_place_loggers, defScope s_place_loggers, [], []⟩
abbrev s_Logger_init : Stmt := inClass (top 38) 0
abbrev nm_Logger_init : List Str := ["self", "yard", "name", "level"]
theorem sc_Logger_init : FnScope nm_Logger_init ["self", "yard", "name", "level"] (defScope s_Logger_init) := ⟨rfl, rfl, rfl, by decide +kernel, rfl, by decide +kernel, by decide +kernel⟩
def dd_Logger_init : He.DefD := ⟨("Logger", some "__init__"), "__init__", "Logger.__init__", defArgs s_Logger_init, defBody s_Logger_init, defScope s_Logger_init, [], []⟩
abbrev s_Yard_init : Stmt := inClass (top 40) 0
abbrev nm_Yard_init : List Str := ["self", "now"]
theorem sc_Yard_init : FnScope nm_Yard_init ["self", "now"] (defScope s_Yard_init) := ⟨rfl, rfl, rfl, by decide +kernel, rfl, by decide +kernel, by decide +kernel⟩
def dd_Yard_init : He.DefD := ⟨("Yard", some "__init__"), "__init__", "Yard.__init__", defArgs s_Yard_init, defBody s_Yard_init, defScope s_Yard_init, [.int 0], []⟩
abbrev s_Yard_level_name : Stmt := inClass (top 40) 16
abbrev nm_Yard_level_name : List Str := ["self", "level"]
theorem sc_Yard_level_name : FnScope nm_Yard_level_name ["self", "level"] (defScope s_Yard_level_name) := ⟨rfl, rfl, rfl, by decide +kernel, rfl, by decide +kernel, by decide +kernel⟩
def dd_Yard_level_name : He.DefD := ⟨("Yard", some "level_name"), "level_name", "Yard.level_name", defArgs s_Yard_level_name, defBody s_Yard_level_name, defScope s_Yard_level_name, [], []⟩
abbrev s_Yard_level_of : Stmt := inClass (top 40) 18
abbrev nm_Yard_level_of : List Str := ["self", "level"]
theorem sc_Yard_level_of : FnScope nm_Yard_level_of ["self", "level"] (defScope s_Yard_level_of) := ⟨rfl, rfl, rfl, by decide +kernel, rfl, by decide +kernel, by decide +kernel⟩
def dd_Yard_level_of : He.DefD := ⟨("Yard", some "level_of"), "level_of", "Yard.level_of", defArgs s_Yard_level_of, defBody s_Yard_level_of, defScope s_Yard_level_of, [], []⟩
abbrev s_Yard_make_record : Stmt := inClass (top 40) 19
abbrev nm_Yard_make_record : List Str := ["self", "name", "level", "msg", "args", "extra", "number", "more", "bad", "key"]
theorem sc_Yard_make_record : FnScope nm_Yard_make_record ["self", "name", "level", "msg", "args", "extra"] (defScope s_Yard_make_record) := ⟨rfl, rfl, rfl, by decide +kernel, rfl, by decide +kernel, by decide +kernel⟩
def dd_Yard_make_record : He.DefD := ⟨("Yard", some "make_record"), "make_record", "Yard.make_record", defArgs s_Yard_make_record, defBody s_Yard_make_record, defScope s_Yard_make_record, [.adr (He.dflAt ("Yard", some "make_record") 0), .non], []⟩
abbrev s_Yard_getLogger : Stmt := inClass (top 40) 20
abbrev nm_Yard_getLogger : List Str := ["self", "name"]
theorem sc_Yard_getLogger : FnScope nm_Yard_getLogger ["self", "name"] (defScope s_Yard_getLogger) := ⟨rfl, rfl, rfl, by decide +kernel, rfl, by decide +kernel, by decide +kernel⟩
def dd_Yard_getLogger : He.DefD := ⟨("Yard", some "getLogger"), "getLogger", "Yard.getLogger", defArgs s_Yard_getLogger, defBody s_Yard_getLogger, defScope s_Yard_getLogger, [.str ""], []⟩
abbrev s_Yard_enrol : Stmt := inClass (top 40) 24
abbrev nm_Yard_enrol : List Str := ["self", "handler"]
theorem sc_Yard_enrol : FnScope nm_Yard_enrol ["self", "handler"] (defScope s_Yard_enrol) := ⟨rfl, rfl, rfl, by decide +kernel, rfl, by decide +kernel, by decide +kernel⟩
def dd_Yard_enrol : He.DefD := ⟨("Yard", some "enrol"), "enrol", "Yard.enrol", defArgs s_Yard_enrol, defBody s_Yard_enrol, defScope s_Yard_enrol, [], []⟩
abbrev s__law_draw : Stmt := top 42
abbrev nm__law_draw : List Str := ["_law_s", "_law_many", "_law_digit", "_law_mixed", "_law_last"]
theorem sc__law_draw : FnScope nm__law_draw ["_law_s", "_law_many"] (defScope s__law_draw) := ⟨rfl, rfl, rfl, by decide +kernel, rfl, by decide +kernel, by decide +kernel⟩
def dd__law_draw : He.DefD := ⟨("_law_draw", none), "_law_draw", "_law_draw", defArgs s__law_draw, defBody s__law_draw, defScope s__law_draw, [], []⟩
abbrev s__law_pick : Stmt := top 43
abbrev nm__law_pick : List Str := ["_law_s", "_law_some"]
theorem sc__law_pick : FnScope nm__law_pick ["_law_s", "_law_some"] (defScope s__law_pick) := ⟨rfl, rfl, rfl, by decide +kernel, rfl, by decide +kernel, by decide +kernel⟩
def dd__law_pick : He.DefD := ⟨("_law_pick", none), "_law_pick", "_law_pick", defArgs s__law_pick, defBody s__law_pick, defScope s__law_pick, [], []⟩
abbrev s__law_same : Stmt := top 44
abbrev nm__law_same : List Str := ["_law_found", "_law_due", "_law_one", "_law_two"]
theorem sc__law_same : FnScope nm__law_same ["_law_found", "_law_due"] (defScope s__law_same) := ⟨rfl, rfl, rfl, by decide +kernel, rfl, by decide +kernel, by decide +kernel⟩
def dd__law_same : He.DefD := ⟨("_law_same", none), "_law_same", "_law_same", defArgs s__law_same, defBody s__law_same, defScope s__law_same, [], []⟩
abbrev s__law_name : Stmt := top 45
abbrev nm__law_name : List Str := ["_law_s", "_law_most", "_law_k"]
theorem sc__law_name : FnScope nm__law_name ["_law_s", "_law_most"] (defScope s__law_name) := ⟨rfl, rfl, rfl, by decide +kernel, rfl, by decide +kernel, by decide +kernel⟩
def dd__law_name : He.DefD := ⟨("_law_name", none), "_law_name", "_law_name", defArgs s__law_name, defBody s__law_name, defScope s__law_name, [], []⟩
abbrev s__law_odd_name : Stmt := top 46
abbrev nm__law_odd_name : List Str := ["_law_s", "_law_name_here", "_law_odd"]
theorem sc__law_odd_name : FnScope nm__law_odd_name ["_law_s"] (defScope s__law_odd_name) := ⟨rfl, rfl, rfl, by decide +kernel, rfl, by decide +kernel, by decide +kernel⟩
def dd__law_odd_name : He.DefD := ⟨("_law_odd_name", none), "_law_odd_name", "_law_odd_name", defArgs s__law_odd_name, defBody s__law_odd_name, defScope s__law_odd_name, [], []⟩
abbrev s_law : Stmt := top 47
abbrev nm_law : List Str := ["_law_script", "_law_s", "_law_yard", "_law_logger", "_law_handler", "_law_turn", "_law_name_here", "_law_other", "_law_one", "_law_record", "_law_due", "_law_thing", "_law_found"]
theorem sc_law : FnScope nm_law ["_law_script"] (defScope s_law) := ⟨rfl, rfl, rfl, by decide +kernel, rfl, by decide +kernel, by decide +kernel⟩
def dd_law : He.DefD := ⟨("law", none), "law", "law", defArgs s_law, defBody s_law, defScope s_law, [], []⟩
def kv_FIRST_NAMES : List (Key × He.Dv) := [(Sum.inl (50), .str "CRITICAL"), (Sum.inl (40), .str "ERROR"), (Sum.inl (30), .str "WARNING"), (Sum.inl (20), .str "INFO"), (Sum.inl (10), .str "DEBUG"), (Sum.inl (0), .str "NOTSET")]
def kv_FIRST_NUMBERS : List (Key × He.Dv) := [(Sum.inr "CRITICAL", .int (50)), (Sum.inr "FATAL", .int (50)), (Sum.inr "ERROR", .int (40)), (Sum.inr "WARNING", .int (30)), (Sum.inr "WARN", .int (30)), (Sum.inr "INFO", .int (20)), (Sum.inr "DEBUG", .int (10)), (Sum.inr "NOTSET", .int (0))]
def fa : List He.Fa := ([.glo "LogRecord", .glo "Filter", .glo "Filterer", .glo "Handler", .glo "StreamHandler", .glo "NullHandler", .glo "Logger", .glo "Yard", .glo "copied_value", .glo "is_below", .glo "let_by", .glo "is_integer"] : List He.Fa) ++ ([.glo "is_part", .glo "are_parts", .glo "parent_of", .glo "place_loggers", .glo "_law_draw", .glo "_law_pick", .glo "_law_same", .glo "_law_name", .glo "_law_odd_name", .glo "law", .glo "OWN_FIELDS", .int "WARNING" 30] : List He.Fa) ++ ([.int "NOTSET" 0, .glo "FIRST_NAMES", .glo "FIRST_NUMBERS", .str "SIGNS" "abcdefghijklmnopqrstuvwxyzABCDEFGHIJKLMNOPQRSTUVWXYZ0123456789_", .free "len", .free "isinstance", .free "int", .free "str", .free "list", .free "tuple", .free "dict", .free "bool"] : List He.Fa) ++ ([.free "range", .free "sorted", .free "all", .free "zip", .cls "LogRecord", .noat "LogRecord" "name", .noat "LogRecord" "levelno", .noat "LogRecord" "levelname", .noat "LogRecord" "msg", .noat "LogRecord" "given", .noat "LogRecord" "created", .noat "LogRecord" "extra"] : List He.Fa) ++ ([.cls "Filter", .noat "Filter" "name", .cls "StreamHandler", .noat "StreamHandler" "filters", .noat "StreamHandler" "yard", .noat "StreamHandler" "level", .noat "StreamHandler" "formatter", .noat "StreamHandler" "name", .noat "StreamHandler" "terminator", .noat "StreamHandler" "closed", .noat "StreamHandler" "stream", .cls "NullHandler"] : List He.Fa) ++ ([.noat "NullHandler" "filters", .noat "NullHandler" "yard", .noat "NullHandler" "level", .noat "NullHandler" "formatter", .noat "NullHandler" "name", .noat "NullHandler" "terminator", .noat "NullHandler" "closed", .cls "Logger", .noat "Logger" "filters", .noat "Logger" "yard", .noat "Logger" "name", .noat "Logger" "level"] : List He.Fa) ++ ([.noat "Logger" "propagate", .noat "Logger" "disabled", .noat "Logger" "handlers", .noat "Logger" "parent", .cls "Yard", .noat "Yard" "clock", .noat "Yard" "stream_texts", .noat "Yard" "file_rows", .noat "Yard" "names_of", .noat "Yard" "numbers_of", .noat "Yard" "bar_level", .noat "Yard" "logger_map"] : List He.Fa) ++ ([.noat "Yard" "made", .noat "Yard" "handler_names", .noat "Yard" "failure_rows", .noat "Yard" "root", .noat "Yard" "last_resort", .meth "Filter" "passes", .meth "Logger" "addFilter", .meth "Logger" "removeFilter", .meth "Logger" "filtered", .meth "NullHandler" "addFilter", .meth "NullHandler" "removeFilter", .meth "NullHandler" "filtered"] : List He.Fa) ++ ([.meth "Yard" "level_name", .meth "Yard" "level_of", .meth "Yard" "make_record", .meth "Yard" "getLogger", .meth "Yard" "enrol", .mkr "LogRecord", .mkr "Filter", .mkr "StreamHandler", .mkr "NullHandler", .mkr "Logger", .mkr "Yard"] : List He.Fa)
def fx : List RB.Fx := ([.pl "Filter", .pl "LogRecord", .pl "Logger", .sub "Filter" "Filter", .sub "LogRecord" "LogRecord", .cf "Filterer" "__init__", .cf "Handler" "__init__", .ty "Filter", .ty "LogRecord", .kit "Filter" "Filter" true, .dtup ("Yard", some "make_record") 0] : List RB.Fx)
def fn : List He.DefD := ([dd_copied_value, dd_LogRecord_init, dd_is_below, dd_let_by, dd_Filter_init, dd_Filter_passes, dd_Filterer_init, dd_Logger_addFilter, dd_Logger_removeFilter, dd_Logger_filtered, dd_NullHandler_addFilter, dd_NullHandler_removeFilter] : List He.DefD) ++ ([dd_NullHandler_filtered, dd_Handler_init, dd_StreamHandler_init, dd_NullHandler_init, dd_is_integer, dd_is_part, dd_are_parts, dd_parent_of, dd_place_loggers, dd_Logger_init, dd_Yard_init, dd_Yard_level_name] : List He.DefD) ++ ([dd_Yard_level_of, dd_Yard_make_record, dd_Yard_getLogger, dd_Yard_enrol, dd__law_draw, dd__law_pick, dd__law_same, dd__law_name, dd__law_odd_name, dd_law] : List He.DefD)
def ts : List RB.Tb := ([("FIRST_NAMES", kv_FIRST_NAMES), ("FIRST_NUMBERS", kv_FIRST_NUMBERS)] : List RB.Tb)
def names : List PySem.Str := (["_wall", "YardError", "BadLevel", "BadName", "BadExtra", "BadMessage", "BadField", "OWN_FIELDS", "copied_value", "message_of", "LogRecord", "is_below"] : List PySem.Str) ++ (["let_by", "Filter", "Filterer", "Handler", "StreamHandler", "NullHandler", "CRITICAL", "ERROR", "WARNING", "INFO", "DEBUG", "NOTSET"] : List PySem.Str) ++ (["FIRST_NAMES", "FIRST_NUMBERS", "is_integer", "SIGNS", "is_part", "are_parts", "parent_of", "place_loggers", "Logger", "Yard", "_law_draw", "_law_pick"] : List PySem.Str) ++ (["_law_same", "_law_name", "_law_odd_name"] : List PySem.Str)
/-- what the text is, behind the top -/
structure Txt (P : Program) (w : World) (K : PySem.W.Frag) (mg : Str → Option Value) : Prop where
  g_LogRecord : mg "LogRecord" = some (.ref (He.ga K "LogRecord"))
  g_Filter : mg "Filter" = some (.ref (He.ga K "Filter"))
  g_Filterer : mg "Filterer" = some (.ref (He.ga K "Filterer"))
  g_Handler : mg "Handler" = some (.ref (He.ga K "Handler"))
  g_StreamHandler : mg "StreamHandler" = some (.ref (He.ga K "StreamHandler"))
  g_NullHandler : mg "NullHandler" = some (.ref (He.ga K "NullHandler"))
  g_Logger : mg "Logger" = some (.ref (He.ga K "Logger"))
  g_Yard : mg "Yard" = some (.ref (He.ga K "Yard"))
  g_copied_value : mg "copied_value" = some (.ref (He.ga K "copied_value"))
  g_is_below : mg "is_below" = some (.ref (He.ga K "is_below"))
  g_let_by : mg "let_by" = some (.ref (He.ga K "let_by"))
  g_is_integer : mg "is_integer" = some (.ref (He.ga K "is_integer"))
  g_is_part : mg "is_part" = some (.ref (He.ga K "is_part"))
  g_are_parts : mg "are_parts" = some (.ref (He.ga K "are_parts"))
  g_parent_of : mg "parent_of" = some (.ref (He.ga K "parent_of"))
  g_place_loggers : mg "place_loggers" = some (.ref (He.ga K "place_loggers"))
  g__law_draw : mg "_law_draw" = some (.ref (He.ga K "_law_draw"))
  g__law_pick : mg "_law_pick" = some (.ref (He.ga K "_law_pick"))
  g__law_same : mg "_law_same" = some (.ref (He.ga K "_law_same"))
  g__law_name : mg "_law_name" = some (.ref (He.ga K "_law_name"))
  g__law_odd_name : mg "_law_odd_name" = some (.ref (He.ga K "_law_odd_name"))
  g_law : mg "law" = some (.ref (He.ga K "law"))
  g_OWN_FIELDS : mg "OWN_FIELDS" = some (.ref (He.ga K "OWN_FIELDS"))
  g_WARNING : ∃ t, mg "WARNING" = some (.int 30 t)
  g_NOTSET : ∃ t, mg "NOTSET" = some (.int 0 t)
  g_FIRST_NAMES : mg "FIRST_NAMES" = some (.ref (He.ga K "FIRST_NAMES"))
  g_FIRST_NUMBERS : mg "FIRST_NUMBERS" = some (.ref (He.ga K "FIRST_NUMBERS"))
  g_SIGNS : ∃ t, mg "SIGNS" = some (.str "abcdefghijklmnopqrstuvwxyzABCDEFGHIJKLMNOPQRSTUVWXYZ0123456789_" t)
  b_len : mg "len" = none
  b_isinstance : mg "isinstance" = none
  b_int : mg "int" = none
  b_str : mg "str" = none
  b_list : mg "list" = none
  b_tuple : mg "tuple" = none
  b_dict : mg "dict" = none
  b_bool : mg "bool" = none
  b_range : mg "range" = none
  b_sorted : mg "sorted" = none
  b_all : mg "all" = none
  b_zip : mg "zip" = none
  c_LogRecord : Cls K (He.ga K "LogRecord")
  n_LogRecord_name : NoAttr K (He.ga K "LogRecord") "name"
  n_LogRecord_levelno : NoAttr K (He.ga K "LogRecord") "levelno"
  n_LogRecord_levelname : NoAttr K (He.ga K "LogRecord") "levelname"
  n_LogRecord_msg : NoAttr K (He.ga K "LogRecord") "msg"
  n_LogRecord_given : NoAttr K (He.ga K "LogRecord") "given"
  n_LogRecord_created : NoAttr K (He.ga K "LogRecord") "created"
  n_LogRecord_extra : NoAttr K (He.ga K "LogRecord") "extra"
  c_Filter : Cls K (He.ga K "Filter")
  n_Filter_name : NoAttr K (He.ga K "Filter") "name"
  c_StreamHandler : Cls K (He.ga K "StreamHandler")
  n_StreamHandler_filters : NoAttr K (He.ga K "StreamHandler") "filters"
  n_StreamHandler_yard : NoAttr K (He.ga K "StreamHandler") "yard"
  n_StreamHandler_level : NoAttr K (He.ga K "StreamHandler") "level"
  n_StreamHandler_formatter : NoAttr K (He.ga K "StreamHandler") "formatter"
  n_StreamHandler_name : NoAttr K (He.ga K "StreamHandler") "name"
  n_StreamHandler_terminator : NoAttr K (He.ga K "StreamHandler") "terminator"
  n_StreamHandler_closed : NoAttr K (He.ga K "StreamHandler") "closed"
  n_StreamHandler_stream : NoAttr K (He.ga K "StreamHandler") "stream"
  c_NullHandler : Cls K (He.ga K "NullHandler")
  n_NullHandler_filters : NoAttr K (He.ga K "NullHandler") "filters"
  n_NullHandler_yard : NoAttr K (He.ga K "NullHandler") "yard"
  n_NullHandler_level : NoAttr K (He.ga K "NullHandler") "level"
  n_NullHandler_formatter : NoAttr K (He.ga K "NullHandler") "formatter"
  n_NullHandler_name : NoAttr K (He.ga K "NullHandler") "name"
  n_NullHandler_terminator : NoAttr K (He.ga K "NullHandler") "terminator"
  n_NullHandler_closed : NoAttr K (He.ga K "NullHandler") "closed"
  c_Logger : Cls K (He.ga K "Logger")
  n_Logger_filters : NoAttr K (He.ga K "Logger") "filters"
  n_Logger_yard : NoAttr K (He.ga K "Logger") "yard"
  n_Logger_name : NoAttr K (He.ga K "Logger") "name"
  n_Logger_level : NoAttr K (He.ga K "Logger") "level"
  n_Logger_propagate : NoAttr K (He.ga K "Logger") "propagate"
  n_Logger_disabled : NoAttr K (He.ga K "Logger") "disabled"
  n_Logger_handlers : NoAttr K (He.ga K "Logger") "handlers"
  n_Logger_parent : NoAttr K (He.ga K "Logger") "parent"
  c_Yard : Cls K (He.ga K "Yard")
  n_Yard_clock : NoAttr K (He.ga K "Yard") "clock"
  n_Yard_stream_texts : NoAttr K (He.ga K "Yard") "stream_texts"
  n_Yard_file_rows : NoAttr K (He.ga K "Yard") "file_rows"
  n_Yard_names_of : NoAttr K (He.ga K "Yard") "names_of"
  n_Yard_numbers_of : NoAttr K (He.ga K "Yard") "numbers_of"
  n_Yard_bar_level : NoAttr K (He.ga K "Yard") "bar_level"
  n_Yard_logger_map : NoAttr K (He.ga K "Yard") "logger_map"
  n_Yard_made : NoAttr K (He.ga K "Yard") "made"
  n_Yard_handler_names : NoAttr K (He.ga K "Yard") "handler_names"
  n_Yard_failure_rows : NoAttr K (He.ga K "Yard") "failure_rows"
  n_Yard_root : NoAttr K (He.ga K "Yard") "root"
  n_Yard_last_resort : NoAttr K (He.ga K "Yard") "last_resort"
  m_Filter_passes : Meth K (He.ga K "Filter") "passes" (He.ma K (He.ga K "Filter") "passes")
  m_Logger_addFilter : Meth K (He.ga K "Logger") "addFilter" (He.ma K (He.ga K "Logger") "addFilter")
  m_Logger_removeFilter : Meth K (He.ga K "Logger") "removeFilter" (He.ma K (He.ga K "Logger") "removeFilter")
  m_Logger_filtered : Meth K (He.ga K "Logger") "filtered" (He.ma K (He.ga K "Logger") "filtered")
  m_NullHandler_addFilter : Meth K (He.ga K "NullHandler") "addFilter" (He.ma K (He.ga K "NullHandler") "addFilter")
  m_NullHandler_removeFilter : Meth K (He.ga K "NullHandler") "removeFilter" (He.ma K (He.ga K "NullHandler") "removeFilter")
  m_NullHandler_filtered : Meth K (He.ga K "NullHandler") "filtered" (He.ma K (He.ga K "NullHandler") "filtered")
  m_Yard_level_name : Meth K (He.ga K "Yard") "level_name" (He.ma K (He.ga K "Yard") "level_name")
  m_Yard_level_of : Meth K (He.ga K "Yard") "level_of" (He.ma K (He.ga K "Yard") "level_of")
  m_Yard_make_record : Meth K (He.ga K "Yard") "make_record" (He.ma K (He.ga K "Yard") "make_record")
  m_Yard_getLogger : Meth K (He.ga K "Yard") "getLogger" (He.ma K (He.ga K "Yard") "getLogger")
  m_Yard_enrol : Meth K (He.ga K "Yard") "enrol" (He.ma K (He.ga K "Yard") "enrol")
  k_LogRecord : Mk K (He.ga K "LogRecord") (He.ma K (He.ga K "LogRecord") "__init__")
  k_Filter : Mk K (He.ga K "Filter") (He.ma K (He.ga K "Filter") "__init__")
  k_StreamHandler : Mk K (He.ga K "StreamHandler") (He.ma K (He.ga K "StreamHandler") "__init__")
  k_NullHandler : Mk K (He.ga K "NullHandler") (He.ma K (He.ga K "NullHandler") "__init__")
  k_Logger : Mk K (He.ga K "Logger") (He.ma K (He.ga K "Logger") "__init__")
  k_Yard : Mk K (He.ga K "Yard") (He.ma K (He.ga K "Yard") "__init__")
  p_Filter : RA.PlainC K (He.ga K "Filter")
  p_LogRecord : RA.PlainC K (He.ga K "LogRecord")
  p_Logger : RA.PlainC K (He.ga K "Logger")
  sub_Filter_Filter : RA.PairC K (He.ga K "Filter") (He.ga K "Filter")
  sub_LogRecord_LogRecord : RA.PairC K (He.ga K "LogRecord") (He.ga K "LogRecord")
  cf_Filterer_init : RA.CFun K (He.ga K "Filterer") "__init__" (He.ma K (He.ga K "Filterer") "__init__")
  cf_Handler_init : RA.CFun K (He.ga K "Handler") "__init__" (He.ma K (He.ga K "Handler") "__init__")
  ty_Filter : RB.TyC K (He.ga K "Filter")
  ty_LogRecord : RB.TyC K (He.ga K "LogRecord")
  kit_Filter_Filter : PySem.W.kitOne K (.ref (He.ga K "Filter")) (.ref (He.ga K "Filter")) = some true
  dt_Yard_make_record_0 : ∀ H : Hp, SqT K H (He.dflAt ("Yard", some "make_record") 0 K) []
  d_copied_value : Stands K "copied_value" "copied_value" s_copied_value [] (He.fAd K ("copied_value", none))
  d_LogRecord_init : Stands K "__init__" "LogRecord.__init__" s_LogRecord_init [] (He.fAd K ("LogRecord", some "__init__"))
  d_is_below : Stands K "is_below" "is_below" s_is_below [] (He.fAd K ("is_below", none))
  d_let_by : Stands K "let_by" "let_by" s_let_by [] (He.fAd K ("let_by", none))
  d_Filter_init : Stands K "__init__" "Filter.__init__" s_Filter_init [(He.Dv.str "" : He.Dv).v K] (He.fAd K ("Filter", some "__init__"))
  d_Filter_passes : Stands K "passes" "Filter.passes" s_Filter_passes [] (He.fAd K ("Filter", some "passes"))
  d_Filterer_init : Stands K "__init__" "Filterer.__init__" s_Filterer_init [] (He.fAd K ("Filterer", some "__init__"))
  d_Logger_addFilter : Stands K "addFilter" "Filterer.addFilter" s_Filterer_addFilter [] (He.fAd K ("Logger", some "addFilter"))
  d_Logger_removeFilter : Stands K "removeFilter" "Filterer.removeFilter" s_Filterer_removeFilter [] (He.fAd K ("Logger", some "removeFilter"))
  d_Logger_filtered : Stands K "filtered" "Filterer.filtered" s_Filterer_filtered [] (He.fAd K ("Logger", some "filtered"))
  d_NullHandler_addFilter : Stands K "addFilter" "Filterer.addFilter" s_Filterer_addFilter [] (He.fAd K ("NullHandler", some "addFilter"))
  d_NullHandler_removeFilter : Stands K "removeFilter" "Filterer.removeFilter" s_Filterer_removeFilter [] (He.fAd K ("NullHandler", some "removeFilter"))
  d_NullHandler_filtered : Stands K "filtered" "Filterer.filtered" s_Filterer_filtered [] (He.fAd K ("NullHandler", some "filtered"))
  d_Handler_init : Stands K "__init__" "Handler.__init__" s_Handler_init [] (He.fAd K ("Handler", some "__init__"))
  d_StreamHandler_init : Stands K "__init__" "StreamHandler.__init__" s_StreamHandler_init [(He.Dv.str "stderr" : He.Dv).v K] (He.fAd K ("StreamHandler", some "__init__"))
  d_NullHandler_init : Stands K "__init__" "Handler.__init__" s_Handler_init [] (He.fAd K ("NullHandler", some "__init__"))
  d_is_integer : Stands K "is_integer" "is_integer" s_is_integer [] (He.fAd K ("is_integer", none))
  d_is_part : Stands K "is_part" "is_part" s_is_part [] (He.fAd K ("is_part", none))
  d_are_parts : Stands K "are_parts" "are_parts" s_are_parts [] (He.fAd K ("are_parts", none))
  d_parent_of : Stands K "parent_of" "parent_of" s_parent_of [] (He.fAd K ("parent_of", none))
  d_place_loggers : Stands K "place_loggers" "place_loggers" s_place_loggers [] (He.fAd K ("place_loggers", none))
  d_Logger_init : Stands K "__init__" "Logger.__init__" s_Logger_init [] (He.fAd K ("Logger", some "__init__"))
  d_Yard_init : Stands K "__init__" "Yard.__init__" s_Yard_init [(He.Dv.int 0 : He.Dv).v K] (He.fAd K ("Yard", some "__init__"))
  d_Yard_level_name : Stands K "level_name" "Yard.level_name" s_Yard_level_name [] (He.fAd K ("Yard", some "level_name"))
  d_Yard_level_of : Stands K "level_of" "Yard.level_of" s_Yard_level_of [] (He.fAd K ("Yard", some "level_of"))
  d_Yard_make_record : Stands K "make_record" "Yard.make_record" s_Yard_make_record [(He.Dv.adr (He.dflAt ("Yard", some "make_record") 0) : He.Dv).v K, (He.Dv.non : He.Dv).v K] (He.fAd K ("Yard", some "make_record"))
  d_Yard_getLogger : Stands K "getLogger" "Yard.getLogger" s_Yard_getLogger [(He.Dv.str "" : He.Dv).v K] (He.fAd K ("Yard", some "getLogger"))
  d_Yard_enrol : Stands K "enrol" "Yard.enrol" s_Yard_enrol [] (He.fAd K ("Yard", some "enrol"))
  d__law_draw : Stands K "_law_draw" "_law_draw" s__law_draw [] (He.fAd K ("_law_draw", none))
  d__law_pick : Stands K "_law_pick" "_law_pick" s__law_pick [] (He.fAd K ("_law_pick", none))
  d__law_same : Stands K "_law_same" "_law_same" s__law_same [] (He.fAd K ("_law_same", none))
  d__law_name : Stands K "_law_name" "_law_name" s__law_name [] (He.fAd K ("_law_name", none))
  d__law_odd_name : Stands K "_law_odd_name" "_law_odd_name" s__law_odd_name [] (He.fAd K ("_law_odd_name", none))
  d_law : Stands K "law" "law" s_law [] (He.fAd K ("law", none))
  t_FIRST_NAMES : RB.KD P w K (He.ga K "FIRST_NAMES") (kv_FIRST_NAMES.map fun q => (q.1, q.2.v K))
  t_FIRST_NUMBERS : RB.KD P w K (He.ga K "FIRST_NUMBERS") (kv_FIRST_NUMBERS.map fun q => (q.1, q.2.v K))
theorem Txt.of {P : Program} {w : World} {K : PySem.W.Frag} {h : Heap} {mg : Str → Option Value} (X : K.In h) (G : h.Ns mainGlobals mg) (c : RB.SaysB fa fx fn ts w K) : Txt P w K mg where
    g_LogRecord := He.glo_ok X G (c.fact 0 (f := .glo "LogRecord") (by rfl))
    g_Filter := He.glo_ok X G (c.fact 1 (f := .glo "Filter") (by rfl))
    g_Filterer := He.glo_ok X G (c.fact 2 (f := .glo "Filterer") (by rfl))
    g_Handler := He.glo_ok X G (c.fact 3 (f := .glo "Handler") (by rfl))
    g_StreamHandler := He.glo_ok X G (c.fact 4 (f := .glo "StreamHandler") (by rfl))
    g_NullHandler := He.glo_ok X G (c.fact 5 (f := .glo "NullHandler") (by rfl))
    g_Logger := He.glo_ok X G (c.fact 6 (f := .glo "Logger") (by rfl))
    g_Yard := He.glo_ok X G (c.fact 7 (f := .glo "Yard") (by rfl))
    g_copied_value := He.glo_ok X G (c.fact 8 (f := .glo "copied_value") (by rfl))
    g_is_below := He.glo_ok X G (c.fact 9 (f := .glo "is_below") (by rfl))
    g_let_by := He.glo_ok X G (c.fact 10 (f := .glo "let_by") (by rfl))
    g_is_integer := He.glo_ok X G (c.fact 11 (f := .glo "is_integer") (by rfl))
    g_is_part := He.glo_ok X G (c.fact 12 (f := .glo "is_part") (by rfl))
    g_are_parts := He.glo_ok X G (c.fact 13 (f := .glo "are_parts") (by rfl))
    g_parent_of := He.glo_ok X G (c.fact 14 (f := .glo "parent_of") (by rfl))
    g_place_loggers := He.glo_ok X G (c.fact 15 (f := .glo "place_loggers") (by rfl))
    g__law_draw := He.glo_ok X G (c.fact 16 (f := .glo "_law_draw") (by rfl))
    g__law_pick := He.glo_ok X G (c.fact 17 (f := .glo "_law_pick") (by rfl))
    g__law_same := He.glo_ok X G (c.fact 18 (f := .glo "_law_same") (by rfl))
    g__law_name := He.glo_ok X G (c.fact 19 (f := .glo "_law_name") (by rfl))
    g__law_odd_name := He.glo_ok X G (c.fact 20 (f := .glo "_law_odd_name") (by rfl))
    g_law := He.glo_ok X G (c.fact 21 (f := .glo "law") (by rfl))
    g_OWN_FIELDS := He.glo_ok X G (c.fact 22 (f := .glo "OWN_FIELDS") (by rfl))
    g_WARNING := He.int_ok X G (c.fact 23 (f := .int "WARNING" 30) (by rfl))
    g_NOTSET := He.int_ok X G (c.fact 24 (f := .int "NOTSET" 0) (by rfl))
    g_FIRST_NAMES := He.glo_ok X G (c.fact 25 (f := .glo "FIRST_NAMES") (by rfl))
    g_FIRST_NUMBERS := He.glo_ok X G (c.fact 26 (f := .glo "FIRST_NUMBERS") (by rfl))
    g_SIGNS := He.str_ok X G (c.fact 27 (f := .str "SIGNS" "abcdefghijklmnopqrstuvwxyzABCDEFGHIJKLMNOPQRSTUVWXYZ0123456789_") (by rfl))
    b_len := He.free_ok X G (c.fact 28 (f := .free "len") (by rfl))
    b_isinstance := He.free_ok X G (c.fact 29 (f := .free "isinstance") (by rfl))
    b_int := He.free_ok X G (c.fact 30 (f := .free "int") (by rfl))
    b_str := He.free_ok X G (c.fact 31 (f := .free "str") (by rfl))
    b_list := He.free_ok X G (c.fact 32 (f := .free "list") (by rfl))
    b_tuple := He.free_ok X G (c.fact 33 (f := .free "tuple") (by rfl))
    b_dict := He.free_ok X G (c.fact 34 (f := .free "dict") (by rfl))
    b_bool := He.free_ok X G (c.fact 35 (f := .free "bool") (by rfl))
    b_range := He.free_ok X G (c.fact 36 (f := .free "range") (by rfl))
    b_sorted := He.free_ok X G (c.fact 37 (f := .free "sorted") (by rfl))
    b_all := He.free_ok X G (c.fact 38 (f := .free "all") (by rfl))
    b_zip := He.free_ok X G (c.fact 39 (f := .free "zip") (by rfl))
    c_LogRecord := He.cls_ok (c.fact 40 (f := .cls "LogRecord") (by rfl))
    n_LogRecord_name := He.noat_ok (c.fact 41 (f := .noat "LogRecord" "name") (by rfl))
    n_LogRecord_levelno := He.noat_ok (c.fact 42 (f := .noat "LogRecord" "levelno") (by rfl))
    n_LogRecord_levelname := He.noat_ok (c.fact 43 (f := .noat "LogRecord" "levelname") (by rfl))
    n_LogRecord_msg := He.noat_ok (c.fact 44 (f := .noat "LogRecord" "msg") (by rfl))
    n_LogRecord_given := He.noat_ok (c.fact 45 (f := .noat "LogRecord" "given") (by rfl))
    n_LogRecord_created := He.noat_ok (c.fact 46 (f := .noat "LogRecord" "created") (by rfl))
    n_LogRecord_extra := He.noat_ok (c.fact 47 (f := .noat "LogRecord" "extra") (by rfl))
    c_Filter := He.cls_ok (c.fact 48 (f := .cls "Filter") (by rfl))
    n_Filter_name := He.noat_ok (c.fact 49 (f := .noat "Filter" "name") (by rfl))
    c_StreamHandler := He.cls_ok (c.fact 50 (f := .cls "StreamHandler") (by rfl))
    n_StreamHandler_filters := He.noat_ok (c.fact 51 (f := .noat "StreamHandler" "filters") (by rfl))
    n_StreamHandler_yard := He.noat_ok (c.fact 52 (f := .noat "StreamHandler" "yard") (by rfl))
    n_StreamHandler_level := He.noat_ok (c.fact 53 (f := .noat "StreamHandler" "level") (by rfl))
    n_StreamHandler_formatter := He.noat_ok (c.fact 54 (f := .noat "StreamHandler" "formatter") (by rfl))
    n_StreamHandler_name := He.noat_ok (c.fact 55 (f := .noat "StreamHandler" "name") (by rfl))
    n_StreamHandler_terminator := He.noat_ok (c.fact 56 (f := .noat "StreamHandler" "terminator") (by rfl))
    n_StreamHandler_closed := He.noat_ok (c.fact 57 (f := .noat "StreamHandler" "closed") (by rfl))
    n_StreamHandler_stream := He.noat_ok (c.fact 58 (f := .noat "StreamHandler" "stream") (by rfl))
    c_NullHandler := He.cls_ok (c.fact 59 (f := .cls "NullHandler") (by rfl))
    n_NullHandler_filters := He.noat_ok (c.fact 60 (f := .noat "NullHandler" "filters") (by rfl))
    n_NullHandler_yard := He.noat_ok (c.fact 61 (f := .noat "NullHandler" "yard") (by rfl))
    n_NullHandler_level := He.noat_ok (c.fact 62 (f := .noat "NullHandler" "level") (by rfl))
    n_NullHandler_formatter := He.noat_ok (c.fact 63 (f := .noat "NullHandler" "formatter") (by rfl))
    n_NullHandler_name := He.noat_ok (c.fact 64 (f := .noat "NullHandler" "name") (by rfl))
    n_NullHandler_terminator := He.noat_ok (c.fact 65 (f := .noat "NullHandler" "terminator") (by rfl))
    n_NullHandler_closed := He.noat_ok (c.fact 66 (f := .noat "NullHandler" "closed") (by rfl))
    c_Logger := He.cls_ok (c.fact 67 (f := .cls "Logger") (by rfl))
    n_Logger_filters := He.noat_ok (c.fact 68 (f := .noat "Logger" "filters") (by rfl))
    n_Logger_yard := He.noat_ok (c.fact 69 (f := .noat "Logger" "yard") (by rfl))
    n_Logger_name := He.noat_ok (c.fact 70 (f := .noat "Logger" "name") (by rfl))
    n_Logger_level := He.noat_ok (c.fact 71 (f := .noat "Logger" "level") (by rfl))
    n_Logger_propagate := He.noat_ok (c.fact 72 (f := .noat "Logger" "propagate") (by rfl))
    n_Logger_disabled := He.noat_ok (c.fact 73 (f := .noat "Logger" "disabled") (by rfl))
    n_Logger_handlers := He.noat_ok (c.fact 74 (f := .noat "Logger" "handlers") (by rfl))
    n_Logger_parent := He.noat_ok (c.fact 75 (f := .noat "Logger" "parent") (by rfl))
    c_Yard := He.cls_ok (c.fact 76 (f := .cls "Yard") (by rfl))
    n_Yard_clock := He.noat_ok (c.fact 77 (f := .noat "Yard" "clock") (by rfl))
    n_Yard_stream_texts := He.noat_ok (c.fact 78 (f := .noat "Yard" "stream_texts") (by rfl))
    n_Yard_file_rows := He.noat_ok (c.fact 79 (f := .noat "Yard" "file_rows") (by rfl))
    n_Yard_names_of := He.noat_ok (c.fact 80 (f := .noat "Yard" "names_of") (by rfl))
    n_Yard_numbers_of := He.noat_ok (c.fact 81 (f := .noat "Yard" "numbers_of") (by rfl))
    n_Yard_bar_level := He.noat_ok (c.fact 82 (f := .noat "Yard" "bar_level") (by rfl))
    n_Yard_logger_map := He.noat_ok (c.fact 83 (f := .noat "Yard" "logger_map") (by rfl))
    n_Yard_made := He.noat_ok (c.fact 84 (f := .noat "Yard" "made") (by rfl))
    n_Yard_handler_names := He.noat_ok (c.fact 85 (f := .noat "Yard" "handler_names") (by rfl))
    n_Yard_failure_rows := He.noat_ok (c.fact 86 (f := .noat "Yard" "failure_rows") (by rfl))
    n_Yard_root := He.noat_ok (c.fact 87 (f := .noat "Yard" "root") (by rfl))
    n_Yard_last_resort := He.noat_ok (c.fact 88 (f := .noat "Yard" "last_resort") (by rfl))
    m_Filter_passes := He.meth_ok (c.fact 89 (f := .meth "Filter" "passes") (by rfl))
    m_Logger_addFilter := He.meth_ok (c.fact 90 (f := .meth "Logger" "addFilter") (by rfl))
    m_Logger_removeFilter := He.meth_ok (c.fact 91 (f := .meth "Logger" "removeFilter") (by rfl))
    m_Logger_filtered := He.meth_ok (c.fact 92 (f := .meth "Logger" "filtered") (by rfl))
    m_NullHandler_addFilter := He.meth_ok (c.fact 93 (f := .meth "NullHandler" "addFilter") (by rfl))
    m_NullHandler_removeFilter := He.meth_ok (c.fact 94 (f := .meth "NullHandler" "removeFilter") (by rfl))
    m_NullHandler_filtered := He.meth_ok (c.fact 95 (f := .meth "NullHandler" "filtered") (by rfl))
    m_Yard_level_name := He.meth_ok (c.fact 96 (f := .meth "Yard" "level_name") (by rfl))
    m_Yard_level_of := He.meth_ok (c.fact 97 (f := .meth "Yard" "level_of") (by rfl))
    m_Yard_make_record := He.meth_ok (c.fact 98 (f := .meth "Yard" "make_record") (by rfl))
    m_Yard_getLogger := He.meth_ok (c.fact 99 (f := .meth "Yard" "getLogger") (by rfl))
    m_Yard_enrol := He.meth_ok (c.fact 100 (f := .meth "Yard" "enrol") (by rfl))
    k_LogRecord := He.mkr_ok (c.fact 101 (f := .mkr "LogRecord") (by rfl))
    k_Filter := He.mkr_ok (c.fact 102 (f := .mkr "Filter") (by rfl))
    k_StreamHandler := He.mkr_ok (c.fact 103 (f := .mkr "StreamHandler") (by rfl))
    k_NullHandler := He.mkr_ok (c.fact 104 (f := .mkr "NullHandler") (by rfl))
    k_Logger := He.mkr_ok (c.fact 105 (f := .mkr "Logger") (by rfl))
    k_Yard := He.mkr_ok (c.fact 106 (f := .mkr "Yard") (by rfl))
    p_Filter := RB.pl_ok (c.more 0 (f := .pl "Filter") (by rfl))
    p_LogRecord := RB.pl_ok (c.more 1 (f := .pl "LogRecord") (by rfl))
    p_Logger := RB.pl_ok (c.more 2 (f := .pl "Logger") (by rfl))
    sub_Filter_Filter := RB.sub_ok (c.more 3 (f := .sub "Filter" "Filter") (by rfl))
    sub_LogRecord_LogRecord := RB.sub_ok (c.more 4 (f := .sub "LogRecord" "LogRecord") (by rfl))
    cf_Filterer_init := RB.cf_ok (c.more 5 (f := .cf "Filterer" "__init__") (by rfl))
    cf_Handler_init := RB.cf_ok (c.more 6 (f := .cf "Handler" "__init__") (by rfl))
    ty_Filter := RB.ty_ok (c.more 7 (f := .ty "Filter") (by rfl))
    ty_LogRecord := RB.ty_ok (c.more 8 (f := .ty "LogRecord") (by rfl))
    kit_Filter_Filter := RB.kit_ok (c.more 9 (f := .kit "Filter" "Filter" true) (by rfl))
    dt_Yard_make_record_0 := RB.dtup_ok (c.more 10 (f := .dtup ("Yard", some "make_record") 0) (by rfl))
    d_copied_value := c.d.def_ 0 (d := dd_copied_value) (by rfl)
    d_LogRecord_init := c.d.def_ 1 (d := dd_LogRecord_init) (by rfl)
    d_is_below := c.d.def_ 2 (d := dd_is_below) (by rfl)
    d_let_by := c.d.def_ 3 (d := dd_let_by) (by rfl)
    d_Filter_init := c.d.def_ 4 (d := dd_Filter_init) (by rfl)
    d_Filter_passes := c.d.def_ 5 (d := dd_Filter_passes) (by rfl)
    d_Filterer_init := c.d.def_ 6 (d := dd_Filterer_init) (by rfl)
    d_Logger_addFilter := c.d.def_ 7 (d := dd_Logger_addFilter) (by rfl)
    d_Logger_removeFilter := c.d.def_ 8 (d := dd_Logger_removeFilter) (by rfl)
    d_Logger_filtered := c.d.def_ 9 (d := dd_Logger_filtered) (by rfl)
    d_NullHandler_addFilter := c.d.def_ 10 (d := dd_NullHandler_addFilter) (by rfl)
    d_NullHandler_removeFilter := c.d.def_ 11 (d := dd_NullHandler_removeFilter) (by rfl)
    d_NullHandler_filtered := c.d.def_ 12 (d := dd_NullHandler_filtered) (by rfl)
    d_Handler_init := c.d.def_ 13 (d := dd_Handler_init) (by rfl)
    d_StreamHandler_init := c.d.def_ 14 (d := dd_StreamHandler_init) (by rfl)
    d_NullHandler_init := c.d.def_ 15 (d := dd_NullHandler_init) (by rfl)
    d_is_integer := c.d.def_ 16 (d := dd_is_integer) (by rfl)
    d_is_part := c.d.def_ 17 (d := dd_is_part) (by rfl)
    d_are_parts := c.d.def_ 18 (d := dd_are_parts) (by rfl)
    d_parent_of := c.d.def_ 19 (d := dd_parent_of) (by rfl)
    d_place_loggers := c.d.def_ 20 (d := dd_place_loggers) (by rfl)
    d_Logger_init := c.d.def_ 21 (d := dd_Logger_init) (by rfl)
    d_Yard_init := c.d.def_ 22 (d := dd_Yard_init) (by rfl)
    d_Yard_level_name := c.d.def_ 23 (d := dd_Yard_level_name) (by rfl)
    d_Yard_level_of := c.d.def_ 24 (d := dd_Yard_level_of) (by rfl)
    d_Yard_make_record := c.d.def_ 25 (d := dd_Yard_make_record) (by rfl)
    d_Yard_getLogger := c.d.def_ 26 (d := dd_Yard_getLogger) (by rfl)
    d_Yard_enrol := c.d.def_ 27 (d := dd_Yard_enrol) (by rfl)
    d__law_draw := c.d.def_ 28 (d := dd__law_draw) (by rfl)
    d__law_pick := c.d.def_ 29 (d := dd__law_pick) (by rfl)
    d__law_same := c.d.def_ 30 (d := dd__law_same) (by rfl)
    d__law_name := c.d.def_ 31 (d := dd__law_name) (by rfl)
    d__law_odd_name := c.d.def_ 32 (d := dd__law_odd_name) (by rfl)
    d_law := c.d.def_ 33 (d := dd_law) (by rfl)
    t_FIRST_NAMES := c.tb 0 (t := ("FIRST_NAMES", kv_FIRST_NAMES)) (by rfl) P
    t_FIRST_NUMBERS := c.tb 1 (t := ("FIRST_NUMBERS", kv_FIRST_NUMBERS)) (by rfl) P
end K17

set_option Elab.async false
set_option linter.all false
set_option maxRecDepth 100000
set_option maxHeartbeats 0
namespace K17
open PySem PySem.Spec PyProof.Rows L2 RC
/-! ### the head -/
abbrev R : PySem.W.OpenRow := PySem.W.OpenLaw.row PySem.Challenge.rw_recordyard_k17_filters_by_names
abbrev hk : PySem.W.Hook := RB.hookB 4 fa fx fn ts
def ob (s : PySem.W.SharedT) : RB.AlB := RB.obsBG 4 fa fx fn ts (HandSHeadRun.getT s)
theorem ob_eq (s : PySem.W.SharedT) : ob s = hk.obs s.abs := RB.obsBG_eq (HandSHeadRun.getT_eq s)
theorem run_f (w : World) : HandSHeadRun.RunEq R (PySem.W.view R.prog [47]) hk ob 9000 names (w.withFollow "special-get-raises" false) := by
  intro os
  kernel_rfl
theorem run_t (w : World) : HandSHeadRun.RunEq R (PySem.W.view R.prog [47]) hk ob 9000 names (w.withFollow "special-get-raises" true) := by
  intro os
  kernel_rfl
theorem run (w : World) : HandSHeadRun.RunEq R (PySem.W.view R.prog [47]) hk ob 9000 names w := PySem.W.byRow2 "special-get-raises" (P := fun w => HandSHeadRun.RunEq R (PySem.W.view R.prog [47]) hk ob 9000 names w) run_f run_t w
end K17

set_option Elab.async false
set_option linter.all false
set_option maxRecDepth 100000
set_option maxHeartbeats 0
namespace K17
open PySem PySem.Spec PyProof.Rows L2 RC
section
variable {P : Program} {w : World} {K : PySem.W.Frag} {mg : Str → Option Value} {base : Heap}
theorem dp_ints {K : PySem.W.Frag} {H : Hp} : ∀ ns : List Int, DpAll K H (ns.map V.int) (ns.map PyData.int)
  | [] => .nil
  | n :: r => .cons (.int n) (dp_ints r)
theorem can_ints : ∀ ns : List Int, PyData.canLayAll0 (ns.map PyData.int) = true
  | [] => by simp [PyData.canLayAll0]
  | n :: r => by simp [PyData.canLayAll0, PyData.canLay0, can_ints r]
theorem dep_ints : ∀ ns : List Int, PyData.depthAll (ns.map PyData.int) = 0
  | [] => by simp [PyData.depthAll]
  | n :: r => by simp [PyData.depthAll, PyData.depth, dep_ints r]
theorem sh_ints (ns : List Int) : SeqAt.shaped (.list (ns.map PyData.int)) = true := by
  unfold SeqAt.shaped
  simp [PyData.canLay0, PyData.depth, can_ints, dep_ints]
theorem seq0 (v : Int) (r : List Int) : seqIndex? 0 ((v :: r).map V.int).length = some 0 := by
  unfold seqIndex?
  simp
def spDraw : Sp := fun vs H Q _ => ∃ (s l : Addr) (n : Nat) (many : Int), vs = [.ref s, .int many] ∧ Stm H s l n ∧ n ≤ 1000000 ∧ 1 ≤ many ∧ many < 1073741824 ∧
  ∀ (H' : Hp) (d : Int), Old s l H H' → Stm H' s l (n + 1) → 0 ≤ d → d < many → Q (.int d) H'
theorem old_upd {s l : Addr} {H H' : Hp} {a : Addr} {o : HO} (h : Old s l H H') (ha : a = s ∨ a = l ∨ H' a = none) : Old s l H (upd H' a o) := fun b u h1 h2 e => by
  have e2 := h b u h1 h2 e
  have hb : b ≠ a := by
    rintro rfl
    rcases ha with z | z | z
    · exact h1 z
    · exact h2 z
    · rw [z] at e2; cases e2
  rw [upd_ne hb]; exact e2
theorem stm_small {d c : Int} (h : 0 ≤ d) (h1 : d < 2147483647) (h2 : 0 ≤ c) (h3 : c ≤ 1000001) : (d + 104729 * c + 17).natAbs < 2 ^ 64 := by omega
theorem stm_small2 {m c : Int} (h : 0 ≤ m) (h1 : m < 2147483629) (h2 : 0 ≤ c) (h3 : c ≤ 1000001) : (m * 48271 + 40503 * c * c + 13).natAbs < 2 ^ 64 := by
  have q1 : 0 ≤ 40503 * c * c := Int.mul_nonneg (by omega) h2
  have q2 : 40503 * c * c ≤ 40503 * c * 1000001 := Int.mul_le_mul_of_nonneg_left h3 (by omega)
  omega
theorem ok_draw {f : Addr} (T : Txt P w K mg) (F : Stands K "_law_draw" "_law_draw" s__law_draw [] f) : Callable P w K mg base 1 f ["_law_s", "_law_many"] [] spDraw := by
  refine F.call0 sc__law_draw (fun vs H Q E h => ?_) (fun cdv A outer s H vs Q E hr h => ?_) (fun _ _ _ _ _ _ us hl => match us, hl with | [_, _], _ => rfl)
  · obtain ⟨s, l, n, m, rfl, _⟩ := h
    rfl
  obtain ⟨p, l, n, many, rfl, hS, hn, hm1, hm2, hQ⟩ := h
  refine ⟨_, (pss_cons (ps_while PassesOwn.never (PW.pt (pw_and (pt_cmpR op_eq (pe_ix ix_list (pv 0) pe_int (fun _ _ => rfl)) pe_int (nomark _)) (pw_and1 (pt_cmpR (op_neD hr.units) (pe_ix ix_list (pv 0) pe_int (fun _ _ => rfl)) (pe_lst pa_nil) (nomark _))))) (pss_cons (ps_asg (pe_bm PySem.F.plainAttrs_list PySem.F.slot_list_pop PySem.F.type_list_pop mt_popAt (pe_ix ix_list (pv 0) pe_int (fun _ _ => rfl)) (pa_cons pe_int pa_nil)) (pg_sub (pv 0) pe_int set_list))
      (pss_one (ps_if (pt_cmpR op_lt (pe_ix ix_list (pv 0) pe_int (fun _ _ => rfl)) (pe_op op_pow pe_int pe_int) (nomark _)) (pss_cons (ps_asg (pe_op op_mod (pe_callTy call_int1 (by rfl) T.b_int (by decide +kernel) (pa_cons (pe_op op_add (pe_op op_add (pe_op op_mul (pe_ix ix_list (pv 0) pe_int (fun _ _ => rfl)) pe_int) (pe_ix ix_list (pv 0) pe_int (fun _ _ => rfl))) pe_int) pa_nil)) pe_int) (pg_sub (pv 0) pe_int set_list))
      (pss_one (ps_asg pe_int (pg_sub (pv 0) pe_int set_list)))) pss_nil))))
      (pss_cons (ps_if (pt_cmpR op_gt (pe_ix ix_list (pv 0) pe_int (fun _ _ => rfl)) pe_int (nomark _)) (pss_cons (ps_set (i := 2) sc__law_draw.nd rfl (by first | exact Or.inl rfl | exact Or.inr rfl) (pe_op op_mod (pe_callTy call_int1 (by rfl) T.b_int (by decide +kernel) (pa_cons (pe_ix ix_list (pv 0) pe_int (fun _ _ => rfl)) pa_nil)) (pv 1)))
      (pss_cons (ps_asg (pe_op op_fdiv (pe_ix ix_list (pv 0) pe_int (fun _ _ => rfl)) (pv 1)) (pg_sub (pv 0) pe_int set_list))
      (pss_one (ps_ret (pv 2))))) pss_nil)
      (pss_cons (ps_asg (pe_op op_add (pe_ix ix_list (pv 0) pe_int (fun _ _ => rfl)) pe_int) (pg_sub (pv 0) pe_int set_list))
      (pss_cons (ps_set (i := 3) sc__law_draw.nd rfl (by first | exact Or.inl rfl | exact Or.inr rfl) (pe_op op_mod (pe_callTy call_int1 (by rfl) T.b_int (by decide +kernel) (pa_cons (pe_op op_pow (pe_op op_add (pe_op op_add (pe_ix ix_list (pv 0) pe_int (fun _ _ => rfl)) (pe_op op_mul pe_int (pe_ix ix_list (pv 0) pe_int (fun _ _ => rfl)))) pe_int) pe_int) pa_nil)) pe_int))
      (pss_cons (ps_set (i := 4) sc__law_draw.nd rfl (by first | exact Or.inl rfl | exact Or.inr rfl) (pe_op op_mod (pe_callTy call_int1 (by rfl) T.b_int (by decide +kernel) (pa_cons (pe_op op_pow (pe_op op_add (pe_op op_add (pe_op op_mul (pv 3) pe_int) (pe_op op_mul (pe_op op_mul pe_int (pe_ix ix_list (pv 0) pe_int (fun _ _ => rfl))) (pe_ix ix_list (pv 0) pe_int (fun _ _ => rfl)))) pe_int) pe_int) pa_nil)) pe_int))
      (pss_one (ps_ret (pe_op op_mod (pe_callTy call_int1 (by rfl) T.b_int (by decide +kernel) (pa_cons (pv 4) pa_nil)) (pv 1))))))))), ?_⟩
  obtain ⟨hne, ns, x, c, d, h1, h2, h3, h4, h5, h6, h7, h8⟩ := hS
  refine ⟨fun m σ H' => σ = [some (.ref p), some (.int many), none, none, none] ∧ Old p l H H' ∧ ∃ (ns : List Int) (x c d : Int), m = ns.length ∧ H' p = some (.lst [.ref l, .int x, .int c, .int d]) ∧ H' l = some (.lst (ns.map V.int)) ∧ ns.length ≤ 63 ∧ 0 ≤ x ∧ 0 ≤ c ∧ c ≤ n ∧ 0 ≤ d ∧ d < 2147483647,
    ⟨_, rfl, Old.refl _, ns, x, c, d, rfl, h1, h2, h3, h4, h5, h6, h7, h8⟩, ?_⟩
  clear h1 h2 h3 h4 h5 h6 h7 h8 ns x c d
  rintro m σ H1 ⟨rfl, hO, ns, x, c, d, rfl, h1, h2, h3, h4, h5, h6, h7, h8⟩
  refine ⟨_, rfl, p, _, _, _, rfl, rfl, SqL.of h1, rfl, rfl, _, rfl, ?_⟩
  by_cases hx : x = 0
  · subst hx
    refine iteT' (decide_eq_true rfl) ?_
    refine ⟨_, rfl, p, _, _, _, rfl, rfl, SqL.of h1, rfl, (by show 0 ≤ sizeLine; decide), fun q hq => ?_⟩
    have g1 : upd H1 q (.lst []) p = some (.lst [.ref l, .int 0, .int c, .int d]) := by rw [upd_ne (ne_of_none h1 hq)]; exact h1
    have g2 : upd H1 q (.lst []) l = some (.lst (ns.map V.int)) := by rw [upd_ne (ne_of_none h2 hq)]; exact h2
    have gO : Old p l H (upd H1 q (.lst [])) := old_upd hO (.inr (.inr hq))
    refine ⟨_, _, Dp.lst (SqL.of g2) (dp_ints ns), Dp.lst (SqL.of upd_same) .nil, sh_ints ns, by decide +kernel, _, rfl, ?_⟩
    generalize upd H1 q (.lst []) = H2 at g1 g2 gO
    cases ns with
    | cons v r =>
      refine iteT' (by rfl) ?_
      refine ⟨fun σ' H' => ∃ m', m' < (v :: r).length ∧ (σ' = [some (.ref p), some (.int many), none, none, none] ∧ Old p l H H' ∧ ∃ (ns : List Int) (x c d : Int), m' = ns.length ∧ H' p = some (.lst [.ref l, .int x, .int c, .int d]) ∧ H' l = some (.lst (ns.map V.int)) ∧ ns.length ≤ 63 ∧ 0 ≤ x ∧ 0 ≤ c ∧ c ≤ n ∧ 0 ≤ d ∧ d < 2147483647), fun σ' H' z => z, ?_⟩
      -- s[1] = s[0].pop(0)
      refine ⟨_, rfl, p, _, _, _, rfl, rfl, SqL.of g1, rfl, .inl ⟨rfl, _, SqL.of g2⟩, l, (v :: r).map V.int, 0, 0, .int v, rfl, rfl, g2, by decide, by decide, seq0 _ _, rfl, ?_⟩
      generalize e3 : upd H2 l _ = H3
      have k1 : H3 p = some (.lst [.ref l, .int 0, .int c, .int d]) := by rw [← e3, upd_ne hne]; exact g1
      have kO : Old p l H H3 := by rw [← e3]; exact old_upd gO (.inr (.inl rfl))
      have k2 : H3 l = some (.lst (r.map V.int)) := by rw [← e3]; exact upd_same
      clear e3
      refine ⟨_, rfl, p, _, 1, 1, rfl, rfl, k1, rfl, ?_⟩
      generalize e4 : upd H3 p _ = H4
      have j1 : H4 p = some (.lst [.ref l, .int v, .int c, .int d]) := by rw [← e4]; exact upd_same
      have j2 : H4 l = some (.lst (r.map V.int)) := by rw [← e4, upd_ne (Ne.symm hne)]; exact k2
      have jO : Old p l H H4 := by rw [← e4]; exact old_upd kO (.inl rfl)
      clear e4
      have hl : r.length ≤ 63 := Nat.le_of_succ_le h3
      refine ⟨_, rfl, p, _, _, _, rfl, rfl, SqL.of j1, rfl, _, _, rfl, rfl, ⟨by decide, by decide, by decide⟩, _, _, rfl, rfl, _, rfl, ?_⟩
      refine ite2 (fun hv => ?_) (fun hv => ?_)
      · -- s[3] = int(..) % 2147483647
        refine ⟨_, rfl, p, _, _, _, rfl, rfl, SqL.of j1, rfl, _, _, rfl, rfl, .inr ⟨by decide, by decide⟩, _, rfl, p, _, _, _, rfl, rfl, SqL.of j1, rfl, _, _, rfl, rfl, _, _, rfl, rfl, .inl ⟨_, rfl, _, _, rfl, rfl, (by show (0 : Int) < 2147483647; decide), _, rfl, p, _, 3, 3, rfl, rfl, j1, rfl, ?_⟩⟩
        have m1 := Int.emod_nonneg (d * 31 + v + 7) (show (2147483647 : Int) ≠ 0 by decide)
        have m2 := Int.emod_lt_of_pos (d * 31 + v + 7) (show (0 : Int) < 2147483647 by decide)
        refine ⟨_, rfl, p, _, 1, 1, rfl, rfl, upd_same, rfl, r.length, Nat.lt_succ_self _, rfl, old_upd (old_upd jO (.inl rfl)) (.inl rfl), r, 0, c, (d * 31 + v + 7) % 2147483647, rfl, upd_same, ?_, hl, Int.le_refl 0, h5, h6, m1, m2⟩
        rw [upd_ne (Ne.symm hne), upd_ne (Ne.symm hne)]; exact j2
      · have hv : 10 ^ 18 ≤ v := by
          have z : ¬ v < 10 ^ (18 : Int).toNat := fun z => hv (decide_eq_true z)
          have e : (18 : Int).toNat = 18 := rfl
          rw [e] at z; omega
        exact ⟨r.length, Nat.lt_succ_self _, rfl, jO, r, v, c, d, rfl, j1, j2, hl, by omega, h5, h6, h7, h8⟩
    | nil =>
      refine iteF' (by rfl) ?_
      refine ⟨_, rfl, p, _, _, _, rfl, rfl, SqL.of g1, rfl, _, _, rfl, rfl, _, rfl, ?_⟩
      refine iteF' (by rfl) ?_
      -- s[2] = s[2] + 1
      refine ⟨_, rfl, p, _, _, _, rfl, rfl, SqL.of g1, rfl, _, _, rfl, rfl, _, rfl, p, _, 2, 2, rfl, rfl, g1, rfl, ?_⟩
      generalize e3 : upd H2 p _ = H3
      have a1 : H3 p = some (.lst [.ref l, .int 0, .int (c + 1), .int d]) := by rw [← e3]; exact upd_same
      have a2 : H3 l = some (.lst (([] : List Int).map V.int)) := by rw [← e3, upd_ne (Ne.symm hne)]; exact g2
      have aO : Old p l H H3 := by rw [← e3]; exact old_upd gO (.inl rfl)
      have hc : c + 1 ≤ 1000001 := by omega
      clear e3
      refine ⟨_, rfl, p, _, _, _, rfl, rfl, SqL.of a1, rfl, _, rfl, p, _, _, _, rfl, rfl, SqL.of a1, rfl, _, _, rfl, rfl, .inl ⟨by decide, by decide⟩, _, _, rfl, rfl, _, _, rfl, rfl, _, _, rfl, rfl, ⟨by decide, by decide, stm_small h7 h8 (by omega) hc⟩, .inl ⟨_, rfl, _, _, rfl, rfl, (by show (0 : Int) < 2147483629; decide), ?_⟩⟩
      have m1 := Int.emod_nonneg ((d + 104729 * (c + 1) + 17) ^ (5 : Int).toNat) (show (2147483629 : Int) ≠ 0 by decide)
      have m2 := Int.emod_lt_of_pos ((d + 104729 * (c + 1) + 17) ^ (5 : Int).toNat) (show (0 : Int) < 2147483629 by decide)
      refine ⟨_, rfl, _, _, rfl, rfl, .inr ⟨by decide, by decide⟩, _, rfl, p, _, _, _, rfl, rfl, SqL.of a1, rfl, _, _, rfl, rfl, .inl ⟨by decide, by decide⟩, _, rfl, p, _, _, _, rfl, rfl, SqL.of a1, rfl, _, _, rfl, rfl, .inr ⟨by omega, by omega⟩, _, _, rfl, rfl, _, _, rfl, rfl, _, _, rfl, rfl, ⟨by decide, by decide, stm_small2 m1 m2 (by omega) hc⟩, .inl ⟨_, rfl, _, _, rfl, rfl, (by show (0 : Int) < 1000000007; decide), ?_⟩⟩
      refine ⟨_, rfl, .inl ⟨_, rfl, _, rfl, _, _, rfl, rfl, (by show (0 : Int) < many; omega), ?_⟩⟩
      exact hQ _ _ aO ⟨hne, [], 0, c + 1, d, a1, a2, Nat.zero_le _, Int.le_refl 0, by omega, by omega, h7, h8⟩ (Int.emod_nonneg _ (by omega)) (Int.emod_lt_of_pos _ (by omega))
  · refine iteF' (decide_eq_false fun z => hx (V.int.inj z)) ?_
    have hx1 : 0 < x := by omega
    refine ⟨_, rfl, p, _, _, _, rfl, rfl, SqL.of h1, rfl, _, _, rfl, rfl, _, rfl, ?_⟩
    refine iteT' (decide_eq_true hx1) ?_
    refine ⟨_, rfl, p, _, _, _, rfl, rfl, SqL.of h1, rfl, .inl ⟨_, rfl, _, rfl, _, _, rfl, rfl, (by show (0 : Int) < many; omega), ?_⟩⟩
    refine ⟨_, rfl, p, _, _, _, rfl, rfl, SqL.of h1, rfl, _, rfl, _, _, rfl, rfl, ⟨by omega, by omega⟩, _, rfl, p, _, 1, 1, rfl, rfl, h1, rfl, _, rfl, ?_⟩
    refine hQ _ _ (old_upd hO (.inl rfl)) ⟨hne, ns, x / many, c, d, upd_same, by rw [upd_ne (Ne.symm hne)]; exact h2, h3, Int.ediv_nonneg h4 (by omega), h5, by omega, h7, h8⟩ (Int.emod_nonneg _ (by omega)) (Int.emod_lt_of_pos _ (by omega))
end
end K17

set_option Elab.async false
set_option linter.all false
set_option maxRecDepth 100000
set_option maxHeartbeats 0
namespace K17
open PySem PySem.Spec PyProof.Rows L2 RC
section
variable {P : Program} {w : World} {K : PySem.W.Frag} {mg : Str → Option Value} {base : Heap}
/-! ### filters -/
abbrev CF (K : PySem.W.Frag) : Addr := He.ga K "Filter"
abbrev CR (K : PySem.W.Frag) : Addr := He.ga K "LogRecord"
/-- a Filter of the name nm stands at a -/
def FilterAt (K : PySem.W.Frag) (H : Hp) (a : Addr) (nm : Str) : Prop := (∃ dx, H a = some (.ins (CF K) dx [("name", .str nm)])) ∧ nm.length ≤ 2000
/-- a record of the name rn stands at r -/
def RecName (K : PySem.W.Frag) (H : Hp) (r : Addr) (rn : Str) : Prop := ∃ dx fs, H r = some (.ins (CR K) dx fs) ∧ fs.lookup ("name" : Str) = some (.str rn)
def belowB (rn nm : Str) : Bool := decide (rn = nm) || Txt.startswith rn (nm ++ ".")
def passB (rn nm : Str) : Bool := decide (nm = "") || belowB rn nm
theorem len_dot (x : Str) : (x ++ ("." : Str)).length = x.length + 1 := by
  rw [TL.len_tl, TL.tl_append, List.length_append, ← TL.len_tl]; rfl
theorem bl_or (a b : Bool) : (if a = true then V.bl true else V.bl b) = V.bl (a || b) := by cases a <;> rfl
def spFilterInit : Sp := fun vs H Q _ => ∃ (C p dx : Addr) (nm : V), vs = [.ref p, nm] ∧ H p = some (.ins C dx []) ∧ Cls K C ∧ NoAttr K C "name" ∧ Q .non (upd H p (.ins C dx [("name", nm)]))
theorem ok_filter_init {f : Addr} {dvs : List V} (T : Txt P w K mg) (F : Stands K "__init__" "Filter.__init__" s_Filter_init [.str ""] f) : Callable P w K mg base 1 f ["self", "name"] [] (spFilterInit (K := K)) ∧ Callable P w K mg base 1 f ["self", "name"] [.str ""] (spFilterInit (K := K)) := by
  have body : ∀ (cdv : Value) (A : Around) (outer : List Env) (s : Shared) (H : Hp) (vs : List V) (Q : VK) (E : XK), Room 0 (A.deeper (envOfC "Filter.__init__" (defScope s_Filter_init) s.heap.objs.size f cdv)) → spFilterInit (K := K) vs H Q E →
      ∃ t, PSs (cxOf CX0 P w K mg base nm_Filter_init "Filter.__init__" (defScope s_Filter_init) f cdv A outer s H E).nox (defBody s_Filter_init) t ∧ t { nx := fun _ H' => Q .non H', rt := Q } (start nm_Filter_init vs) H := fun cdv A outer s H vs Q E hr h => by
    obtain ⟨C, p, dx, nm, rfl, hp, c, n, hQ⟩ := h
    refine ⟨_, (pss_one (ps_fld (pv 0) (pv 1) rfl)), ?_⟩
    exact ⟨_, rfl, _, rfl, p, C, dx, [], rfl, hp, c, n, (by show 0 < 1000; decide), hQ⟩
  have len : ∀ vs H Q E, spFilterInit (K := K) vs H Q E → vs.length = 2 := fun vs H Q E h => by
    obtain ⟨C, p, dx, nm, rfl, _⟩ := h; rfl
  exact ⟨F.call sc_Filter_init 2 1 len body (fun z => nomatch z) fun _ => ⟨rfl, fun _ _ _ _ _ _ _ us its hl hi => match us, hl, its, hi with | [_, _], _, [_], _ => ⟨_, rfl, rfl⟩⟩,
    F.call sc_Filter_init 1 0 len body (fun z => nomatch z) fun _ => ⟨rfl, fun _ _ _ _ _ _ _ us its hl hi => match us, hl, its, hi with | [_], _, [_], _ => ⟨_, rfl, rfl⟩⟩⟩
def spBelow : Sp := fun vs H Q _ => ∃ (a b : Str), vs = [.str a, .str b] ∧ b.length ≤ 2000 ∧ Q (.bl (belowB a b)) H
theorem ok_below {f : Addr} (T : Txt P w K mg) (F : Stands K "is_below" "is_below" s_is_below [] f) : Callable P w K mg base 1 f ["name", "above"] [] spBelow := by
  refine F.call0 sc_is_below (fun vs H Q E h => ?_) (fun cdv A outer s H vs Q E hr h => ?_) (fun _ _ _ _ _ _ us hl => match us, hl with | [_, _], _ => rfl)
  · obtain ⟨a, b, rfl, _⟩ := h; rfl
  obtain ⟨a, b, rfl, hb, hQ⟩ := h
  refine ⟨_, (pss_one (ps_ret (pe_or (pe_cmpR op_eq (pv 0) (pv 1) (nomark _)) (pe_one (pe_m1 PySem.F.slot_str_startswith PySem.F.type_str_startswith mt_startswith (pv 0) (pe_op op_add_str (pv 1) pe_str)))))), ?_⟩
  refine ⟨_, rfl, _, rfl, rfl, _, rfl, ?_⟩
  unfold belowB at hQ
  by_cases e : a = b
  · have e1 : decide (V.str a = V.str b) = true := decide_eq_true (congrArg V.str e)
    rw [decide_eq_true e, Bool.true_or] at hQ
    exact iteT' e1 hQ
  · have e1 : decide (V.str a = V.str b) = false := decide_eq_false fun z => e (V.str.inj z)
    rw [decide_eq_false e, Bool.false_or] at hQ
    refine iteF' e1 ?_
    exact ⟨_, rfl, ⟨_, rfl⟩, _, rfl, _, _, rfl, rfl, (by rw [sizeLine_eq]; show b.length + 1 ≤ _; omega), _, _, rfl, rfl, hQ⟩
def spPasses (K : PySem.W.Frag) : Sp := fun vs H Q _ => ∃ (f r : Addr) (nm rn : Str), vs = [.ref f, .ref r] ∧ FilterAt K H f nm ∧ RecName K H r rn ∧ Q (.bl (passB rn nm)) H
theorem ok_passes {f fb : Addr} (T : Txt P w K mg) (F : Stands K "passes" "Filter.passes" s_Filter_passes [] f) (c_is_below : Callable P w K mg base 1 (He.ga K "is_below") ["name", "above"] [] spBelow) : Callable P w K mg base 2 f ["self", "record"] [] (spPasses K) := by
  refine F.call0 sc_Filter_passes (fun vs H Q E h => ?_) (fun cdv A outer s H vs Q E hr h => ?_) (fun _ _ _ _ _ _ us hl => match us, hl with | [_, _], _ => rfl)
  · obtain ⟨f, r, nm, rn, rfl, _⟩ := h; rfl
  obtain ⟨f, r, nm, rn, rfl, ⟨⟨dx, hf⟩, hl⟩, ⟨dr, fs, hr1, hr2⟩, hQ⟩ := h
  refine ⟨_, (pss_one (ps_ret (pe_or (pe_cmpR op_eq (pe_fld (pv 0) rfl) pe_str (nomark _)) (pe_one (pe_fn T.g_is_below c_is_below (hr.mono (by decide)) (by rfl) (pa_cons (pe_fld (pv 1) rfl) (pa_cons (pe_fld (pv 0) rfl) pa_nil))))))), ?_⟩
  refine ⟨_, rfl, f, _, dx, _, _, rfl, hf, T.c_Filter, T.n_Filter_name, rfl, rfl, _, rfl, ?_⟩
  unfold passB at hQ
  by_cases e : nm = ""
  · rw [decide_eq_true e, Bool.true_or] at hQ
    exact iteT' (decide_eq_true (congrArg V.str e)) hQ
  · rw [decide_eq_false e, Bool.false_or] at hQ
    refine iteF' (decide_eq_false fun z => e (V.str.inj z)) ?_
    exact ⟨_, rfl, r, _, dr, _, _, rfl, hr1, T.c_LogRecord, T.n_LogRecord_name, hr2, _, rfl, f, _, dx, _, _, rfl, hf, T.c_Filter, T.n_Filter_name, rfl, _, _, rfl, hl, hQ⟩
def spLetBy (K : PySem.W.Frag) : Sp := fun vs H Q _ => ∃ (f r : Addr) (nm rn : Str), vs = [.ref f, .ref r] ∧ FilterAt K H f nm ∧ RecName K H r rn ∧ Q (if passB rn nm = true then .ref r else .non) H
theorem ok_let_by {f : Addr} (T : Txt P w K mg) (F : Stands K "let_by" "let_by" s_let_by [] f) (c_Filter_passes : Callable P w K mg base 2 (He.ma K (He.ga K "Filter") "passes") ["self", "record"] [] (spPasses K)) : Callable P w K mg base 3 f ["one", "record"] [] (spLetBy K) := by
  refine F.call0 sc_let_by (fun vs H Q E h => ?_) (fun cdv A outer s H vs Q E hr h => ?_) (fun _ _ _ _ _ _ us hl => match us, hl with | [_, _], _ => rfl)
  · obtain ⟨f, r, nm, rn, rfl, _⟩ := h; rfl
  obtain ⟨f, r, nm, rn, rfl, hF, hR, hQ⟩ := h
  obtain ⟨⟨dx, hf⟩, hl⟩ := id hF
  refine ⟨_, (pss_cons (ps_if (pt_val (pe_callB call_isi (by rfl) T.b_isinstance (by decide +kernel) (pa_cons (pv 0) (pa_cons (pe_glob (v := .ref _) (by rfl) T.g_Filter rfl) pa_nil)))) (pss_one (ps_ret (pe_ifExp (pt_val (pe_mt T.c_Filter T.m_Filter_passes c_Filter_passes (hr.mono (by decide)) (pv 0) (pa_cons (pv 1) pa_nil))) (pv 1) pe_non))) pss_nil)
      (pss_cons ps_never
      (pss_cons (ps_if (pt_val (pe_callB call_isi (by rfl) T.b_isinstance (by decide +kernel) (pa_cons (pv 2) (pa_cons (pe_glob (v := .ref _) (by rfl) T.g_LogRecord rfl) pa_nil)))) (pss_one (ps_ret (pv 2))) pss_nil)
      (pss_one (ps_ret (pe_ifExp (pt_val (pv 2)) (pv 1) pe_non)))))), ?_⟩
  refine ⟨_, rfl, _, _, _, _, _, rfl, .own _, T.ty_Filter.tyx T.c_Filter hf, T.kit_Filter_Filter, _, rfl, ?_⟩
  refine iteT ?_
  refine ⟨_, rfl, f, dx, _, rfl, hf, rfl, _, rfl, f, r, nm, rn, rfl, hF, hR, _, rfl, ?_⟩
  cases e : passB rn nm with
  | true => rw [e] at hQ; exact iteT ⟨_, rfl, hQ⟩
  | false => rw [e] at hQ; exact iteF hQ
end
end K17

set_option Elab.async false
set_option linter.all false
set_option maxRecDepth 100000
set_option maxHeartbeats 0
namespace K17
open PySem PySem.Spec PyProof.Rows L2 RC
section
variable {P : Program} {w : World} {K : PySem.W.Frag} {mg : Str → Option Value} {base : Heap}
def spFiltererInit (K : PySem.W.Frag) : Sp := fun vs H Q _ => ∃ (C p dx : Addr) (fs : List (Str × V)), vs = [.ref p] ∧ H p = some (.ins C dx fs) ∧ Cls K C ∧ NoAttr K C "filters" ∧ fs.length < 100 ∧ ∀ l, H l = none → Q .non (upd (upd H l (.lst [])) p (.ins C dx (putF "filters" (.ref l) fs)))
theorem ok_filterer_init {f : Addr} (T : Txt P w K mg) (F : Stands K "__init__" "Filterer.__init__" s_Filterer_init [] f) : Callable P w K mg base 1 f ["self"] [] (spFiltererInit K) := by
  refine F.call0 sc_Filterer_init (fun vs H Q E h => ?_) (fun cdv A outer s H vs Q E hr h => ?_) (fun _ _ _ _ _ _ us hl => match us, hl with | [_], _ => rfl)
  · obtain ⟨C, p, dx, fs, rfl, _⟩ := h; rfl
  obtain ⟨C, p, dx, fs, rfl, hp, c, n, hl, hQ⟩ := h
  refine ⟨_, (pss_one (ps_fld (pv 0) (pe_lst pa_nil) rfl)), ?_⟩
  refine ⟨(by show 0 ≤ sizeLine; decide), fun l hl' => ?_⟩
  exact ⟨_, rfl, p, C, dx, fs, rfl, (by rw [upd_ne (ne_of_none hp hl')]; exact hp), c, n, (by omega), hQ l hl'⟩
/-- what has filters: an object at p of the class C, its filters' list at l -/
structure HasF (K : PySem.W.Frag) (H : Hp) (p C dx l : Addr) (fs : List (Str × V)) (as : List Addr) : Prop where
  ob : H p = some (.ins C dx fs)
  cl : Cls K C
  no : NoAttr K C "filters"
  lk : fs.lookup ("filters" : Str) = some (.ref l)
  ls : H l = some (.lst (as.map V.ref))
  ln : as.length ≤ 100
  fl : fs.length < 100
def spFiltered (K : PySem.W.Frag) : Sp := fun vs H Q _ => ∃ (p C dx l r : Addr) (fs : List (Str × V)) (as : List Addr) (nm : Addr → Str) (rn : Str), vs = [.ref p, .ref r] ∧ HasF K H p C dx l fs as ∧ (∀ a ∈ as, FilterAt K H a (nm a)) ∧ RecName K H r rn ∧ Q (if as.all (fun a => passB rn (nm a)) = true then .ref r else .non) H
theorem take_all {α : Type} (p : α → Bool) (as : List α) (i : Nat) (x : α) (h : as[i]? = some x) : (as.take (i + 1)).all p = ((as.take i).all p && p x) := by
  rw [List.take_add_one, h, List.all_append]
  simp
theorem ok_filtered {f : Addr} (T : Txt P w K mg) (F : Stands K "filtered" "Filterer.filtered" s_Filterer_filtered [] f) (c_let_by : Callable P w K mg base 3 (He.ga K "let_by") ["one", "record"] [] (spLetBy K)) : Callable P w K mg base 4 f ["self", "record"] [] (spFiltered K) := by
  refine F.call0 sc_Filterer_filtered (fun vs H Q E h => ?_) (fun cdv A outer s H vs Q E hr h => ?_) (fun _ _ _ _ _ _ us hl => match us, hl with | [_, _], _ => rfl)
  · obtain ⟨p, C, dx, l, r, fs, as, nm, rn, rfl, _⟩ := h; rfl
  obtain ⟨p, C, dx, l, r, fs, as, nm, rn, rfl, hF, hA, hR, hQ⟩ := h
  refine ⟨_, (pss_cons (ps_set (i := 2) sc_Filterer_filtered.nd rfl (by first | exact Or.inl rfl | exact Or.inr rfl) (pv 1))
      (pss_cons (ps_for PassesOwn.never rfl (pi_list (pe_fld (pv 0) rfl)) (pg_name (i := 3) sc_Filterer_filtered.nd rfl (by first | exact Or.inl rfl | exact Or.inr rfl)) (pss_cons (ps_set (i := 2) sc_Filterer_filtered.nd rfl (by first | exact Or.inl rfl | exact Or.inr rfl) (pe_fn T.g_let_by c_let_by (hr.mono (by decide)) (by rfl) (pa_cons (pv 3) (pa_cons (pv 2) pa_nil))))
      (pss_one (ps_if (pt_cmpR op_isN (pv 2) pe_non (nomark _)) (pss_one (ps_ret pe_non)) pss_nil))))
      (pss_one (ps_ret (pv 2))))), ?_⟩
  refine ⟨_, rfl, ?_⟩
  refine ⟨_, rfl, p, C, dx, fs, _, rfl, hF.ob, hF.cl, hF.no, hF.lk, l, rfl, ⟨_, SqL.of hF.ls⟩, ?_⟩
  refine for_list (xs := as.map V.ref) (fun i σ H' => H' = H ∧ (as.take i).all (fun a => passB rn (nm a)) = true ∧ ∃ o, σ = [some (.ref p), some (.ref r), some (.ref r), o]) ⟨rfl, rfl, _, rfl⟩ (fun i σ H' _ h => by rw [h.1]; exact SqL.of hF.ls) (fun i x σ H' hx h => ?_) (fun σ H' h => ?_)
  · obtain ⟨rfl, ha, o, rfl⟩ := h
    rw [List.getElem?_map] at hx
    cases e : as[i]? with
    | none => rw [e] at hx; cases hx
    | some a =>
      rw [e] at hx
      cases hx
      have hm : a ∈ as := List.mem_of_getElem? e
      refine ⟨_, rfl, _, rfl, a, r, nm a, rn, rfl, hA a hm, hR, ?_⟩
      have ht := take_all (fun a => passB rn (nm a)) as i a e
      cases hb : passB rn (nm a) with
      | true =>
        refine ⟨_, rfl, rfl, _, rfl, iteF' (by rfl) ⟨rfl, ?_, _, rfl⟩⟩
        rw [ht, ha, hb]; rfl
      | false =>
        refine ⟨_, rfl, rfl, _, rfl, iteT' (by rfl) ?_⟩
        have hn : as.all (fun a => passB rn (nm a)) = false := by
          rw [List.all_eq_false]
          exact ⟨a, hm, by rw [hb]; decide⟩
        rw [hn] at hQ
        exact hQ
  · obtain ⟨rfl, ha, o, rfl⟩ := h
    rw [List.length_map, List.take_length] at ha
    rw [ha] at hQ
    exact ⟨_, rfl, hQ⟩
/-- a Filter stands at a -/
def IsF (K : PySem.W.Frag) (H : Hp) (a : Addr) : Prop := ∃ dx fs, H a = some (.ins (CF K) dx fs)
theorem IsF.insp {T : Txt P w K mg} {H : Hp} {a : Addr} (h : IsF K H a) : RA.InsP K H a (CF K) := ⟨h, T.p_Filter⟩
def spAddFilter (K : PySem.W.Frag) : Sp := fun vs H Q _ => ∃ (p C dx l a : Addr) (fs : List (Str × V)) (as : List Addr), vs = [.ref p, .ref a] ∧ HasF K H p C dx l fs as ∧ (∀ b ∈ a :: as, IsF K H b) ∧ Q .non (if a ∈ as then H else upd H l (.lst ((as ++ [a]).map V.ref)))
theorem ok_addFilter {f : Addr} (T : Txt P w K mg) (F : Stands K "addFilter" "Filterer.addFilter" s_Filterer_addFilter [] f) : Callable P w K mg base 1 f ["self", "one"] [] (spAddFilter K) := by
  refine F.call0 sc_Filterer_addFilter (fun vs H Q E h => ?_) (fun cdv A outer s H vs Q E hr h => ?_) (fun _ _ _ _ _ _ us hl => match us, hl with | [_, _], _ => rfl)
  · obtain ⟨p, C, dx, l, r, fs, as, rfl, _⟩ := h; rfl
  obtain ⟨p, C, dx, l, a, fs, as, rfl, hF, hA, hQ⟩ := h
  refine ⟨_, (pss_one (ps_if (pt_cmpR (RA.op_notInP hr.units) (pv 1) (pe_fld (pv 0) rfl) (by rfl)) (pss_one (ps_expr (pe_bm PySem.F.plainAttrs_list PySem.F.slot_list_append PySem.F.type_list_append mt_append (pe_fld (pv 0) rfl) (pa_cons (pv 1) pa_nil)))) pss_nil)), ?_⟩
  refine ⟨_, rfl, _, rfl, p, C, dx, fs, _, rfl, hF.ob, hF.cl, hF.no, hF.lk, a, CF K, l, as, rfl, ⟨hA a (List.mem_cons_self ..), T.p_Filter⟩, rfl, SqL.of hF.ls, fun b hb => ⟨CF K, ⟨hA b (List.mem_cons_of_mem _ hb), T.p_Filter⟩, T.sub_Filter_Filter⟩, _, rfl, ?_⟩
  by_cases e : a ∈ as
  · rw [if_pos e] at hQ
    exact iteF' (by simp [e]) hQ
  · rw [if_neg e] at hQ
    refine iteT' (by simp [e]) ?_
    refine ⟨_, rfl, p, C, dx, fs, _, rfl, hF.ob, hF.cl, hF.no, hF.lk, .inl ⟨rfl, _, SqL.of hF.ls⟩, _, rfl, l, _, _, rfl, rfl, hF.ls, (by rw [List.length_map, sizeLine_eq]; have := hF.ln; omega), ?_⟩
    rw [List.map_append] at hQ
    exact hQ
def spRemoveFilter (K : PySem.W.Frag) : Sp := fun vs H Q _ => ∃ (p C dx l a : Addr) (fs : List (Str × V)) (as : List Addr), vs = [.ref p, .ref a] ∧ HasF K H p C dx l fs as ∧ (∀ b ∈ a :: as, IsF K H b) ∧
  ∀ q, H q = none → Q .non (upd (upd H q (.lst ((as.filter fun b => !decide (b = a)).map V.ref))) p (.ins C dx (putF "filters" (.ref q) fs)))
theorem take_filter {α : Type} (p : α → Bool) (as : List α) (i : Nat) (x : α) (h : as[i]? = some x) : (as.take (i + 1)).filter p = (as.take i).filter p ++ (if p x = true then [x] else []) := by
  rw [List.take_add_one, h, List.filter_append]
  cases e : p x <;> simp [e]
theorem ok_removeFilter {f : Addr} (T : Txt P w K mg) (F : Stands K "removeFilter" "Filterer.removeFilter" s_Filterer_removeFilter [] f) : Callable P w K mg base 1 f ["self", "one"] [] (spRemoveFilter K) := by
  refine F.call0 sc_Filterer_removeFilter (fun vs H Q E h => ?_) (fun cdv A outer s H vs Q E hr h => ?_) (fun _ _ _ _ _ _ us hl => match us, hl with | [_, _], _ => rfl)
  · obtain ⟨p, C, dx, l, r, fs, as, rfl, _⟩ := h; rfl
  obtain ⟨p, C, dx, l, a, fs, as, rfl, hF, hA, hQ⟩ := h
  refine ⟨_, (pss_one (ps_fld (pv 0) (pe_lc (own := [("other", 2)]) (by rfl) sc_Filterer_removeFilter.nd (pi_list (pe_fld (pv 0) rfl)) (blkOk_by (own := [("other", 2)]) (N := nm_Filterer_removeFilter) (sc := defScope s_Filterer_removeFilter) (by decide +kernel)) (fun _ _ _ _ _ => (pg_name (i := 2) sc_Filterer_removeFilter.nd rfl (by first | exact Or.inl rfl | exact Or.inr rfl))) (fun _ _ _ _ _ => (pts_one (pt_cmpR (opK (K := K) RA.rNeP (RA.op_neP (hu_of hr))) (pv 2) (pv 1) (nomark _)))) (fun _ _ _ _ _ => (pv 2))) rfl)), ?_⟩
  refine ⟨_, rfl, p, C, dx, fs, _, rfl, hF.ob, hF.cl, hF.no, hF.lk, l, rfl, ⟨_, SqL.of hF.ls⟩, fun D hD => ?_⟩
  refine lc_list (xs := as.map V.ref) (fun i H' => H' = upd H D (.lst (((as.take i).filter fun b => !decide (b = a)).map V.ref))) rfl (fun i H' _ h => ?_) (fun i x H' hx h => ?_) (fun H' h => ?_)
  · rw [h]; refine SqL.of ?_
    rw [upd_ne (ne_of_none hF.ls hD)]; exact hF.ls
  · subst h
    rw [List.getElem?_map] at hx
    cases e : as[i]? with
    | none => rw [e] at hx; cases hx
    | some b =>
      rw [e] at hx
      cases hx
      have up : ∀ c, IsF K H c → IsF K (upd H D (.lst (((as.take i).filter fun b => !decide (b = a)).map V.ref))) c := fun c ⟨dx, fs, h⟩ => ⟨dx, fs, by rw [upd_ne (ne_of_none h hD)]; exact h⟩
      have ht := take_filter (fun b => !decide (b = a)) as i b e
      refine ⟨rfl, ?_⟩
      refine ⟨_, rfl, _, rfl, b, CF K, a, CF K, rfl, ⟨up b (hA b (List.mem_cons_of_mem _ (List.mem_of_getElem? e))), T.p_Filter⟩, rfl, ⟨up a (hA a (List.mem_cons_self ..)), T.p_Filter⟩, T.sub_Filter_Filter, _, rfl, ?_⟩
      by_cases z : b = a
      · refine iteF' (by simp [z]) ?_
        rw [ht, if_neg (by simp [z]), List.append_nil]
      · refine iteT' (by simp [z]) ?_
        refine ⟨_, rfl, _, upd_same, ?_, ?_⟩
        · have h1 := List.length_filter_le (fun b => !decide (b = a)) (as.take i)
          have h2 : (as.take i).length ≤ as.length := by rw [List.length_take]; exact Nat.min_le_right _ _
          have h3 := hF.ln
          rw [List.length_map, sizeLine_eq]; omega
        · rw [upd_upd, ht, if_pos (by simp [z]), List.map_append]; rfl
  · subst h
    rw [List.length_map, List.take_length]
    have e2 : (upd H D (.lst ((as.filter fun b => !decide (b = a)).map V.ref))) p = some (.ins C dx fs) := by rw [upd_ne (ne_of_none hF.ob hD)]; exact hF.ob
    exact ⟨_, rfl, p, C, dx, fs, rfl, e2, hF.cl, hF.no, Nat.lt_of_lt_of_le hF.fl (by decide), hQ D hD⟩
end
end K17

set_option Elab.async false
set_option linter.all false
set_option maxRecDepth 100000
set_option maxHeartbeats 0
namespace K17
open PySem PySem.Spec PyProof.Rows L2 RC
section
variable {P : Program} {w : World} {K : PySem.W.Frag} {mg : Str → Option Value} {base : Heap}
/-! ### records -/
theorem bl_true {b : Bool} (h : b = true) : V.bl b = V.bl true := by rw [h]
/-- copies of what is empty: () and {} -/
def spCopied (K : PySem.W.Frag) : Sp := fun vs H Q _ => ∃ a : Addr, vs = [.ref a] ∧ ((SqT K H a [] ∧ ∀ (H' : Hp) (t : Addr), Same H H' → H t = none → H' t = some (.tup []) → Q (.ref t) H') ∨ (H a = some (.dK []) ∧ ∀ (H' : Hp) (t : Addr), Same H H' → H t = none → H' t = some (.dK []) → Q (.ref t) H'))
theorem ok_copied {f : Addr} (T : Txt P w K mg) (F : Stands K "copied_value" "copied_value" s_copied_value [] f) : Callable P w K mg base 1 f ["thing"] [] (spCopied K) := by
  refine F.call0 sc_copied_value (fun vs H Q E h => ?_) (fun cdv A outer s H vs Q E hr h => ?_) (fun _ _ _ _ _ _ us hl => match us, hl with | [_], _ => rfl)
  · obtain ⟨a, rfl, _⟩ := h; rfl
  obtain ⟨a, rfl, h⟩ := h
  refine ⟨_, (pss_cons (ps_if (pt_val (pe_callB call_isi (by rfl) T.b_isinstance (by decide +kernel) (pa_cons (pv 0) (pa_cons (pe_bltn (v := .ty "list") (u := .type "list") (by rfl) T.b_list (by decide +kernel) rfl) pa_nil)))) (pss_one ps_never) pss_nil)
      (pss_cons (ps_if (pt_val (pe_callB call_isi (by rfl) T.b_isinstance (by decide +kernel) (pa_cons (pv 0) (pa_cons (pe_bltn (v := .ty "tuple") (u := .type "tuple") (by rfl) T.b_tuple (by decide +kernel) rfl) pa_nil)))) (pss_one (ps_ret (pe_callTy call_tuple_of (by rfl) T.b_tuple (by decide +kernel) (pa_cons (pe_lc (own := [("part", 1)]) (by rfl) sc_copied_value.nd (pi_tup (pv 0)) (blkOk_by (own := [("part", 1)]) (N := nm_copied_value) (sc := defScope s_copied_value) (by decide +kernel)) (fun _ _ _ _ _ => (pg_name (i := 1) sc_copied_value.nd rfl (by first | exact Or.inl rfl | exact Or.inr rfl))) (fun _ _ _ _ _ => pts_nil) (fun _ _ _ _ _ => pe_never)) pa_nil)))) pss_nil)
      (pss_cons (ps_if (pt_val (pe_callB call_isi (by rfl) T.b_isinstance (by decide +kernel) (pa_cons (pv 0) (pa_cons (pe_bltn (v := .ty "dict") (u := .type "dict") (by rfl) T.b_dict (by decide +kernel) rfl) pa_nil)))) (pss_one (ps_ret (pe_callTy (call_dictP rfl) (by rfl) T.b_dict (by decide +kernel) (pa_cons (pe_lock (pe_lc (own := [("name", 2)]) (by rfl) sc_copied_value.nd (pi_keys (pv 0)) (blkOk_by (own := [("name", 2)]) (N := nm_copied_value) (sc := defScope s_copied_value) (by decide +kernel)) (fun _ _ _ _ _ => (pg_name (i := 2) sc_copied_value.nd rfl (by first | exact Or.inl rfl | exact Or.inr rfl))) (fun _ _ _ _ _ => pts_nil) (fun _ _ _ _ _ => pe_never))) pa_nil)))) pss_nil)
      (pss_one (ps_ret (pv 0)))))), ?_⟩
  rcases h with ⟨hT, hQ⟩ | ⟨hD, hQ⟩
  · refine ⟨_, rfl, _, _, _, _, _, rfl, .ty _, tyx_tup hT, kit_ty (b := "list") (by decide +kernel), _, rfl, iteF ?_⟩
    refine ⟨_, rfl, _, _, _, _, _, rfl, .ty _, tyx_tup hT, kit_ty (b := "tuple") (by decide +kernel), _, rfl, iteT ?_⟩
    refine ⟨_, rfl, a, rfl, ⟨_, hT⟩, fun D hD => ?_⟩
    refine lc_tup (xs := []) (fun i H' => H' = upd H D (.lst [])) rfl (fun i H' _ h => ?_) (fun i x H' hx h => nomatch hx) (fun H' h => ?_)
    · subst h; rcases hT with (z | ⟨o, z⟩) | z
      · exact .inl (.inl (by rw [upd_ne (ne_of_none z hD)]; exact z))
      · exact .inl (.inr ⟨o, by rw [upd_ne (ne_of_none z hD)]; exact z⟩)
      · exact .inr z
    · subst h
      refine ⟨D, [], rfl, .inl ⟨SqL.of upd_same, fun t ht => ?_⟩⟩
      exact hQ _ t ((same_new hD _).trans (same_new ht _)) (upd_none ht).2 upd_same
  · refine ⟨_, rfl, _, _, _, _, _, rfl, .ty _, .base (.dK hD), kit_ty (b := "list") (by decide +kernel), _, rfl, iteF ?_⟩
    refine ⟨_, rfl, _, _, _, _, _, rfl, .ty _, .base (.dK hD), kit_ty (b := "tuple") (by decide +kernel), _, rfl, iteF ?_⟩
    refine ⟨_, rfl, _, _, _, _, _, rfl, .ty _, .base (.dK hD), kit_ty (b := "dict") (by decide +kernel), _, rfl, iteT ?_⟩
    refine ⟨a, _, hD, trivial, fun od => ?_⟩
    refine ⟨_, rfl, a, od, rfl, .inl ⟨[], upd_same, fun D hD2 => ?_⟩⟩
    refine lc_it walk_keys (fun i H' => H' = upd (upd H a (.frz od (.dK []))) D (.lst [])) rfl (fun i H' _ h => ?_) (fun i x H' H'' hi => nomatch hi) (fun H' h => ?_)
    · subst h; rw [upd_ne (Ne.symm (upd_none hD2).1)]; exact upd_same
    · subst h
      refine ⟨by rw [upd_ne (Ne.symm (upd_none hD2).1)]; exact upd_same, ?_⟩
      rw [unlock hD hD2]
      have hD3 := (upd_none hD2).2
      refine ⟨D, [], [], rfl, SqL.of upd_same, .nil, fun t ht => ?_⟩
      exact hQ _ t ((same_new hD3 _).trans (same_new ht _)) (upd_none ht).2 upd_same
/-- all but p is as it was -/
def SameBut (p : Addr) (H H' : Hp) : Prop := ∀ b o, b ≠ p → H b = some o → H' b = some o
theorem SameBut.trans {p : Addr} {H H1 H2 : Hp} (a : SameBut p H H1) (b : SameBut p H1 H2) : SameBut p H H2 := fun c o h e => b c o h (a c o h e)
theorem SameBut.of {p : Addr} {H H' : Hp} (a : Same H H') : SameBut p H H' := fun c o _ e => a c o e
theorem SameBut.put {p : Addr} {H : Hp} {o : HO} : SameBut p H (upd H p o) := fun c u h e => by rw [upd_ne h]; exact e
def recF (name : Str) (lv : Int) (ln msg : Str) (g : Addr) (clk : Int) (e : Addr) : List (Str × V) := [("name", .str name), ("levelno", .int lv), ("levelname", .str ln), ("msg", .str msg), ("given", .ref g), ("created", .int clk), ("extra", .ref e)]
def spRecInit (K : PySem.W.Frag) : Sp := fun vs H Q _ => ∃ (p dx a d : Addr) (name ln msg : Str) (lv clk : Int), vs = [.ref p, .str name, .int lv, .str ln, .str msg, .ref a, .int clk, .ref d] ∧ H p = some (.ins (CR K) dx []) ∧ SqT K H a [] ∧ H d = some (.dK []) ∧
  ∀ (H' : Hp) (g e : Addr), SameBut p H H' → H' p = some (.ins (CR K) dx (recF name lv ln msg g clk e)) → H' g = some (.tup []) → H' e = some (.dK []) → Q .non H'
theorem SqT.but {K : PySem.W.Frag} {H H' : Hp} {a p : Addr} {xs : List V} {C dx : Addr} {fs : List (Str × V)} (e : SameBut p H H') (hp : H p = some (.ins C dx fs)) (h : SqT K H a xs) : SqT K H' a xs := by
  rcases h with (h | ⟨o, h⟩) | h
  · exact .inl (.inl (e _ _ (fun z => by rw [z, hp] at h; cases h) h))
  · exact .inl (.inr ⟨o, e _ _ (fun z => by rw [z, hp] at h; cases h) h⟩)
  · exact .inr h
theorem ok_rec_init {f : Addr} (T : Txt P w K mg) (F : Stands K "__init__" "LogRecord.__init__" s_LogRecord_init [] f) (c_copied_value : Callable P w K mg base 1 (He.ga K "copied_value") ["thing"] [] (spCopied K)) :
    Callable P w K mg base 2 f ["self", "name", "levelno", "levelname", "msg", "args", "created", "extra"] [] (spRecInit K) := by
  refine F.call0 sc_LogRecord_init (fun vs H Q E h => ?_) (fun cdv A outer s H vs Q E hr h => ?_) (fun _ _ _ _ _ _ us hl => match us, hl with | [_, _, _, _, _, _, _, _], _ => rfl)
  · obtain ⟨p, dx, a, d, name, ln, msg, lv, clk, rfl, _⟩ := h; rfl
  obtain ⟨p, dx, a, d, name, ln, msg, lv, clk, rfl, hp, hT, hD, hQ⟩ := h
  refine ⟨_, (pss_cons (ps_fld (pv 0) (pv 1) rfl)
      (pss_cons (ps_fld (pv 0) (pv 2) rfl)
      (pss_cons (ps_fld (pv 0) (pv 3) rfl)
      (pss_cons (ps_fld (pv 0) (pv 4) rfl)
      (pss_cons (ps_fld (pv 0) (pe_fn T.g_copied_value c_copied_value (hr.mono (by decide)) (by rfl) (pa_cons (pe_callTy call_tuple_of (by rfl) T.b_tuple (by decide +kernel) (pa_cons (pv 5) pa_nil)) pa_nil)) rfl)
      (pss_cons (ps_fld (pv 0) (pv 6) rfl)
      (pss_one (ps_fld (pv 0) (pe_fn T.g_copied_value c_copied_value (hr.mono (by decide)) (by rfl) (pa_cons (pv 7) pa_nil)) rfl)))))))), ?_⟩
  refine ⟨_, rfl, _, rfl, p, _, dx, _, rfl, hp, T.c_LogRecord, T.n_LogRecord_name, (by show 0 < 1000; decide), ?_⟩
  refine ⟨_, rfl, _, rfl, p, _, dx, _, rfl, upd_same, T.c_LogRecord, T.n_LogRecord_levelno, (by show 1 < 1000; decide), ?_⟩
  rw [upd_upd]
  refine ⟨_, rfl, _, rfl, p, _, dx, _, rfl, upd_same, T.c_LogRecord, T.n_LogRecord_levelname, (by show 2 < 1000; decide), ?_⟩
  rw [upd_upd]
  refine ⟨_, rfl, _, rfl, p, _, dx, _, rfl, upd_same, T.c_LogRecord, T.n_LogRecord_msg, (by show 3 < 1000; decide), ?_⟩
  rw [upd_upd]
  generalize e1 : upd H p _ = H1
  have b1 : SameBut p H H1 := by rw [← e1]; exact SameBut.put
  have p1 : H1 p = some (.ins (CR K) dx [("name", .str name), ("levelno", .int lv), ("levelname", .str ln), ("msg", .str msg)]) := by rw [← e1]; exact upd_same
  clear e1
  refine ⟨_, rfl, a, [], rfl, .inr ⟨SqT.but b1 hp hT, a, rfl, .inl ⟨SqT.but b1 hp hT, fun H2 t s2 n2 t2 => ?_⟩⟩⟩
  refine ⟨_, rfl, p, _, dx, _, rfl, s2 _ _ p1, T.c_LogRecord, T.n_LogRecord_given, (by show 4 < 1000; decide), ?_⟩
  refine ⟨_, rfl, _, rfl, p, _, dx, _, rfl, upd_same, T.c_LogRecord, T.n_LogRecord_created, (by show 5 < 1000; decide), ?_⟩
  rw [upd_upd]
  have ntp : t ≠ p := fun z => by rw [z, p1] at n2; cases n2
  have ndp : d ≠ p := fun z => by rw [z, hp] at hD; cases hD
  generalize e3 : upd H2 p _ = H3
  have b3 : SameBut p H2 H3 := by rw [← e3]; exact SameBut.put
  have p3 : H3 p = some (.ins (CR K) dx [("name", .str name), ("levelno", .int lv), ("levelname", .str ln), ("msg", .str msg), ("given", .ref t), ("created", .int clk)]) := by rw [← e3]; exact upd_same
  clear e3
  have d3 : H3 d = some (.dK []) := b3 _ _ ndp (s2 _ _ (b1 _ _ ndp hD))
  refine ⟨_, rfl, d, rfl, .inr ⟨d3, fun H4 e s4 n4 e4 => ?_⟩⟩
  refine ⟨_, rfl, p, _, dx, _, rfl, s4 _ _ p3, T.c_LogRecord, T.n_LogRecord_extra, (by show 6 < 1000; decide), ?_⟩
  have nep : e ≠ p := fun z => by rw [z, p3] at n4; cases n4
  refine hQ _ t e ?_ upd_same ?_ ?_
  · exact ((b1.trans (SameBut.of s2)).trans (b3.trans (SameBut.of s4))).trans SameBut.put
  · rw [upd_ne ntp]; exact s4 _ _ (b3 _ _ ntp t2)
  · rw [upd_ne nep]; exact e4
/-- is_integer of numbers -/
def spIsInt : Sp := fun vs H Q _ => ∃ i : Int, vs = [.int i] ∧ Q (.bl true) H
theorem ok_is_integer {f : Addr} (T : Txt P w K mg) (F : Stands K "is_integer" "is_integer" s_is_integer [] f) : Callable P w K mg base 1 f ["thing"] [] spIsInt := by
  refine F.call0 sc_is_integer (fun vs H Q E h => ?_) (fun cdv A outer s H vs Q E hr h => ?_) (fun _ _ _ _ _ _ us hl => match us, hl with | [_], _ => rfl)
  · obtain ⟨i, rfl, _⟩ := h; rfl
  obtain ⟨i, rfl, hQ⟩ := h
  refine ⟨_, (pss_one (ps_ret (pe_and (pe_callB call_isi (by rfl) T.b_isinstance (by decide +kernel) (pa_cons (pv 0) (pa_cons (pe_bltn (v := .ty "int") (u := .type "int") (by rfl) T.b_int (by decide +kernel) rfl) pa_nil))) (pe_one (pe_not (pe_callB call_isi (by rfl) T.b_isinstance (by decide +kernel) (pa_cons (pv 0) (pa_cons (pe_bltn (v := .ty "bool") (u := .type "bool") (by rfl) T.b_bool (by decide +kernel) rfl) pa_nil)))))))), ?_⟩
  refine ⟨_, rfl, _, _, _, _, _, rfl, .ty _, .base (.int i), kit_ty (b := "int") (by decide +kernel), _, rfl, iteT ?_⟩
  exact ⟨_, rfl, _, _, _, _, false, rfl, .ty _, .base (.int i), kit_ty (b := "bool") (by decide +kernel), _, rfl, hQ⟩
def spLevelOf : Sp := fun vs H Q _ => ∃ (y : Addr) (i : Int), vs = [.ref y, .int i] ∧ Q (.int i) H
theorem ok_level_of {f : Addr} (T : Txt P w K mg) (F : Stands K "level_of" "Yard.level_of" s_Yard_level_of [] f) (c_is_integer : Callable P w K mg base 1 (He.ga K "is_integer") ["thing"] [] spIsInt) : Callable P w K mg base 2 f ["self", "level"] [] spLevelOf := by
  refine F.call0 sc_Yard_level_of (fun vs H Q E h => ?_) (fun cdv A outer s H vs Q E hr h => ?_) (fun _ _ _ _ _ _ us hl => match us, hl with | [_, _], _ => rfl)
  · obtain ⟨y, i, rfl, _⟩ := h; rfl
  obtain ⟨y, i, rfl, hQ⟩ := h
  refine ⟨_, (pss_cons (ps_if (pt_val (pe_fn T.g_is_integer c_is_integer (hr.mono (by decide)) (by rfl) (pa_cons (pv 1) pa_nil))) (pss_one (ps_ret (pv 1))) pss_nil)
      (pss_cons (ps_if (PW.pt (pw_and (pt_val (pe_callB call_isi (by rfl) T.b_isinstance (by decide +kernel) (pa_cons (pv 1) (pa_cons (pe_bltn (v := .ty "str") (u := .type "str") (by rfl) T.b_str (by decide +kernel) rfl) pa_nil)))) (pw_and1 pt_never))) (pss_one (ps_ret pe_never)) pss_nil)
      (pss_one ps_never))), ?_⟩
  exact ⟨_, rfl, i, rfl, _, rfl, iteT ⟨_, rfl, hQ⟩⟩
/-- a yard: what is read of it for a record -/
structure YardR (K : PySem.W.Frag) (H : Hp) (y : Addr) (clk : Int) (nms : List (Key × V)) : Prop where
  at_ : ∃ dx fs d, H y = some (.ins (He.ga K "Yard") dx fs) ∧ fs.lookup ("clock" : Str) = some (.int clk) ∧ fs.lookup ("names_of" : Str) = some (.ref d) ∧ H d = some (.dK nms) ∧ ∀ m ∈ (["level_of", "level_name", "make_record", "getLogger", "enrol"] : List Str), fs.lookup m = none
theorem YardR.same {H H' : Hp} {y : Addr} {clk : Int} {nms : List (Key × V)} (h : YardR K H y clk nms) (s : Same H H') : YardR K H' y clk nms := by
  obtain ⟨dx, fs, d, h1, h2, h3, h4, h5⟩ := h.at_
  exact ⟨dx, fs, d, s _ _ h1, h2, h3, s _ _ h4, h5⟩
def spLevelName (K : PySem.W.Frag) : Sp := fun vs H Q _ => ∃ (y : Addr) (i clk : Int) (nms : List (Key × V)) (z : Str), vs = [.ref y, .int i] ∧ YardR K H y clk nms ∧ valV nms (.inl i) = some (.str z) ∧ Q (.str z) H
theorem ok_level_name {f : Addr} (T : Txt P w K mg) (F : Stands K "level_name" "Yard.level_name" s_Yard_level_name [] f) : Callable P w K mg base 1 f ["self", "level"] [] (spLevelName K) := by
  refine F.call0 sc_Yard_level_name (fun vs H Q E h => ?_) (fun cdv A outer s H vs Q E hr h => ?_) (fun _ _ _ _ _ _ us hl => match us, hl with | [_, _], _ => rfl)
  · obtain ⟨y, i, clk, nms, z, rfl, _⟩ := h; rfl
  obtain ⟨y, i, clk, nms, z, rfl, hY, hz, hQ⟩ := h
  obtain ⟨dx, fs, d, h1, h2, h3, h4, h5⟩ := hY.at_
  refine ⟨_, (pss_one (ps_ret (pe_ifExp (pt_cmp (pc_din (hu_of hr) (pv 1) (pe_fld (pv 0) rfl))) (pe_dget (hu_of hr) (pe_fld (pv 0) rfl) (pv 1) (fun _ _ => rfl)) (pe_op op_add_str pe_str (pe_callTy call_str_int (by rfl) T.b_str (by decide +kernel) (pa_cons (pv 1) pa_nil)))))), ?_⟩
  refine ⟨_, rfl, _, rfl, y, _, dx, fs, _, rfl, h1, T.c_Yard, T.n_Yard_names_of, h3, d, _, rfl, DGet.k (k := Sum.inl i) h4, _, rfl, ?_⟩
  refine iteT' (by rw [hz]; rfl) ?_
  exact ⟨_, rfl, y, _, dx, fs, _, rfl, h1, T.c_Yard, T.n_Yard_names_of, h3, _, rfl, d, _, rfl, (by have g := DGet.k (k := Sum.inl i) h4; rw [hz] at g; exact g), hQ⟩
end
end K17

set_option Elab.async false
set_option linter.all false
set_option maxRecDepth 100000
set_option maxHeartbeats 0
namespace K17
open PySem PySem.Spec PyProof.Rows L2 RC
section
variable {P : Program} {w : World} {K : PySem.W.Frag} {mg : Str → Option Value} {base : Heap}
/-! ### make_record -/
/-- a record as the yard makes it, without args and extra -/
def RecAt (K : PySem.W.Frag) (H : Hp) (r : Addr) (name : Str) (lv : Int) (ln msg : Str) (clk : Int) : Prop := ∃ dx g e, H r = some (.ins (CR K) dx (recF name lv ln msg g clk e)) ∧ H g = some (.tup []) ∧ H e = some (.dK [])
theorem RecAt.same {H H' : Hp} {r : Addr} {name : Str} {lv : Int} {ln msg : Str} {clk : Int} (h : RecAt K H r name lv ln msg clk) (s : Same H H') : RecAt K H' r name lv ln msg clk := by
  obtain ⟨dx, g, e, h1, h2, h3⟩ := h
  exact ⟨dx, g, e, s _ _ h1, s _ _ h2, s _ _ h3⟩
theorem RecAt.name {H : Hp} {r : Addr} {name : Str} {lv : Int} {ln msg : Str} {clk : Int} (h : RecAt K H r name lv ln msg clk) : RecName K H r name := by
  obtain ⟨dx, g, e, h1, _⟩ := h
  exact ⟨dx, _, h1, rfl⟩
def spMakeRecord (K : PySem.W.Frag) : Sp := fun vs H Q _ => ∃ (y a : Addr) (name msg z : Str) (lv clk : Int) (nms : List (Key × V)), vs = [.ref y, .str name, .int lv, .str msg, .ref a, .non] ∧ SqT K H a [] ∧ YardR K H y clk nms ∧ valV nms (.inl lv) = some (.str z) ∧
  ∀ (H' : Hp) (r : Addr), Same H H' → H r = none → RecAt K H' r name lv z msg clk → Q (.ref r) H'
theorem made_same {H H' : Hp} {x dx C : Addr} {o : HO} {fs : List (Str × V)} (hx : H x = none) (hd : H dx = none) (b : SameBut x (upd (upd H dx o) x (.ins C dx fs)) H') : Same H H' := fun c u e => by
  have h1 : c ≠ x := ne_of_none e hx
  have h2 : c ≠ dx := ne_of_none e hd
  exact b c u h1 (by rw [upd_ne h1, upd_ne h2]; exact e)
theorem ok_make_record {f : Addr} {dvs : List V} (T : Txt P w K mg) (F : Stands K "make_record" "Yard.make_record" s_Yard_make_record [.ref (He.dflAt ("Yard", some "make_record") 0 K), .non] f)
    (c_Yard_level_of : Callable P w K mg base 2 (He.ma K (He.ga K "Yard") "level_of") ["self", "level"] [] spLevelOf) (c_Yard_level_name : Callable P w K mg base 1 (He.ma K (He.ga K "Yard") "level_name") ["self", "level"] [] (spLevelName K))
    (c_LogRecord_init : Callable P w K mg base 2 (He.ma K (He.ga K "LogRecord") "__init__") ["self", "name", "levelno", "levelname", "msg", "args", "created", "extra"] [] (spRecInit K)) :
    Callable P w K mg base 4 f ["self", "name", "level", "msg", "args", "extra"] [.ref (He.dflAt ("Yard", some "make_record") 0 K), .non] (spMakeRecord K) := by
  refine F.call sc_Yard_make_record 4 0 (fun vs H Q E h => ?_) (fun cdv A outer s H vs Q E hr h => ?_) (fun z => nomatch z) fun _ => ⟨rfl, fun _ _ _ _ _ _ _ us its hl hi => match us, hl, its, hi with | [_, _, _, _], _, [_, _], _ => ⟨_, rfl, rfl⟩⟩
  · obtain ⟨y, a, name, msg, z, lv, clk, nms, rfl, _⟩ := h; rfl
  obtain ⟨y, a, name, msg, z, lv, clk, nms, rfl, hT, hY, hz, hQ⟩ := h
  obtain ⟨dy, fs, dn, h1, h2, h3, h4, h5⟩ := id hY.at_
  refine ⟨_, (pss_cons (ps_set (i := 6) sc_Yard_make_record.nd rfl (by first | exact Or.inl rfl | exact Or.inr rfl) (pe_mt T.c_Yard T.m_Yard_level_of c_Yard_level_of (hr.mono (by decide)) (pv 0) (pa_cons (pv 2) pa_nil)))
      (pss_cons (ps_set (i := 7) sc_Yard_make_record.nd rfl (by first | exact Or.inl rfl | exact Or.inr rfl) (pe_ifExp (pt_cmpR op_isN (pv 5) pe_non (nomark _)) pe_dnewK (pv 5)))
      (pss_cons (ps_set (i := 8) sc_Yard_make_record.nd rfl (by first | exact Or.inl rfl | exact Or.inr rfl) (pe_callB cr_sortedS (by rfl) T.b_sorted (by decide +kernel) (pa_cons (pe_lock (pe_lc (own := [("key", 9)]) (by rfl) sc_Yard_make_record.nd (pi_keys (pv 7)) (blkOk_by (own := [("key", 9)]) (N := nm_Yard_make_record) (sc := defScope s_Yard_make_record) (by decide +kernel)) (fun _ _ _ _ _ => (pg_name (i := 9) sc_Yard_make_record.nd rfl (by first | exact Or.inl rfl | exact Or.inr rfl))) (fun _ _ _ _ _ => (pts_one pt_never)) (fun _ _ _ _ _ => (pv 9)))) pa_nil)))
      (pss_cons (ps_if (pt_cmpR (op_neD hr.units) (pv 8) (pe_lst pa_nil) (nomark _)) (pss_one ps_never) pss_nil)
      (pss_one (ps_ret (pe_mk T.k_LogRecord T.g_LogRecord c_LogRecord_init (hr.mono (by decide)) (by rfl) (pa_cons (pv 1) (pa_cons (pv 6) (pa_cons (pe_mt T.c_Yard T.m_Yard_level_name c_Yard_level_name (hr.mono (by decide)) (pv 0) (pa_cons (pv 6) pa_nil)) (pa_cons (pv 3) (pa_cons (pv 4) (pa_cons (pe_fld (pv 0) rfl) (pa_cons (pv 7) pa_nil)))))))))))))), ?_⟩
  -- number = self.level_of(level)
  refine ⟨_, rfl, y, dy, fs, rfl, h1, h5 _ (by simp), _, rfl, y, lv, rfl, ?_⟩
  -- more = {}
  refine ⟨_, rfl, rfl, _, rfl, iteT' (by rfl) fun m hm => ?_⟩
  have s1 : Same H (upd H m (.dK [])) := same_new hm _
  -- bad = sorted([..])
  refine ⟨m, _, upd_same, trivial, fun od => ?_⟩
  refine ⟨_, rfl, m, od, rfl, .inl ⟨[], upd_same, fun D hD => ?_⟩⟩
  have hD' : upd H m (.dK []) D = none := (upd_none hD).2
  refine lc_it walk_keys (fun i H' => H' = upd (upd (upd H m (.dK [])) m (.frz od (.dK []))) D (.lst [])) rfl (fun i H' _ h => ?_) (fun i x H' H'' hi => nomatch hi) (fun H' h => ?_)
  · subst h; rw [upd_ne (Ne.symm (upd_none hD).1)]; exact upd_same
  subst h
  refine ⟨by rw [upd_ne (Ne.symm (upd_none hD).1)]; exact upd_same, ?_⟩
  rw [unlock upd_same hD]
  have s2 := s1.trans (same_new hD' (.lst []))
  refine ⟨D, [], rfl, SqL.of upd_same, (by decide), fun ys q hp _ hq => ?_⟩
  have e0 : ys = [] := hp.eq_nil
  subst e0
  have s3 := s2.trans (same_new hq (.lst ([].map V.str)))
  -- if bad != []
  refine ⟨_, rfl, (by show 0 ≤ sizeLine; decide), fun q2 hq2 => ?_⟩
  have s4 := s3.trans (same_new hq2 (.lst []))
  refine ⟨_, _, Dp.lst (SqL.of (by rw [upd_ne (ne_of_none upd_same hq2)]; exact upd_same)) .nil, Dp.lst (SqL.of upd_same) .nil, by decide +kernel, by decide +kernel, _, rfl, iteF' (by decide +kernel) ?_⟩
  have m4 : (upd (upd (upd (upd H m (.dK [])) D (.lst [])) q (.lst ([].map V.str))) q2 (.lst [])) m = some (.dK []) := by
    have k1 : upd H m (.dK []) m = some (.dK []) := upd_same
    exact (same_new hq2 _) _ _ ((same_new hq _) _ _ ((same_new hD' _) _ _ k1))
  generalize upd (upd (upd (upd H m (.dK [])) D (.lst [])) q (.lst ([].map V.str))) q2 (.lst []) = H4 at s4 m4
  have hY4 := hY.same s4
  have hT4 := s4.seqT hT
  obtain ⟨dy4, fs4, dn4, g1, g2, g3, g4, g5⟩ := id hY4.at_
  refine ⟨_, rfl, _, rfl, _, rfl, y, dy4, fs4, rfl, g1, g5 _ (by simp), _, rfl, y, lv, clk, nms, z, rfl, hY4, hz, _, rfl, _, rfl, _, rfl, y, _, dy4, fs4, _, rfl, g1, T.c_Yard, T.n_Yard_clock, g2, _, rfl, fun x dx hx hdx hne => ?_⟩
  have ea : ∀ o, SqT K (upd (upd H4 dx (.own x)) x o) a [] := fun o => by
    rcases hT4 with (u | ⟨ob, u⟩) | u
    · exact .inl (.inl (by rw [upd_ne (ne_of_none u hx), upd_ne (ne_of_none u hdx)]; exact u))
    · exact .inl (.inr ⟨ob, by rw [upd_ne (ne_of_none u hx), upd_ne (ne_of_none u hdx)]; exact u⟩)
    · exact .inr u
  refine ⟨x, dx, a, m, name, z, msg, lv, clk, rfl, upd_same, ea _, (by rw [upd_ne (ne_of_none m4 hx), upd_ne (ne_of_none m4 hdx)]; exact m4), fun H' g e b5 h5' hg he => ⟨rfl, ?_⟩⟩
  exact hQ H' x (s4.trans (made_same hx hdx b5)) (s4.free hx) ⟨dx, g, e, h5', hg, he⟩
end
end K17

set_option Elab.async false
set_option linter.all false
set_option maxRecDepth 100000
set_option maxHeartbeats 0
namespace K17
open PySem PySem.Spec PyProof.Rows L2 RC
section
variable {P : Program} {w : World} {K : PySem.W.Frag} {mg : Str → Option Value} {base : Heap}
/-! ### what is made -/
abbrev CY (K : PySem.W.Frag) : Addr := He.ga K "Yard"
abbrev CL (K : PySem.W.Frag) : Addr := He.ga K "Logger"
def spEnrol (K : PySem.W.Frag) : Sp := fun vs H Q _ => ∃ (y h dy m : Addr) (fs : List (Str × V)) (xs : List V), vs = [.ref y, .ref h] ∧ H y = some (.ins (CY K) dy fs) ∧ fs.lookup ("made" : Str) = some (.ref m) ∧ H m = some (.lst xs) ∧ xs.length ≤ 1000 ∧ Q .non (upd H m (.lst (xs ++ [.ref h])))
theorem ok_enrol {f : Addr} (T : Txt P w K mg) (F : Stands K "enrol" "Yard.enrol" s_Yard_enrol [] f) : Callable P w K mg base 1 f ["self", "handler"] [] (spEnrol K) := by
  refine F.call0 sc_Yard_enrol (fun vs H Q E h => ?_) (fun cdv A outer s H vs Q E hr h => ?_) (fun _ _ _ _ _ _ us hl => match us, hl with | [_, _], _ => rfl)
  · obtain ⟨y, h, dy, m, fs, xs, rfl, _⟩ := h; rfl
  obtain ⟨y, h, dy, m, fs, xs, rfl, h1, h2, h3, h4, hQ⟩ := h
  refine ⟨_, (pss_one (ps_expr (pe_bm PySem.F.plainAttrs_list PySem.F.slot_list_append PySem.F.type_list_append mt_append (pe_fld (pv 0) rfl) (pa_cons (pv 1) pa_nil)))), ?_⟩
  exact ⟨_, rfl, y, _, dy, fs, _, rfl, h1, T.c_Yard, T.n_Yard_made, h2, .inl ⟨rfl, _, SqL.of h3⟩, _, rfl, m, _, _, rfl, rfl, h3, (by rw [sizeLine_eq]; omega), hQ⟩
/-- what the text says of a class of handlers -/
structure HCls (K : PySem.W.Frag) (C : Addr) : Prop where
  c : Cls K C
  n1 : NoAttr K C "filters"
  n2 : NoAttr K C "yard"
  n3 : NoAttr K C "level"
  n4 : NoAttr K C "formatter"
  n5 : NoAttr K C "name"
  n6 : NoAttr K C "terminator"
  n7 : NoAttr K C "closed"
def hF (l y : Addr) : List (Str × V) := [("filters", .ref l), ("yard", .ref y), ("level", .int 0), ("formatter", .non), ("name", .non), ("terminator", .str "\n"), ("closed", .bl false)]
/-- a handler at p was made: its filters at l; the yard's list of what was made, at m, has it at its end -/
def HMade (K : PySem.W.Frag) (H : Hp) (p C dx y m : Addr) (xs : List V) (H' : Hp) : Prop := ∃ l, (∀ b o, b ≠ p → b ≠ m → H b = some o → H' b = some o) ∧ H l = none ∧ H' p = some (.ins C dx (hF l y)) ∧ H' l = some (.lst []) ∧ H' m = some (.lst (xs ++ [.ref p]))
def spHandlerInit (K : PySem.W.Frag) : Sp := fun vs H Q _ => ∃ (p C dx y dy m : Addr) (fs : List (Str × V)) (xs : List V), vs = [.ref p, .ref y] ∧ H p = some (.ins C dx []) ∧ HCls K C ∧ p ≠ y ∧ H y = some (.ins (CY K) dy fs) ∧ fs.lookup ("made" : Str) = some (.ref m) ∧ fs.lookup ("enrol" : Str) = none ∧ H m = some (.lst xs) ∧ xs.length ≤ 1000 ∧
  ∀ H', HMade K H p C dx y m xs H' → Q .non H'
theorem ok_handler_init {f : Addr} (T : Txt P w K mg) (F : Stands K "__init__" "Handler.__init__" s_Handler_init [] f) (c_Filterer_init : Callable P w K mg base 1 (He.ma K (He.ga K "Filterer") "__init__") ["self"] [] (spFiltererInit K))
    (c_Yard_enrol : Callable P w K mg base 1 (He.ma K (He.ga K "Yard") "enrol") ["self", "handler"] [] (spEnrol K)) : Callable P w K mg base 2 f ["self", "yard"] [] (spHandlerInit K) := by
  refine F.call0 sc_Handler_init (fun vs H Q E h => ?_) (fun cdv A outer s H vs Q E hr h => ?_) (fun _ _ _ _ _ _ us hl => match us, hl with | [_, _], _ => rfl)
  · obtain ⟨p, C, dx, y, dy, m, fs, xs, rfl, _⟩ := h; rfl
  obtain ⟨p, C, dx, y, dy, m, fs, xs, rfl, hp, c, npy, hy, hm, he, hmm, hxs, hQ⟩ := h
  refine ⟨_, (pss_cons (ps_expr (pe_cf T.cf_Filterer_init c_Filterer_init (hr.mono (by decide)) (pe_glob (v := .ref _) (by rfl) T.g_Filterer rfl) (pa_cons (pv 0) pa_nil)))
      (pss_cons (ps_fld (pv 0) (pv 1) rfl)
      (pss_cons (ps_fld (pv 0) pe_int rfl)
      (pss_cons (ps_fld (pv 0) pe_non rfl)
      (pss_cons (ps_fld (pv 0) pe_non rfl)
      (pss_cons (ps_fld (pv 0) pe_str rfl)
      (pss_cons (ps_fld (pv 0) pe_bl rfl)
      (pss_one (ps_expr (pe_mt T.c_Yard T.m_Yard_enrol c_Yard_enrol (hr.mono (by decide)) (pv 1) (pa_cons (pv 0) pa_nil))))))))))), ?_⟩
  refine ⟨rfl, _, rfl, C, p, dx, [], rfl, hp, c.c, c.n1, (by decide), fun l hl => ?_⟩
  refine ⟨_, rfl, _, rfl, p, C, dx, _, rfl, upd_same, c.c, c.n2, (by show 1 < 1000; decide), ?_⟩
  rw [upd_upd]
  refine ⟨_, rfl, p, C, dx, _, rfl, upd_same, c.c, c.n3, (by show 2 < 1000; decide), ?_⟩
  rw [upd_upd]
  refine ⟨_, rfl, p, C, dx, _, rfl, upd_same, c.c, c.n4, (by show 3 < 1000; decide), ?_⟩
  rw [upd_upd]
  refine ⟨_, rfl, p, C, dx, _, rfl, upd_same, c.c, c.n5, (by show 4 < 1000; decide), ?_⟩
  rw [upd_upd]
  refine ⟨_, rfl, p, C, dx, _, rfl, upd_same, c.c, c.n6, (by show 5 < 1000; decide), ?_⟩
  rw [upd_upd]
  refine ⟨_, rfl, p, C, dx, _, rfl, upd_same, c.c, c.n7, (by show 6 < 1000; decide), ?_⟩
  rw [upd_upd]
  generalize e1 : upd (upd H l (.lst [])) p _ = H1
  have nlp : l ≠ p := fun z => by rw [z, hp] at hl; cases hl
  have npm : p ≠ m := fun z => by rw [z, hmm] at hp; cases hp
  have nlm : l ≠ m := fun z => by rw [z, hmm] at hl; cases hl
  have q1 : H1 p = some (.ins C dx (hF l y)) := by rw [← e1]; exact upd_same
  have q2 : H1 l = some (.lst []) := by rw [← e1, upd_ne nlp]; exact upd_same
  have q3 : ∀ b o, b ≠ p → H b = some o → H1 b = some o := fun b o h1 h2 => by rw [← e1, upd_ne h1]; exact same_new hl _ b o h2
  clear e1
  refine ⟨_, rfl, y, dy, fs, rfl, q3 _ _ (Ne.symm npy) hy, he, _, rfl, y, p, dy, m, fs, xs, rfl, q3 _ _ (Ne.symm npy) hy, hm, q3 _ _ (Ne.symm npm) hmm, hxs, ?_⟩
  exact hQ _ ⟨l, fun b o h1 h2 h3 => by rw [upd_ne h2]; exact q3 b o h1 h3, hl, by rw [upd_ne npm]; exact q1, by rw [upd_ne nlm]; exact q2, upd_same⟩
def spStreamInit (K : PySem.W.Frag) : Sp := fun vs H Q _ => ∃ (p dx y dy m : Addr) (st : Str) (fs : List (Str × V)) (xs : List V), vs = [.ref p, .ref y, .str st] ∧ H p = some (.ins (He.ga K "StreamHandler") dx []) ∧ p ≠ y ∧ H y = some (.ins (CY K) dy fs) ∧ fs.lookup ("made" : Str) = some (.ref m) ∧ fs.lookup ("enrol" : Str) = none ∧ H m = some (.lst xs) ∧ xs.length ≤ 1000 ∧
  ∀ (H' : Hp) (l : Addr), (∀ b o, b ≠ p → b ≠ m → H b = some o → H' b = some o) → H l = none → H' p = some (.ins (He.ga K "StreamHandler") dx (hF l y ++ ([("stream", .str st)] : List (Str × V)))) → H' l = some (.lst []) → H' m = some (.lst (xs ++ [.ref p])) → Q .non H'
theorem ok_stream_init {f : Addr} (T : Txt P w K mg) (F : Stands K "__init__" "StreamHandler.__init__" s_StreamHandler_init [.str "stderr"] f) (c_Handler_init : Callable P w K mg base 2 (He.ma K (He.ga K "Handler") "__init__") ["self", "yard"] [] (spHandlerInit K)) :
    Callable P w K mg base 3 f ["self", "yard", "stream"] [.str "stderr"] (spStreamInit K) := by
  refine F.call sc_StreamHandler_init 2 0 (fun vs H Q E h => ?_) (fun cdv A outer s H vs Q E hr h => ?_) (fun z => nomatch z) fun _ => ⟨rfl, fun _ _ _ _ _ _ _ us its hl hi => match us, hl, its, hi with | [_, _], _, [_], _ => ⟨_, rfl, rfl⟩⟩
  · obtain ⟨p, dx, y, dy, m, st, fs, xs, rfl, _⟩ := h; rfl
  obtain ⟨p, dx, y, dy, m, st, fs, xs, rfl, hp, npy, hy, hm, he, hmm, hxs, hQ⟩ := h
  refine ⟨_, (pss_cons (ps_expr (pe_cf T.cf_Handler_init c_Handler_init (hr.mono (by decide)) (pe_glob (v := .ref _) (by rfl) T.g_Handler rfl) (pa_cons (pv 0) (pa_cons (pv 1) pa_nil))))
      (pss_one (ps_fld (pv 0) (pv 2) rfl))), ?_⟩
  have c : HCls K (He.ga K "StreamHandler") := ⟨T.c_StreamHandler, T.n_StreamHandler_filters, T.n_StreamHandler_yard, T.n_StreamHandler_level, T.n_StreamHandler_formatter, T.n_StreamHandler_name, T.n_StreamHandler_terminator, T.n_StreamHandler_closed⟩
  refine ⟨rfl, _, rfl, _, rfl, p, _, dx, y, dy, m, fs, xs, rfl, hp, c, npy, hy, hm, he, hmm, hxs, fun H1 hM => ?_⟩
  obtain ⟨l, k1, k2, k3, k4, k5⟩ := hM
  have nlp : l ≠ p := fun z => by rw [z, hp] at k2; cases k2
  have npm : m ≠ p := fun z => by rw [z, hp] at hmm; cases hmm
  refine ⟨_, rfl, _, rfl, p, _, dx, _, rfl, k3, T.c_StreamHandler, T.n_StreamHandler_stream, (by show 7 < 1000; decide), ?_⟩
  exact hQ _ l (fun b o h1 h2 h3 => by rw [upd_ne h1]; exact k1 b o h1 h2 h3) k2 upd_same (by rw [upd_ne nlp]; exact k4) (by rw [upd_ne npm]; exact k5)
def lF (l y : Addr) (name : Str) (lev : Int) (h : Addr) (par : V) : List (Str × V) := [("filters", .ref l), ("yard", .ref y), ("name", .str name), ("level", .int lev), ("propagate", .bl true), ("disabled", .bl false), ("handlers", .ref h), ("parent", par)]
def spLoggerInit (K : PySem.W.Frag) : Sp := fun vs H Q _ => ∃ (p dx y : Addr) (name : Str) (lev : Int), vs = [.ref p, .ref y, .str name, .int lev] ∧ H p = some (.ins (CL K) dx []) ∧
  ∀ (H' : Hp) (l h : Addr), SameBut p H H' → H l = none → H h = none → l ≠ h → H' p = some (.ins (CL K) dx (lF l y name lev h .non)) → H' l = some (.lst []) → H' h = some (.lst []) → Q .non H'
theorem ok_logger_init {f : Addr} (T : Txt P w K mg) (F : Stands K "__init__" "Logger.__init__" s_Logger_init [] f) (c_Filterer_init : Callable P w K mg base 1 (He.ma K (He.ga K "Filterer") "__init__") ["self"] [] (spFiltererInit K)) :
    Callable P w K mg base 2 f ["self", "yard", "name", "level"] [] (spLoggerInit K) := by
  refine F.call0 sc_Logger_init (fun vs H Q E h => ?_) (fun cdv A outer s H vs Q E hr h => ?_) (fun _ _ _ _ _ _ us hl => match us, hl with | [_, _, _, _], _ => rfl)
  · obtain ⟨p, dx, y, name, lev, rfl, _⟩ := h; rfl
  obtain ⟨p, dx, y, name, lev, rfl, hp, hQ⟩ := h
  refine ⟨_, (pss_cons (ps_expr (pe_cf T.cf_Filterer_init c_Filterer_init (hr.mono (by decide)) (pe_glob (v := .ref _) (by rfl) T.g_Filterer rfl) (pa_cons (pv 0) pa_nil)))
      (pss_cons (ps_fld (pv 0) (pv 1) rfl)
      (pss_cons (ps_fld (pv 0) (pv 2) rfl)
      (pss_cons (ps_fld (pv 0) (pv 3) rfl)
      (pss_cons (ps_fld (pv 0) pe_bl rfl)
      (pss_cons (ps_fld (pv 0) pe_bl rfl)
      (pss_cons (ps_fld (pv 0) (pe_lst pa_nil) rfl)
      (pss_one (ps_fld (pv 0) pe_non rfl))))))))), ?_⟩
  refine ⟨rfl, _, rfl, _, p, dx, [], rfl, hp, T.c_Logger, T.n_Logger_filters, (by decide), fun l hl => ?_⟩
  refine ⟨_, rfl, _, rfl, p, _, dx, _, rfl, upd_same, T.c_Logger, T.n_Logger_yard, (by show 1 < 1000; decide), ?_⟩
  rw [upd_upd]
  refine ⟨_, rfl, _, rfl, p, _, dx, _, rfl, upd_same, T.c_Logger, T.n_Logger_name, (by show 2 < 1000; decide), ?_⟩
  rw [upd_upd]
  refine ⟨_, rfl, _, rfl, p, _, dx, _, rfl, upd_same, T.c_Logger, T.n_Logger_level, (by show 3 < 1000; decide), ?_⟩
  rw [upd_upd]
  refine ⟨_, rfl, p, _, dx, _, rfl, upd_same, T.c_Logger, T.n_Logger_propagate, (by show 4 < 1000; decide), ?_⟩
  rw [upd_upd]
  refine ⟨_, rfl, p, _, dx, _, rfl, upd_same, T.c_Logger, T.n_Logger_disabled, (by show 5 < 1000; decide), ?_⟩
  rw [upd_upd]
  refine ⟨(by show 0 ≤ sizeLine; decide), fun h hh => ?_⟩
  obtain ⟨nhp, hh1⟩ := upd_none hh
  obtain ⟨nhl, hh2⟩ := upd_none hh1
  refine ⟨_, rfl, p, _, dx, _, rfl, (by rw [upd_ne (Ne.symm nhp)]; exact upd_same), T.c_Logger, T.n_Logger_handlers, (by show 6 < 1000; decide), ?_⟩
  refine ⟨_, rfl, p, _, dx, _, rfl, upd_same, T.c_Logger, T.n_Logger_parent, (by show 7 < 1000; decide), ?_⟩
  rw [upd_upd]
  have nlp : l ≠ p := fun z => by rw [z, hp] at hl; cases hl
  refine hQ _ l h (fun b o h1 h2 => ?_) hl hh2 (Ne.symm nhl) upd_same ?_ ?_
  · have n1 : b ≠ h := ne_of_none h2 hh2
    have n2 : b ≠ l := ne_of_none h2 hl
    rw [upd_ne h1, upd_ne n1, upd_ne h1, upd_ne n2]; exact h2
  · rw [upd_ne nlp, upd_ne (Ne.symm nhl), upd_ne nlp]; exact upd_same
  · rw [upd_ne nhp]; exact upd_same
end
end K17

set_option Elab.async false
set_option linter.all false
set_option maxRecDepth 100000
set_option maxHeartbeats 0
namespace K17
open PySem PySem.Spec PyProof.Rows L2 RC
section
variable {P : Program} {w : World} {K : PySem.W.Frag} {mg : Str → Option Value} {base : Heap}
/-! ### a yard is made -/
/-- H came from H0; ns: what is still being changed; L: what was laid since -/
structure Fr (H0 : Hp) (p : Addr) (ns : List Addr) (L : List (Addr × HO)) (H : Hp) : Prop where
  kp : ∀ b o, b ≠ p → H0 b = some o → H b = some o
  has : ∀ x ∈ L, x.1 ∉ ns ∧ H0 x.1 = none ∧ H x.1 = some x.2
  live : ∀ n ∈ ns, ∃ o, H n = some o
  old : ∀ n ∈ ns, n = p ∨ H0 n = none
  mem : p ∈ ns
section
variable {H0 H H2 : Hp} {p : Addr} {ns : List Addr} {L : List (Addr × HO)}
theorem Fr.none (F : Fr H0 p ns L H) {q : Addr} (h : H q = none) : H0 q = none := by
  cases e : H0 q with
  | none => rfl
  | some o =>
    by_cases c : q = p
    · subst c; obtain ⟨o', e'⟩ := F.live _ F.mem; rw [e'] at h; cases h
    · rw [F.kp q o c e] at h; cases h
theorem Fr.notin (F : Fr H0 p ns L H) {q : Addr} (h : H q = Option.none) : q ∉ ns := fun z => by obtain ⟨o, e⟩ := F.live q z; rw [e] at h; cases h
theorem Fr.to (F : Fr H0 p ns L H) (k : ∀ b o, b ∉ ns → H b = some o → H2 b = some o) (l : ∀ n ∈ ns, ∃ o, H2 n = some o) : Fr H0 p ns L H2 where
  kp := fun b o hb e => k b o (fun z => by rcases F.old b z with c | c; exact hb c; rw [c] at e; cases e) (F.kp b o hb e)
  has := fun x hx => ⟨(F.has x hx).1, (F.has x hx).2.1, k _ _ (F.has x hx).1 (F.has x hx).2.2⟩
  live := l
  old := F.old
  mem := F.mem
theorem Fr.cons (F : Fr H0 p ns L H) {q : Addr} {o : HO} (h1 : q ∉ ns) (h2 : H0 q = Option.none) (h3 : H q = some o) : Fr H0 p ns ((q, o) :: L) H where
  kp := F.kp
  has := fun x hx => by
    rcases List.mem_cons.mp hx with c | c
    · subst c; exact ⟨h1, h2, h3⟩
    · exact F.has x c
  live := F.live
  old := F.old
  mem := F.mem
theorem Fr.set (F : Fr H0 p ns L H) {o : HO} {q : Addr} (hq : q ∈ ns) (e : upd H q o = H2) : Fr H0 p ns L H2 := by
  subst e
  refine F.to (fun b u h1 h2 => ?_) (fun n hn => ?_)
  · rw [upd_ne (fun z => h1 (by rw [z]; exact hq))]; exact h2
  · by_cases c : n = q
    · subst c; exact ⟨_, upd_same⟩
    · rw [upd_ne c]; exact F.live n hn
theorem Fr.new (F : Fr H0 p ns L H) {o : HO} {q : Addr} (hq : H q = Option.none) (e : upd H q o = H2) : Fr H0 p ns ((q, o) :: L) H2 := by
  subst e
  refine (F.to (H2 := upd H q o) (fun b u h1 h2 => same_new hq _ _ _ h2) (fun n hn => ?_)).cons (F.notin hq) (F.none hq) upd_same
  obtain ⟨u, hu⟩ := F.live n hn
  exact ⟨u, same_new hq _ _ _ hu⟩
/-- one more is being changed -/
theorem Fr.own (F : Fr H0 p ns L H) {o : HO} {q : Addr} (hq : H q = Option.none) (e : upd H q o = H2) : Fr H0 p (q :: ns) L H2 := by
  have G := F.new hq e
  subst e
  refine ⟨G.kp, fun x hx => ?_, fun n hn => ?_, fun n hn => ?_, List.mem_cons_of_mem _ F.mem⟩
  · have g := F.has x hx
    refine ⟨fun z => ?_, g.2.1, (G.has x (List.mem_cons_of_mem _ hx)).2.2⟩
    rcases List.mem_cons.mp z with c | c
    · rw [c, hq] at g; cases g.2.2
    · exact g.1 c
  · rcases List.mem_cons.mp hn with c | c
    · subst c; exact ⟨_, upd_same⟩
    · exact G.live n c
  · rcases List.mem_cons.mp hn with c | c
    · subst c; exact .inr (F.none hq)
    · exact F.old n c
theorem Fr.get (F : Fr H0 p ns L H) {x : Addr × HO} (h : x ∈ L) : H x.1 = some x.2 := (F.has x h).2.2
theorem Fr.putf (F : Fr H0 p ns L H) {o o' : HO} {q : Addr} (hq : H q = Option.none) (e : upd (upd H q o) p o' = H2) : Fr H0 p ns ((q, o) :: L) H2 := (F.new hq rfl).set F.mem e
theorem Fr.ownf (F : Fr H0 p ns L H) {o o' : HO} {q : Addr} (hq : H q = Option.none) (e : upd (upd H q o) p o' = H2) : Fr H0 p (q :: ns) L H2 ∧ H2 q = some o := by
  have G := F.own hq (o := o) rfl
  refine ⟨G.set (List.mem_cons_of_mem _ F.mem) e, ?_⟩
  have n : q ≠ p := fun z => F.notin hq (by rw [z]; exact F.mem)
  rw [← e, upd_ne n]; exact upd_same
theorem Fr.same (F : Fr H0 p ns L H) (s : Same H H2) : Fr H0 p ns L H2 := F.to (fun b o _ e => s b o e) (fun n hn => let ⟨o, e⟩ := F.live n hn; ⟨o, s _ _ e⟩)
theorem Fr.start {o : HO} (h : H0 p = some o) : Fr H0 p [p] [] H0 where
  kp := fun _ _ _ e => e
  has := fun _ h => nomatch h
  live := fun n hn => by cases List.mem_singleton.mp hn; exact ⟨o, h⟩
  old := fun n hn => .inl (List.mem_singleton.mp hn)
  mem := List.mem_singleton.mpr rfl
end
def yF (clk : Int) (st fi na nu lm md hn fr rt lr : Addr) : List (Str × V) := [("clock", .int clk), ("stream_texts", .ref st), ("file_rows", .ref fi), ("names_of", .ref na), ("numbers_of", .ref nu), ("bar_level", .int 0), ("logger_map", .ref lm), ("made", .ref md), ("handler_names", .ref hn), ("failure_rows", .ref fr), ("root", .ref rt), ("last_resort", .ref lr)]
/-- where the parts of a yard lie -/
structure YParts where
  (st fi na nu lm md hn fr rt lr rl rh ll : Addr)
def YParts.L (K : PySem.W.Frag) (y : Addr) (q : YParts) (rd ld : Addr) : List (Addr × HO) := [(q.ll, .lst []), (q.lr, .ins (He.ga K "StreamHandler") ld (hF q.ll y ++ ([("stream", .str "stderr")] : List (Str × V)))), (q.rh, .lst []), (q.rl, .lst []), (q.rt, .ins (CL K) rd (lF q.rl y "root" 30 q.rh .non)), (q.fr, .lst []), (q.hn, .dK []), (q.lm, .dK []), (q.nu, .dK (kv_FIRST_NUMBERS.map fun q => (q.1, q.2.v K))), (q.na, .dK (kv_FIRST_NAMES.map fun q => (q.1, q.2.v K))), (q.fi, .dK []), (q.st, .dK [])]
structure YNew (K : PySem.W.Frag) (H0 H : Hp) (y dy : Addr) (clk : Int) (q : YParts) : Prop where
  fr : ∃ rd ld, Fr H0 y [q.md, y] (q.L K y rd ld) H
  y : H y = some (.ins (CY K) dy (yF clk q.st q.fi q.na q.nu q.lm q.md q.hn q.fr q.rt q.lr))
  md : H q.md = some (.lst [])
def spYardInit (K : PySem.W.Frag) : Sp := fun vs H Q _ => ∃ (p dx : Addr) (clk : Int), vs = [.ref p, .int clk] ∧ H p = some (.ins (CY K) dx []) ∧ ∀ (H' : Hp) (q : YParts), YNew K H H' p dx clk q → Q .non H'
theorem ok_yard_init {f : Addr} (T : Txt P w K mg) (F : Stands K "__init__" "Yard.__init__" s_Yard_init [.int 0] f)
    (c_Logger_init : Callable P w K mg base 2 (He.ma K (He.ga K "Logger") "__init__") ["self", "yard", "name", "level"] [] (spLoggerInit K))
    (c_StreamHandler_init_d1 : Callable P w K mg base 3 (He.ma K (He.ga K "StreamHandler") "__init__") ["self", "yard", "stream"] [.str "stderr"] (spStreamInit K)) :
    Callable P w K mg base 5 f ["self", "now"] [.int 0] (spYardInit K) := by
  refine F.call sc_Yard_init 1 0 (fun vs H Q E h => ?_) (fun cdv A outer s H vs Q E hr h => ?_) (fun z => nomatch z) fun _ => ⟨rfl, fun _ _ _ _ _ _ _ us its hl hi => match us, hl, its, hi with | [_], _, [_], _ => ⟨_, rfl, rfl⟩⟩
  · obtain ⟨p, dx, clk, rfl, _⟩ := h; rfl
  obtain ⟨p, dx, clk, rfl, hp, hQ⟩ := h
  refine ⟨_, (pss_cons (ps_fld (pv 0) (pv 1) rfl)
      (pss_cons (ps_fld (pv 0) pe_dnewK rfl)
      (pss_cons (ps_fld (pv 0) pe_dnewK rfl)
      (pss_cons (ps_fld (pv 0) (pe_callTy (RB.call_dictK T.t_FIRST_NAMES) (by rfl) T.b_dict (by decide +kernel) (pa_cons (pe_glob (v := .ref _) (by rfl) T.g_FIRST_NAMES rfl) pa_nil)) rfl)
      (pss_cons (ps_fld (pv 0) (pe_callTy (RB.call_dictK T.t_FIRST_NUMBERS) (by rfl) T.b_dict (by decide +kernel) (pa_cons (pe_glob (v := .ref _) (by rfl) T.g_FIRST_NUMBERS rfl) pa_nil)) rfl)
      (pss_cons (ps_fld (pv 0) pe_int rfl)
      (pss_cons (ps_fld (pv 0) pe_dnewK rfl)
      (pss_cons (ps_fld (pv 0) (pe_lst pa_nil) rfl)
      (pss_cons (ps_fld (pv 0) pe_dnewK rfl)
      (pss_cons (ps_fld (pv 0) (pe_lst pa_nil) rfl)
      (pss_cons (ps_fld (pv 0) (pe_mk T.k_Logger T.g_Logger c_Logger_init (hr.mono (by decide)) (by rfl) (pa_cons (pv 0) (pa_cons pe_str (pa_cons (pe_gi (by rfl) T.g_WARNING) pa_nil)))) rfl)
      (pss_cons (ps_fld (pv 0) (pe_mk T.k_StreamHandler T.g_StreamHandler c_StreamHandler_init_d1 (hr.mono (by decide)) (by rfl) (pa_cons (pv 0) pa_nil)) rfl)
      (pss_one (ps_expr (pe_bm0 PySem.F.plainAttrs_list PySem.F.slot_list_pop PySem.F.type_list_pop mt_pop (pe_fld (pv 0) rfl)))))))))))))))), ?_⟩
  have F0 := Fr.start hp
  refine ⟨_, rfl, _, rfl, p, _, dx, _, rfl, hp, T.c_Yard, T.n_Yard_clock, (by show 0 < 1000; decide), ?_⟩
  generalize e1 : upd H p _ = H1
  have F1 := F0.set List.mem_cons_self e1
  have p1 := congrFun e1.symm p; rw [upd_same] at p1
  clear e1
  intro st h_st
  refine ⟨_, rfl, p, _, dx, _, rfl, same_new h_st _ _ _ p1, T.c_Yard, T.n_Yard_stream_texts, (by show 1 < 1000; decide), ?_⟩
  generalize e : upd (upd H1 st _) p _ = H2
  have F2 := F1.putf h_st e
  have p2 := congrFun e.symm p; rw [upd_same] at p2
  clear e
  intro fi h_fi
  refine ⟨_, rfl, p, _, dx, _, rfl, same_new h_fi _ _ _ p2, T.c_Yard, T.n_Yard_file_rows, (by show 2 < 1000; decide), ?_⟩
  generalize e : upd (upd H2 fi _) p _ = H3
  have F3 := F2.putf h_fi e
  have p3 := congrFun e.symm p; rw [upd_same] at p3
  clear e
  refine ⟨rfl, fun na h_na => ?_⟩
  refine ⟨_, rfl, p, _, dx, _, rfl, same_new h_na _ _ _ p3, T.c_Yard, T.n_Yard_names_of, (by show 3 < 1000; decide), ?_⟩
  generalize e : upd (upd H3 na _) p _ = H4
  have F4 := F3.putf h_na e
  have p4 := congrFun e.symm p; rw [upd_same] at p4
  clear e
  refine ⟨rfl, fun nu h_nu => ?_⟩
  refine ⟨_, rfl, p, _, dx, _, rfl, same_new h_nu _ _ _ p4, T.c_Yard, T.n_Yard_numbers_of, (by show 4 < 1000; decide), ?_⟩
  generalize e : upd (upd H4 nu _) p _ = H5
  have F5 := F4.putf h_nu e
  have p5 := congrFun e.symm p; rw [upd_same] at p5
  clear e
  refine ⟨_, rfl, p, _, dx, _, rfl, p5, T.c_Yard, T.n_Yard_bar_level, (by show 5 < 1000; decide), ?_⟩
  generalize e : upd H5 p _ = H6
  have F6 := F5.set F5.mem e
  have p6 := congrFun e.symm p; rw [upd_same] at p6
  clear e
  intro lm h_lm
  refine ⟨_, rfl, p, _, dx, _, rfl, same_new h_lm _ _ _ p6, T.c_Yard, T.n_Yard_logger_map, (by show 6 < 1000; decide), ?_⟩
  generalize e : upd (upd H6 lm _) p _ = H7
  have F7 := F6.putf h_lm e
  have p7 := congrFun e.symm p; rw [upd_same] at p7
  clear e
  refine ⟨(by show 0 ≤ sizeLine; decide), fun md h_md => ?_⟩
  refine ⟨_, rfl, p, _, dx, _, rfl, same_new h_md _ _ _ p7, T.c_Yard, T.n_Yard_made, (by show 7 < 1000; decide), ?_⟩
  generalize e : upd (upd H7 md _) p _ = H8
  obtain ⟨F8, m8⟩ := F7.ownf h_md e
  have p8 := congrFun e.symm p; rw [upd_same] at p8
  have nmp : md ≠ p := fun z => F7.notin h_md (by rw [z]; exact F7.mem)
  clear e
  intro hn h_hn
  refine ⟨_, rfl, p, _, dx, _, rfl, same_new h_hn _ _ _ p8, T.c_Yard, T.n_Yard_handler_names, (by show 8 < 1000; decide), ?_⟩
  generalize e : upd (upd H8 hn _) p _ = H9
  have F9 := F8.putf h_hn e
  have p9 := congrFun e.symm p; rw [upd_same] at p9
  have m9 : H9 md = some (.lst []) := by rw [← e, upd_ne nmp]; exact same_new h_hn _ _ _ m8
  clear e
  refine ⟨(by show 0 ≤ sizeLine; decide), fun fr h_fr => ?_⟩
  refine ⟨_, rfl, p, _, dx, _, rfl, same_new h_fr _ _ _ p9, T.c_Yard, T.n_Yard_failure_rows, (by show 9 < 1000; decide), ?_⟩
  generalize e : upd (upd H9 fr _) p _ = H10
  have F10 := F9.putf h_fr e
  have p10 := congrFun e.symm p; rw [upd_same] at p10
  have m10 : H10 md = some (.lst []) := by rw [← e, upd_ne nmp]; exact same_new h_fr _ _ _ m9
  clear e
  -- root
  refine ⟨_, rfl, fun rt rd h_rt h_rd hne => ?_⟩
  refine ⟨rt, rd, p, "root", 30, rfl, upd_same, fun Hr rl rh k1 k2 k3 k4 k5 k6 k7 => ⟨rfl, ?_⟩⟩
  have sr : Same H10 Hr := made_same h_rt h_rd k1
  obtain ⟨k2a, k2⟩ := upd_none k2
  obtain ⟨k3a, k3⟩ := upd_none k3
  have k2 := (upd_none k2).2
  have k3 := (upd_none k3).2
  have Fr1 := (((F10.same sr).cons (F10.notin h_rt) (F10.none h_rt) k5).cons (F10.notin k2) (F10.none k2) k6).cons (F10.notin k3) (F10.none k3) k7
  have pr := sr _ _ p10
  have mr := sr _ _ m10
  refine ⟨_, rfl, p, _, dx, _, rfl, pr, T.c_Yard, T.n_Yard_root, (by show 10 < 1000; decide), ?_⟩
  generalize e : upd Hr p _ = H11
  have F11 := Fr1.set Fr1.mem e
  have p11 := congrFun e.symm p; rw [upd_same] at p11
  have m11 : H11 md = some (.lst []) := by rw [← e, upd_ne nmp]; exact mr
  clear e
  -- last_resort
  refine ⟨_, rfl, fun lr ld h_lr h_ld hne2 => ?_⟩
  have npl : lr ≠ p := fun z => by rw [z, p11] at h_lr; cases h_lr
  have nml : lr ≠ md := fun z => by rw [z, m11] at h_lr; cases h_lr
  have t1 : ∀ C fs, Same H11 (upd (upd H11 ld (.own lr)) lr (.ins C ld fs)) := fun C fs => made_same h_lr h_ld (fun _ _ _ e => e)
  refine ⟨lr, ld, p, dx, md, "stderr", _, [], rfl, upd_same, npl, t1 _ _ _ _ p11, rfl, rfl, t1 _ _ _ _ m11, (by decide), fun Hl ll l1 l2 l3 l4 l5 => ⟨rfl, ?_⟩⟩
  have l2b : H11 ll = none := (upd_none (upd_none l2).2).2
  have f12 : ∀ b o, b ∉ [md, p] → H11 b = some o → Hl b = some o := fun b o hb e => l1 b o (ne_of_none e h_lr) (fun z => hb (by rw [z]; exact List.mem_cons_self)) (t1 _ _ _ _ e)
  have p12 := l1 p _ (Ne.symm npl) (Ne.symm nmp) (t1 _ _ _ _ p11)
  have F12 := ((F11.to f12 (fun n hn => by
    rcases List.mem_cons.mp hn with c | c
    · subst c; exact ⟨_, l5⟩
    · cases List.mem_singleton.mp c; exact ⟨_, p12⟩)).cons (F11.notin h_lr) (F11.none h_lr) l3).cons (F11.notin l2b) (F11.none l2b) l4
  refine ⟨_, rfl, p, _, dx, _, rfl, p12, T.c_Yard, T.n_Yard_last_resort, (by show 11 < 1000; decide), ?_⟩
  generalize e : upd Hl p _ = H13
  have F13 := F12.set F12.mem e
  have p13 := congrFun e.symm p; rw [upd_same] at p13
  have m13 : H13 md = some (.lst [.ref lr]) := by rw [← e, upd_ne nmp]; exact l5
  clear e
  refine ⟨_, rfl, p, _, dx, _, _, rfl, p13, T.c_Yard, T.n_Yard_made, rfl, .inl ⟨rfl, _, SqL.of m13⟩, md, _, _, rfl, rfl, m13, rfl, ?_⟩
  have F14 := F13.set (o := .lst []) List.mem_cons_self rfl
  refine hQ _ ⟨st, fi, na, nu, lm, md, hn, fr, rt, lr, rl, rh, ll⟩ ⟨⟨rd, ld, F14⟩, ?_, upd_same⟩
  rw [upd_ne (Ne.symm nmp)]; exact p13
end
end K17

set_option Elab.async false
set_option linter.all false
set_option maxRecDepth 100000
set_option maxHeartbeats 0
namespace K17
open PySem PySem.Spec PyProof.Rows L2 RC
section
variable {P : Program} {w : World} {K : PySem.W.Frag} {mg : Str → Option Value} {base : Heap}
/-! ### names of loggers -/
def signs : Str := "abcdefghijklmnopqrstuvwxyzABCDEFGHIJKLMNOPQRSTUVWXYZ0123456789_"
def partB (t : Str) : Bool := decide (t ≠ "") && t.cps.toList.all fun c => decide (c ∈ signs.cps.toList)
theorem take_more {α : Type} {l : List α} {i : Nat} {c : α} (h : l[i]? = some c) : l.take (i + 1) = l.take i ++ [c] := by
  rw [List.take_add_one, h]; rfl
theorem yes_if {σ : L2.St} {H : Hp} {A B : Hp → Prop} (h : A H) : tYes σ H (fun b H3 => if b = true then A H3 else B H3) := by
  show (if true = true then A H else B H)
  rw [if_pos rfl]; exact h
def spIsPart : Sp := fun vs H Q _ => ∃ t : Str, vs = [.str t] ∧ t.cps.size ≤ 1000000 ∧ ∀ H', Same H H' → Q (.bl (partB t)) H'
theorem ok_is_part {f : Addr} (T : Txt P w K mg) (F : Stands K "is_part" "is_part" s_is_part [] f) : Callable P w K mg base 1 f ["text"] [] spIsPart := by
  refine F.call0 sc_is_part (fun vs H Q E h => ?_) (fun cdv A outer s H vs Q E hr h => ?_) (fun _ _ _ _ _ _ us hl => match us, hl with | [_], _ => rfl)
  · obtain ⟨t, rfl, _⟩ := h; rfl
  obtain ⟨t, rfl, ht, hQ⟩ := h
  refine ⟨_, (pss_one (ps_ret (pe_and (pe_cmpR op_ne (pv 0) pe_str (nomark _)) (pe_one (pe_callB (cr_all rfl) (by rfl) T.b_all (by decide +kernel) (pa_cons (pe_lc (own := [("sign", 1)]) (by rfl) sc_is_part.nd (pi_str (pv 0)) (blkOk_by (own := [("sign", 1)]) (N := nm_is_part) (sc := defScope s_is_part) (by decide +kernel)) (fun _ _ _ _ _ => (pg_name (i := 1) sc_is_part.nd rfl (by first | exact Or.inl rfl | exact Or.inr rfl))) (fun _ _ _ _ _ => pts_nil) (fun _ _ _ _ _ => (pe_cmpR op_inS (pv 1) (pe_gs (by rfl) T.g_SIGNS) (by rfl)))) pa_nil)))))), ?_⟩
  refine ⟨_, rfl, rfl, _, rfl, ?_⟩
  by_cases e : t = ""
  · subst e
    exact iteF' (by decide +kernel) (hQ H (Same.refl H))
  refine iteT' (by simp [e]) ?_
  refine ⟨_, rfl, t, rfl, fun D hD => ?_⟩
  refine lc_it walk_str (fun i H' => H' = upd H D (.lst ((t.cps.toList.take i).map fun c => V.bl (decide (c ∈ signs.cps.toList))))) rfl (fun _ _ _ _ => trivial) (fun i x H1 H2 hi hp hy => ?_) (fun H1 hp => ?_)
  · obtain ⟨rfl, c, hc, rfl⟩ := hy
    subst hp
    have hc' : t.cps.toList[i]? = some c := by simpa using hc
    refine ⟨rfl, yes_if ?_⟩
    refine ⟨_, rfl, c, signs, rfl, rfl, _, upd_same, ?_, ?_⟩
    · rw [List.length_map, List.length_take]; rw [sizeLine_eq]; omega
    · rw [upd_upd, take_more hc', List.map_append]; rfl
  · subst hp
    refine ⟨D, t.cps.toList.map fun c => decide (c ∈ signs.cps.toList), rfl, SqL.of ?_, ?_⟩
    · rw [upd_same, List.map_map, ← Array.length_toList, List.take_length]; rfl
    · have e2 : ((t.cps.toList.map fun c => decide (c ∈ signs.cps.toList)).all id) = partB t := by
        unfold partB; rw [List.all_map, decide_eq_true e]; rfl
      rw [e2]
      exact hQ _ (same_new hD _)
def spAreParts : Sp := fun vs H Q _ => ∃ t : Str, vs = [.str t] ∧ t.cps.size ≤ 1000000 ∧ (Txt.split t ".").length ≤ 1000000 ∧ (∀ u ∈ Txt.split t ".", u.cps.size ≤ 1000000) ∧ ∀ H', Same H H' → Q (.bl ((Txt.split t ".").all partB)) H'
theorem ok_are_parts {f : Addr} (T : Txt P w K mg) (F : Stands K "are_parts" "are_parts" s_are_parts [] f) (c_is_part : Callable P w K mg base 1 (He.ga K "is_part") ["text"] [] spIsPart) : Callable P w K mg base 2 f ["thing"] [] spAreParts := by
  refine F.call0 sc_are_parts (fun vs H Q E h => ?_) (fun cdv A outer s H vs Q E hr h => ?_) (fun _ _ _ _ _ _ us hl => match us, hl with | [_], _ => rfl)
  · obtain ⟨t, rfl, _⟩ := h; rfl
  obtain ⟨t, rfl, ht, hN, hP, hQ⟩ := h
  refine ⟨_, (pss_one (ps_ret (pe_and (pe_callB call_isi (by rfl) T.b_isinstance (by decide +kernel) (pa_cons (pv 0) (pa_cons (pe_bltn (v := .ty "str") (u := .type "str") (by rfl) T.b_str (by decide +kernel) rfl) pa_nil))) (pe_one (pe_callB (cr_all rfl) (by rfl) T.b_all (by decide +kernel) (pa_cons (pe_lc (own := [("part", 1)]) (by rfl) sc_are_parts.nd (pi_list (pe_split (pv 0) pe_str)) (blkOk_by (own := [("part", 1)]) (N := nm_are_parts) (sc := defScope s_are_parts) (by decide +kernel)) (fun _ _ _ _ _ => (pg_name (i := 1) sc_are_parts.nd rfl (by first | exact Or.inl rfl | exact Or.inr rfl))) (fun _ _ _ _ _ => pts_nil) (fun _ _ _ _ _ => (pe_fn T.g_is_part c_is_part (hr.mono (by decide)) (by rfl) (pa_cons (pv 1) pa_nil)))) pa_nil)))))), ?_⟩
  refine ⟨_, rfl, _, _, _, _, _, rfl, .ty _, .base (.str _), kit_ty (b := "str") (by decide +kernel), _, rfl, iteT ?_⟩
  refine ⟨_, rfl, ⟨t, rfl⟩, t, ".", rfl, rfl, (by decide), (by rw [sizeLine_eq]; exact Nat.le_trans (Nat.add_le_add_right ht 2) (by decide)), fun p hp => ?_⟩
  refine ⟨p, rfl, ⟨_, SqL.of upd_same⟩, fun D hD => ?_⟩
  have npD : p ≠ D := ne_of_none upd_same hD
  refine lc_it walk_list (fun i H' => Same (upd H p (.lst ((Txt.split t ".").map V.str))) H' ∧ H' D = some (.lst (((Txt.split t ".").take i).map fun u => V.bl (partB u)))) ⟨same_new hD _, upd_same⟩ (fun i H' _ h => SqL.of (h.1 _ _ upd_same)) (fun i x H1 H2 hi hp hy => ?_) (fun H1 h1 => ?_)
  · obtain ⟨rfl, hx⟩ := hy
    obtain ⟨h1, h2⟩ := hp
    rw [List.getElem?_map] at hx
    obtain ⟨u, hu, rfl⟩ := Option.map_eq_some_iff.mp hx
    rw [List.length_map] at hi
    refine ⟨rfl, yes_if ?_⟩
    refine ⟨_, rfl, u, rfl, hP u (List.mem_of_getElem? hu), fun H3 h3 => ⟨_, h3 _ _ h2, ?_, ?_, ?_⟩⟩
    · rw [List.length_map, List.length_take, sizeLine_eq]; omega
    · intro b o hb
      rw [upd_ne (ne_of_none hb hD)]; exact h3 _ _ (h1 _ _ hb)
    · rw [upd_same, take_more hu, List.map_append]; rfl
  · rw [List.length_map, List.take_length] at h1
    refine ⟨D, (Txt.split t ".").map partB, rfl, SqL.of ?_, ?_⟩
    · rw [h1.2, List.map_map]; rfl
    · rw [List.all_map]
      exact hQ _ ((same_new hp _).trans h1.1)
/-- the parent of a logger of one part -/
def spParentOf (K : PySem.W.Frag) : Sp := fun vs H Q _ => ∃ (y dy : Addr) (fs : List (Str × V)) (t : Str) (r : V), vs = [.ref y, .str t] ∧ H y = some (.ins (CY K) dy fs) ∧ fs.lookup ("root" : Str) = some r ∧ Txt.split t "." = [t] ∧ t.cps.size ≤ 1000000 ∧ ∀ H', Same H H' → Q r H'
theorem ok_parent_of {f : Addr} (T : Txt P w K mg) (F : Stands K "parent_of" "parent_of" s_parent_of [] f) : Callable P w K mg base 1 f ["yard", "name"] [] (spParentOf K) := by
  refine F.call0 sc_parent_of (fun vs H Q E h => ?_) (fun cdv A outer s H vs Q E hr h => ?_) (fun _ _ _ _ _ _ us hl => match us, hl with | [_, _], _ => rfl)
  · obtain ⟨y, dy, fs, t, r, rfl, _⟩ := h; rfl
  obtain ⟨y, dy, fs, t, r, rfl, hy, hr2, hs, ht, hQ⟩ := h
  refine ⟨_, (pss_cons (ps_set (i := 2) sc_parent_of.nd rfl (by first | exact Or.inl rfl | exact Or.inr rfl) (pe_split (pv 1) pe_str))
      (pss_cons (ps_for PassesOwn.never rfl (pi_range3 (by rfl) T.b_range (pa_cons (pe_op op_sub (pe_callB call_len (by rfl) T.b_len (by decide +kernel) (pa_cons (pv 2) pa_nil)) pe_int) (pa_cons pe_int (pa_cons (pe_un un_neg pe_int) pa_nil)))) (pg_name (i := 3) sc_parent_of.nd rfl (by first | exact Or.inl rfl | exact Or.inr rfl)) (pss_cons ps_never
      (pss_one (ps_if (pt_cmpR op_notN (pv 4) pe_non (nomark _)) (pss_one (ps_ret (pv 4))) pss_nil))))
      (pss_one (ps_ret (pe_fld (pv 0) rfl))))), ?_⟩
  refine ⟨_, rfl, ⟨t, rfl⟩, t, ".", rfl, rfl, (by decide), (by rw [sizeLine_eq]; exact Nat.le_trans (Nat.add_le_add_right ht 2) (by decide)), fun p hp => ?_⟩
  have q1 : upd H p (.lst ((Txt.split t ".").map V.str)) p = some (.lst [.str t]) := by rw [upd_same, hs]; rfl
  generalize e : upd H p (.lst ((Txt.split t ".").map V.str)) = H1 at q1
  have s1 : Same H H1 := by rw [← e]; exact same_new hp _
  refine ⟨_, rfl, .ref p, 1, rfl, .inl ⟨_, SqL.of q1, rfl⟩, 1, 1, rfl, rfl, 1, rfl, 0, 0, -1, 0, rfl, ⟨by decide, by decide, by decide, by decide⟩, ?_⟩
  refine for_it walk_rangeC (fun i σ H' => σ = [some (.ref y), some (.str t), some (.ref p), none, none] ∧ H' = H1) ⟨rfl, rfl⟩ (fun _ _ _ _ _ => trivial) (fun i x σ H2 H3 hi _ _ => absurd hi (Nat.not_lt_zero _)) (fun σ H2 h => ?_)
  obtain ⟨rfl, rfl⟩ := h
  exact ⟨_, rfl, y, _, dy, fs, _, rfl, s1 _ _ hy, T.c_Yard, T.n_Yard_root, hr2, hQ _ s1⟩
/-- the one logger of a yard is placed -/
def spPlace (K : PySem.W.Frag) : Sp := fun vs H Q _ => ∃ (y dy lm lg dl l h : Addr) (fs : List (Str × V)) (t : Str) (lev : Int) (r par : V), vs = [.ref y] ∧ H y = some (.ins (CY K) dy fs) ∧ fs.lookup ("root" : Str) = some r ∧ fs.lookup ("logger_map" : Str) = some (.ref lm) ∧ y ≠ lg ∧
  H lm = some (.dK [(Sum.inr t, .ref lg)]) ∧ H lg = some (.ins (CL K) dl (lF l y t lev h par)) ∧ Txt.split t "." = [t] ∧ t.cps.size ≤ 1000000 ∧ ∀ H', SameBut lg H H' → H' lg = some (.ins (CL K) dl (lF l y t lev h r)) → Q .non H'
theorem ok_place {f : Addr} (T : Txt P w K mg) (F : Stands K "place_loggers" "place_loggers" s_place_loggers [] f) (c_parent_of : Callable P w K mg base 1 (He.ga K "parent_of") ["yard", "name"] [] (spParentOf K)) : Callable P w K mg base 2 f ["yard"] [] (spPlace K) := by
  refine F.call0 sc_place_loggers (fun vs H Q E h => ?_) (fun cdv A outer s H vs Q E hr h => ?_) (fun _ _ _ _ _ _ us hl => match us, hl with | [_], _ => rfl)
  · obtain ⟨y, dy, lm, lg, dl, l, h, fs, t, lev, r, par, rfl, _⟩ := h; rfl
  obtain ⟨y, dy, lm, lg, dl, l, h, fs, t, lev, r, par, rfl, hy, hroot, hmap, nyl, hlm, hlg, hs, ht, hQ⟩ := h
  refine ⟨_, (pss_one (ps_for PassesOwn.never rfl (pi_list (pe_callTy (call_list_dK rfl) (by rfl) T.b_list (by decide +kernel) (pa_cons (pe_fld (pv 0) rfl) pa_nil))) (pg_name (i := 1) sc_place_loggers.nd rfl (by first | exact Or.inl rfl | exact Or.inr rfl)) (pss_one (ps_fld (pe_dget (hu_of hr) (pe_fld (pv 0) rfl) (pv 1) (fun _ _ => rfl)) (pe_fn T.g_parent_of c_parent_of (hr.mono (by decide)) (by rfl) (pa_cons (pv 0) (pa_cons (pv 1) pa_nil))) rfl)))), ?_⟩
  refine ⟨_, rfl, y, _, dy, fs, _, rfl, hy, T.c_Yard, T.n_Yard_logger_map, hmap, lm, _, rfl, hlm, fun q hq => ?_⟩
  have q1 : upd H q (.lst ([((Sum.inr t, V.ref lg) : Key × V)].map fun kv => kV kv.1)) q = some (.lst [.str t]) := upd_same
  generalize e : upd H q (.lst ([((Sum.inr t, V.ref lg) : Key × V)].map fun kv => kV kv.1)) = H1 at q1
  have s1 : Same H H1 := by rw [← e]; exact same_new hq _
  have nql : q ≠ lg := fun z => by rw [z, hlg] at hq; cases hq
  refine ⟨q, rfl, ⟨_, SqL.of q1⟩, ?_⟩
  refine for_it (walk_list (xs := [.str t])) (fun i σ H' => H' q = some (.lst [.str t]) ∧ (i = 0 → σ = [some (.ref y), none] ∧ H' = H1) ∧ (i = 1 → SameBut lg H H' ∧ H' lg = some (.ins (CL K) dl (lF l y t lev h r)))) ⟨q1, fun _ => ⟨rfl, rfl⟩, fun z => nomatch z⟩ (fun i σ H' _ h => SqL.of h.1) (fun i x σ H2 H3 hi h hy => ?_) (fun σ H2 h => ?_)
  · obtain rfl : i = 0 := by simpa using hi
    obtain ⟨rfl, rfl⟩ := h.2.1 rfl
    obtain ⟨rfl, hx⟩ := hy
    cases hx
    refine ⟨_, rfl, _, rfl, y, dy, fs, t, r, rfl, s1 _ _ ‹H y = _›, hroot, hs, ht, fun H2 s2 => ?_⟩
    have s12 := s1.trans s2
    refine ⟨_, rfl, y, _, dy, fs, _, rfl, s12 _ _ ‹H y = _›, T.c_Yard, T.n_Yard_logger_map, hmap, _, rfl, lm, .ref lg, rfl, ?_, lg, _, dl, _, rfl, s12 _ _ hlg, T.c_Logger, T.n_Logger_parent, (by show 8 < 1000; decide), ?_⟩
    · have g := DGet.k (k := Sum.inr t) (s12 _ _ hlm)
      rw [valV_pos rfl] at g; exact g
    · refine ⟨by rw [upd_ne nql]; exact s2 _ _ q1, (fun z => nomatch z), fun _ => ⟨?_, upd_same⟩⟩
      intro b o hb he
      rw [upd_ne hb]; exact s12 _ _ he
  · exact hQ _ (h.2.2 rfl).1 (h.2.2 rfl).2
/-- the first logger of a yard, of one part -/
def spGetLogger (K : PySem.W.Frag) : Sp := fun vs H Q _ => ∃ (y dy lm : Addr) (fs : List (Str × V)) (t : Str) (r : V), vs = [.ref y, .str t] ∧ H y = some (.ins (CY K) dy fs) ∧ fs.lookup ("root" : Str) = some r ∧ fs.lookup ("logger_map" : Str) = some (.ref lm) ∧ H lm = some (.dK []) ∧
  t ≠ "" ∧ t ≠ "root" ∧ Txt.split t "." = [t] ∧ partB t = true ∧ t.cps.size ≤ 1000000 ∧ ∀ (H' : Hp) (lg dl l h : Addr), SameBut lm H H' → H lg = none → H l = none → H h = none → l ≠ h → H' lg = some (.ins (CL K) dl (lF l y t 0 h r)) → H' l = some (.lst []) → H' h = some (.lst []) → H' lm = some (.dK [(Sum.inr t, .ref lg)]) → Q (.ref lg) H'
theorem ok_getLogger {f : Addr} (T : Txt P w K mg) (F : Stands K "getLogger" "Yard.getLogger" s_Yard_getLogger [.str ""] f) (c_are_parts : Callable P w K mg base 2 (He.ga K "are_parts") ["thing"] [] spAreParts)
    (c_Logger_init : Callable P w K mg base 2 (He.ma K (He.ga K "Logger") "__init__") ["self", "yard", "name", "level"] [] (spLoggerInit K)) (c_place_loggers : Callable P w K mg base 2 (He.ga K "place_loggers") ["yard"] [] (spPlace K)) :
    Callable P w K mg base 4 f ["self", "name"] [] (spGetLogger K) := by
  refine F.call sc_Yard_getLogger 2 1 (fun vs H Q E h => ?_) (fun cdv A outer s H vs Q E hr h => ?_) (fun z => nomatch z) fun _ => ⟨rfl, fun _ _ _ _ _ _ _ us its hl hi => match us, hl, its, hi with | [_, _], _, [_], _ => ⟨_, rfl, rfl⟩⟩
  · obtain ⟨y, dy, lm, fs, t, r, rfl, _⟩ := h; rfl
  obtain ⟨y, dy, lm, fs, t, r, rfl, hy, hroot, hmap, hlm, n1, n2, hs, hp, ht, hQ⟩ := h
  refine ⟨_, (pss_cons (ps_if (PW.pt (pw_or (pt_cmpR op_eq (pv 1) pe_str (nomark _)) (pw_or1 (pt_cmpR op_eq (pv 1) pe_str (nomark _))))) (pss_one (ps_ret (pe_fld (pv 0) rfl))) pss_nil)
      (pss_cons (ps_if (pt_not (pt_val (pe_fn T.g_are_parts c_are_parts (hr.mono (by decide)) (by rfl) (pa_cons (pv 1) pa_nil)))) (pss_one ps_never) pss_nil)
      (pss_cons (ps_if (pt_cmp (pc_dnotin (hu_of hr) (pv 1) (pe_fld (pv 0) rfl))) (pss_cons (ps_dput (hu_of hr) (pe_fld (pv 0) rfl) (pv 1) (pe_mk T.k_Logger T.g_Logger c_Logger_init (hr.mono (by decide)) (by rfl) (pa_cons (pv 0) (pa_cons (pv 1) (pa_cons (pe_gi (by rfl) T.g_NOTSET) pa_nil)))) rfl)
      (pss_one (ps_expr (pe_fn T.g_place_loggers c_place_loggers (hr.mono (by decide)) (by rfl) (pa_cons (pv 0) pa_nil))))) pss_nil)
      (pss_one (ps_ret (pe_dget (hu_of hr) (pe_fld (pv 0) rfl) (pv 1) (fun _ _ => rfl))))))), ?_⟩
  refine ⟨_, rfl, rfl, _, rfl, iteF' (by simp [n1]) ⟨_, rfl, rfl, _, rfl, iteF' (by simp [n2]) ?_⟩⟩
  refine ⟨_, rfl, t, rfl, ht, (by rw [hs]; show 1 ≤ 1000000; decide), (fun u hu => by rw [hs] at hu; cases List.mem_singleton.mp hu; exact ht), fun H1 s1 => ?_⟩
  refine ⟨_, rfl, iteF' (by rw [hs]; simp [hp]) ?_⟩
  refine ⟨_, rfl, _, rfl, y, _, dy, fs, _, rfl, s1 _ _ hy, T.c_Yard, T.n_Yard_logger_map, hmap, lm, _, rfl, DGet.k (k := Sum.inr t) (s1 _ _ hlm), _, rfl, iteT' (by rfl) ?_⟩
  refine ⟨_, rfl, _, rfl, fun lg dl hlg hdl hne => ?_⟩
  refine ⟨lg, dl, y, t, 0, rfl, upd_same, fun H2 l h k1 k2 k3 k4 k5 k6 k7 => ⟨rfl, ?_⟩⟩
  have s2 : Same H1 H2 := made_same hlg hdl k1
  have s12 := s1.trans s2
  have k2 := (upd_none (upd_none k2).2).2
  have k3 := (upd_none (upd_none k3).2).2
  refine ⟨_, rfl, y, _, dy, fs, _, rfl, s12 _ _ hy, T.c_Yard, T.n_Yard_logger_map, hmap, _, rfl, lm, _, rfl, DPut.k (k := Sum.inr t) (s12 _ _ hlm) (by decide), ?_⟩
  have q1 := s12 _ _ hlm
  have nlm : lg ≠ lm := fun z => by rw [z, q1] at k5; cases k5
  have nly : y ≠ lg := fun z => by rw [← z, s1 _ _ hy] at hlg; cases hlg
  have nym : y ≠ lm := fun z => by rw [z, hlm] at hy; cases hy
  have nll : l ≠ lm := fun z => by rw [z, s1 _ _ hlm] at k2; cases k2
  have nhl : h ≠ lm := fun z => by rw [z, s1 _ _ hlm] at k3; cases k3
  generalize e : upd H2 lm _ = H3
  have m3 : H3 lm = some (.dK [(Sum.inr t, .ref lg)]) := by rw [← e]; exact upd_same
  have b3 : SameBut lm H2 H3 := by rw [← e]; exact SameBut.put
  clear e
  refine ⟨_, rfl, y, dy, lm, lg, dl, l, h, fs, t, 0, r, .non, rfl, b3 _ _ nym (s12 _ _ hy), hroot, hmap, nly, m3, b3 _ _ nlm k5, hs, ht, fun H4 b4 g4 => ?_⟩
  have m4 := b4 _ _ (Ne.symm nlm) m3
  refine ⟨_, rfl, y, _, dy, fs, _, rfl, b4 _ _ nly (b3 _ _ nym (s12 _ _ hy)), T.c_Yard, T.n_Yard_logger_map, hmap, _, rfl, lm, .ref lg, rfl, ?_, ?_⟩
  · have g := DGet.k (k := Sum.inr t) m4
    rw [valV_pos rfl] at g; exact g
  · have nlg : l ≠ lg := fun z => by rw [z, k5] at k6; cases k6
    have nhg : h ≠ lg := fun z => by rw [z, k5] at k7; cases k7
    refine hQ H4 lg dl l h (fun b o hb he => ?_) (s1.free hlg) (s1.free k2) (s1.free k3) k4 g4 (b4 _ _ nlg (b3 _ _ nll k6)) (b4 _ _ nhg (b3 _ _ nhl k7)) m4
    exact b4 _ _ (ne_of_none (s1 _ _ he) hlg) (b3 _ _ hb (s12 _ _ he))
end
end K17

set_option Elab.async false
set_option linter.all false
set_option maxRecDepth 100000
set_option maxHeartbeats 0
namespace K17
open PySem PySem.Spec PyProof.Rows L2 RC
section
variable {P : Program} {w : World} {K : PySem.W.Frag} {mg : Str → Option Value} {base : Heap}
/-! ### what the law draws -/
def spPick (K : PySem.W.Frag) : Sp := fun vs H Q _ => ∃ (s l p : Addr) (n : Nat) (xs : List V), vs = [.ref s, .ref p] ∧ Stm H s l n ∧ n ≤ 1000000 ∧ p ≠ s ∧ p ≠ l ∧ H p = some (.lst xs) ∧ 1 ≤ xs.length ∧ xs.length ≤ 1000 ∧ ∀ (H' : Hp) (x : V), Old s l H H' → Stm H' s l (n + 1) → x ∈ xs → Q x H'
theorem ok_pick {f : Addr} (T : Txt P w K mg) (F : Stands K "_law_pick" "_law_pick" s__law_pick [] f) (c__law_draw : Callable P w K mg base 1 (He.ga K "_law_draw") ["_law_s", "_law_many"] [] spDraw) : Callable P w K mg base 2 f ["_law_s", "_law_some"] [] (spPick K) := by
  refine F.call0 sc__law_pick (fun vs H Q E h => ?_) (fun cdv A outer s H vs Q E hr h => ?_) (fun _ _ _ _ _ _ us hl => match us, hl with | [_, _], _ => rfl)
  · obtain ⟨s, l, p, n, xs, rfl, _⟩ := h; rfl
  obtain ⟨s, l, p, n, xs, rfl, hs, hn, nps, npl, hp, hx1, hx2, hQ⟩ := h
  refine ⟨_, (pss_one (ps_ret (pe_ix ix_list (pv 1) (pe_fn T.g__law_draw c__law_draw (hr.mono (by decide)) (by rfl) (pa_cons (pv 0) (pa_cons (pe_callB call_len (by rfl) T.b_len (by decide +kernel) (pa_cons (pv 1) pa_nil)) pa_nil))) (fun _ _ => rfl)))), ?_⟩
  refine ⟨_, rfl, _, rfl, _, rfl, _, xs.length, rfl, .inl ⟨xs, SqL.of hp, rfl⟩, s, l, n, xs.length, rfl, hs, hn, by omega, by omega, fun H' d h1 h2 h3 h4 => ?_⟩
  obtain ⟨j, rfl⟩ := Int.eq_ofNat_of_zero_le h3
  have hj : j < xs.length := by omega
  refine ⟨p, xs, j, xs[j], rfl, rfl, SqL.of (h1 _ _ nps npl hp), atI_nat (by simp [hj]), ?_⟩
  exact hQ H' _ h1 h2 (List.getElem_mem hj)
theorem kit_not2 {K : PySem.W.Frag} {x a b : String} (h : kitB x a = some false) (h2 : kitB x b = some false) : PySem.W.kitAny K (.type x) [.type a, .type b] = some false := kitAny_cons (kit_ty h) (fun _ => kitAny_cons (kit_ty h2) (fun _ => kitAny_nil) (fun z => nomatch z)) (fun z => nomatch z)
theorem kit_is1 {K : PySem.W.Frag} {x a : String} {r : List Value} (h : kitB x a = some true) : PySem.W.kitAny K (.type x) (.type a :: r) = some true := kitAny_cons (kit_ty h) (fun z => nomatch z) (fun _ => rfl)
/-- two bools are the same -/
def spSameB : Sp := fun vs H Q _ => ∃ a b : Bool, vs = [.bl a, .bl b] ∧ ∀ H', Same H H' → Q (.bl (decide (a = b))) H'
theorem ok_same {f : Addr} (T : Txt P w K mg) (F : Stands K "_law_same" "_law_same" s__law_same [] f) : Callable P w K mg base 1 f ["_law_found", "_law_due"] [] spSameB := by
  refine F.call0 sc__law_same (fun vs H Q E h => ?_) (fun cdv A outer s H vs Q E hr h => ?_) (fun _ _ _ _ _ _ us hl => match us, hl with | [_, _], _ => rfl)
  · obtain ⟨a, b, rfl, _⟩ := h; rfl
  obtain ⟨a, b, rfl, hQ⟩ := h
  refine ⟨_, (pss_cons (ps_if (pt_val (pe_callB call_isiT (by rfl) T.b_isinstance (by decide +kernel) (pa_cons (pv 1) (pa_cons (pe_tup (pa_cons (pe_bltn (v := .ty "list") (u := .type "list") (by rfl) T.b_list (by decide +kernel) rfl) (pa_cons (pe_bltn (v := .ty "tuple") (u := .type "tuple") (by rfl) T.b_tuple (by decide +kernel) rfl) pa_nil))) pa_nil)))) (pss_cons (ps_if pt_never (pss_one (ps_ret pe_bl)) pss_nil)
      (pss_one ps_never)) pss_nil)
      (pss_cons (ps_if (pt_val (pe_callB call_isiT (by rfl) T.b_isinstance (by decide +kernel) (pa_cons (pv 1) (pa_cons (pe_tup (pa_cons (pe_bltn (v := .ty "bool") (u := .type "bool") (by rfl) T.b_bool (by decide +kernel) rfl) (pa_cons (pe_bltn (v := .ty "int") (u := .type "int") (by rfl) T.b_int (by decide +kernel) rfl) pa_nil))) pa_nil)))) (pss_one (ps_ret (pe_and (pe_callB call_isi (by rfl) T.b_isinstance (by decide +kernel) (pa_cons (pv 0) (pa_cons (pe_bltn (v := .ty "int") (u := .type "int") (by rfl) T.b_int (by decide +kernel) rfl) pa_nil))) (pe_and (pe_cmpR op_eq (pe_callB call_isi (by rfl) T.b_isinstance (by decide +kernel) (pa_cons (pv 0) (pa_cons (pe_bltn (v := .ty "bool") (u := .type "bool") (by rfl) T.b_bool (by decide +kernel) rfl) pa_nil))) (pe_callB call_isi (by rfl) T.b_isinstance (by decide +kernel) (pa_cons (pv 1) (pa_cons (pe_bltn (v := .ty "bool") (u := .type "bool") (by rfl) T.b_bool (by decide +kernel) rfl) pa_nil))) (nomark _)) (pe_one (pe_cmpR op_eq (pv 0) (pv 1) (nomark _))))))) pss_nil)
      (pss_one ps_never))), ?_⟩
  refine ⟨_, rfl, (by show 2 ≤ sizeLine; decide), fun p hp => ⟨_, p, _, _, _, false, rfl, upd_same, .cons (.ty _) (.cons (.ty _) .nil), .base (.bl b), kit_not2 (x := "bool") (a := "list") (b := "tuple") (by decide +kernel) (by decide +kernel), _, rfl, iteF ?_⟩⟩
  generalize e1 : upd H p _ = H1
  have s1 : Same H H1 := by rw [← e1]; exact same_new hp _
  refine ⟨_, rfl, (by show 2 ≤ sizeLine; decide), fun q hq => ⟨_, q, _, _, _, true, rfl, upd_same, .cons (.ty _) (.cons (.ty _) .nil), .base (.bl b), kit_is1 (x := "bool") (a := "bool") (by decide +kernel), _, rfl, iteT ?_⟩⟩
  generalize e2 : upd H1 q _ = H2
  have s2 : Same H H2 := by rw [← e2]; exact s1.trans (same_new hq _)
  refine ⟨_, rfl, _, _, _, _, _, rfl, .ty _, .base (.bl a), kit_ty (b := "int") (by decide +kernel), _, rfl, iteT ?_⟩
  refine ⟨_, rfl, _, _, _, _, _, rfl, .ty _, .base (.bl a), kit_ty (b := "bool") (r := true) (by decide +kernel), ?_⟩
  refine ⟨_, rfl, _, _, _, _, _, rfl, .ty _, .base (.bl b), kit_ty (b := "bool") (r := true) (by decide +kernel), ?_⟩
  refine ⟨rfl, _, rfl, iteT' (by rfl) ?_⟩
  refine ⟨_, rfl, _, rfl, rfl, ?_⟩
  have e : decide (V.bl a = V.bl b) = decide (a = b) := by simp
  rw [e]
  exact hQ _ s2
theorem join_size (y : Str) : ∀ ps : List Str, (Txt.join y ps).length ≤ (ps.map (·.length)).sum + ps.length * y.length := by
  intro ps
  rw [TL.join_eq, TL.len_tl, TL.tl_join]
  induction ps with
  | nil => exact Nat.zero_le _
  | cons p r ih =>
    cases r with
    | nil => show (TL.tl p).length ≤ _; rw [← TL.len_tl]; simp
    | cons q t =>
      show (TL.tl p ++ (TL.tl y ++ TL.joinL (TL.tl y) ((q :: t).map TL.tl))).length ≤ _
      rw [List.length_append, List.length_append, ← TL.len_tl, ← TL.len_tl]
      simp only [List.map_cons, List.sum_cons, List.length_cons] at ih ⊢
      rw [Nat.succ_mul]
      omega
theorem old_new {s l D : Addr} {H H' : Hp} {o : HO} (h : Old s l H H') (hD : H D = none) : Old s l H (upd H' D o) := fun b u h1 h2 e => by rw [upd_ne (ne_of_none e hD)]; exact h b u h1 h2 e
theorem _root_.RC.Stm.put {H : Hp} {s l D : Addr} {n : Nat} {o : HO} (h : Stm H s l n) (h1 : D ≠ s) (h2 : D ≠ l) : Stm (upd H D o) s l n := by
  obtain ⟨ne, ns, x, c, d, g1, g2, g3⟩ := h
  exact ⟨ne, ns, x, c, d, by rw [upd_ne (Ne.symm h1)]; exact g1, by rw [upd_ne (Ne.symm h2)]; exact g2, g3⟩
def parts5 : List Str := ["a", "b", "ab", "A", "_1"]
theorem len_add (a b : Str) : (a ++ b).length = a.length + b.length := by
  rw [TL.len_tl, TL.tl_append, List.length_append, ← TL.len_tl, ← TL.len_tl]
theorem sum_parts : ∀ ps : List Str, (∀ p ∈ ps, p ∈ parts5) → (ps.map (·.length)).sum ≤ ps.length * 2
  | [], _ => Nat.le_refl _
  | p :: r, h => by
    have a : ∀ z ∈ parts5, z.length ≤ 2 := by decide
    have i1 := sum_parts r (fun z hz => h z (List.mem_cons_of_mem _ hz))
    have i2 := a p (h p List.mem_cons_self)
    simp only [List.map_cons, List.sum_cons, List.length_cons]
    omega
/-- a name of one to most parts -/
def spName : Sp := fun vs H Q _ => ∃ (s l : Addr) (n : Nat) (most : Int), vs = [.ref s, .int most] ∧ Stm H s l n ∧ n ≤ 900000 ∧ 1 ≤ most ∧ most ≤ 50 ∧
  ∀ (H' : Hp) (ps : List Str), Old s l H H' → Stm H' s l (n + 100) → 1 ≤ ps.length → (ps.length : Int) ≤ most → (∀ p ∈ ps, p ∈ parts5) → Q (.str (Txt.join "." ps)) H'
theorem ok_name {f : Addr} (T : Txt P w K mg) (F : Stands K "_law_name" "_law_name" s__law_name [] f) (c__law_draw : Callable P w K mg base 1 (He.ga K "_law_draw") ["_law_s", "_law_many"] [] spDraw)
    (c__law_pick : Callable P w K mg base 2 (He.ga K "_law_pick") ["_law_s", "_law_some"] [] (spPick K)) : Callable P w K mg base 3 f ["_law_s", "_law_most"] [] spName := by
  refine F.call0 sc__law_name (fun vs H Q E h => ?_) (fun cdv A outer s H vs Q E hr h => ?_) (fun _ _ _ _ _ _ us hl => match us, hl with | [_, _], _ => rfl)
  · obtain ⟨s, l, n, most, rfl, _⟩ := h; rfl
  obtain ⟨s, l, n, most, rfl, hs, hn, hm1, hm2, hQ⟩ := h
  refine ⟨_, (pss_one (ps_ret (pe_join pe_str (pe_lc (own := [("_law_k", 2)]) (by rfl) sc__law_name.nd (pi_range1 (by rfl) T.b_range (pa_cons (pe_op op_add pe_int (pe_fn T.g__law_draw c__law_draw (hr.mono (by decide)) (by rfl) (pa_cons (pv 0) (pa_cons (pv 1) pa_nil)))) pa_nil)) (blkOk_by (own := [("_law_k", 2)]) (N := nm__law_name) (sc := defScope s__law_name) (by decide +kernel)) (fun _ _ _ _ _ => (pg_name (i := 2) sc__law_name.nd rfl (by first | exact Or.inl rfl | exact Or.inr rfl))) (fun _ _ _ _ _ => pts_nil) (fun _ _ _ _ _ => (pe_fn T.g__law_pick c__law_pick (hr.mono (by decide)) (by rfl) (pa_cons (pv 0) (pa_cons (pe_lst (pa_cons pe_str (pa_cons pe_str (pa_cons pe_str (pa_cons pe_str (pa_cons pe_str pa_nil)))))) pa_nil)))))))), ?_⟩
  refine ⟨⟨_, rfl⟩, _, rfl, _, rfl, s, l, n, most, rfl, hs, by omega, hm1, by omega, fun H1 d h1 h2 h3 h4 => ?_⟩
  refine ⟨1, d, rfl, rfl, 1 + d, rfl, by omega, by omega, fun D hD => ?_⟩
  obtain ⟨k, rfl⟩ := Int.eq_ofNat_of_zero_le h3
  have en : (1 + (k : Int)).toNat = 1 + k := by omega
  rw [en]
  have nDs : D ≠ s := fun z => by obtain ⟨_, _, _, _, _, z1, _⟩ := h2; rw [z, z1] at hD; cases hD
  have nDl : D ≠ l := fun z => by obtain ⟨_, _, _, _, _, _, z1, _⟩ := h2; rw [z, z1] at hD; cases hD
  refine lc_it (n := 1 + k) walk_range (fun i H' => Old s l H1 H' ∧ Stm H' s l (n + 1 + i) ∧ ∃ ps : List Str, ps.length = i ∧ (∀ p ∈ ps, p ∈ parts5) ∧ H' D = some (.lst (ps.map V.str))) ⟨Old.of_same (same_new hD _), h2.same (same_new hD _), [], rfl, (fun _ h => nomatch h), upd_same⟩ (fun _ _ _ _ => trivial) (fun i x H2 H3 hi hp hy => ?_) (fun H2 h => ?_)
  · obtain ⟨rfl, rfl⟩ := hy
    obtain ⟨g1, g2, ps, g3, g4, g5⟩ := hp
    refine ⟨rfl, yes_if ?_⟩
    refine ⟨_, rfl, (by show 5 ≤ sizeLine; decide), fun q hq => ?_⟩
    have nqs : q ≠ s := fun z => by obtain ⟨_, _, _, _, _, z1, _⟩ := g2; rw [z, z1] at hq; cases hq
    have nql : q ≠ l := fun z => by obtain ⟨_, _, _, _, _, _, z1, _⟩ := g2; rw [z, z1] at hq; cases hq
    have sq := same_new hq (.lst [.str "a", .str "b", .str "ab", .str "A", .str "_1"])
    refine ⟨s, l, q, n + 1 + i, _, rfl, g2.same sq, by omega, nqs, nql, upd_same, by decide, by decide, fun H4 x k1 k2 k3 => ?_⟩
    have hx : ∃ p : Str, p ∈ parts5 ∧ x = V.str p := by
      have e : x ∈ parts5.map V.str := k3
      obtain ⟨p, hp, rfl⟩ := List.mem_map.mp e
      exact ⟨p, hp, rfl⟩
    obtain ⟨p, hp5, rfl⟩ := hx
    have gD := k1 _ _ nDs nDl (sq _ _ g5)
    refine ⟨_, gD, by rw [List.length_map, sizeLine_eq]; omega, ?_, ?_, ps ++ [p], by simp [g3], ?_, by rw [upd_same, List.map_append]; rfl⟩
    · exact old_new (g1.trans ((Old.of_same sq).trans k1)) hD
    · exact k2.put nDs nDl
    · intro z hz
      rcases List.mem_append.mp hz with c | c
      · exact g4 z c
      · cases List.mem_singleton.mp c; exact hp5
  · obtain ⟨g1, g2, ps, g3, g4, g5⟩ := h
    have hsum := sum_parts ps g4
    refine ⟨".", D, ps, rfl, rfl, .inl (SqL.of g5), ?_, hQ _ ps (h1.trans g1) (g2.mono (by omega)) (by omega) (by omega) g4⟩
    have e1 : (("." : Str)).length = 1 := rfl
    rw [e1]; omega
/-- any name of a short length -/
def spOddName : Sp := fun vs H Q _ => ∃ (s l : Addr) (n : Nat), vs = [.ref s] ∧ Stm H s l n ∧ n ≤ 900000 ∧ ∀ (H' : Hp) (t : Str), Old s l H H' → Stm H' s l (n + 200) → t.length ≤ 100 → Q (.str t) H'
theorem ok_odd_name {f : Addr} (T : Txt P w K mg) (F : Stands K "_law_odd_name" "_law_odd_name" s__law_odd_name [] f) (c__law_draw : Callable P w K mg base 1 (He.ga K "_law_draw") ["_law_s", "_law_many"] [] spDraw)
    (c__law_pick : Callable P w K mg base 2 (He.ga K "_law_pick") ["_law_s", "_law_some"] [] (spPick K)) (c__law_name : Callable P w K mg base 3 (He.ga K "_law_name") ["_law_s", "_law_most"] [] spName) : Callable P w K mg base 4 f ["_law_s"] [] spOddName := by
  refine F.call0 sc__law_odd_name (fun vs H Q E h => ?_) (fun cdv A outer s H vs Q E hr h => ?_) (fun _ _ _ _ _ _ us hl => match us, hl with | [_], _ => rfl)
  · obtain ⟨s, l, n, rfl, _⟩ := h; rfl
  obtain ⟨s, l, n, rfl, hs, hn, hQ⟩ := h
  refine ⟨_, (pss_cons (ps_set (i := 1) sc__law_odd_name.nd rfl (by first | exact Or.inl rfl | exact Or.inr rfl) (pe_fn T.g__law_name c__law_name (hr.mono (by decide)) (by rfl) (pa_cons (pv 0) (pa_cons pe_int pa_nil))))
      (pss_cons (ps_set (i := 2) sc__law_odd_name.nd rfl (by first | exact Or.inl rfl | exact Or.inr rfl) (pe_lst (pa_cons pe_str (pa_cons pe_str (pa_cons pe_str (pa_cons (pe_op op_add_str (pv 1) pe_str) (pa_cons (pe_op op_add_str pe_str (pv 1)) (pa_cons (pe_op op_add_str (pv 1) pe_str) (pa_cons (pe_op op_add_str (pv 1) pe_str) (pa_cons (pe_op op_add_str (pv 1) pe_str) (pa_cons pe_str (pa_cons pe_str pa_nil))))))))))))
      (pss_cons (ps_set (i := 2) sc__law_odd_name.nd rfl (by first | exact Or.inl rfl | exact Or.inr rfl) (pe_op op_cat (pv 2) (pe_lst (pa_cons pe_str (pa_cons (pe_op op_add_str (pv 1) pe_str) pa_nil)))))
      (pss_one (ps_ret (pe_ifExp (pt_cmpR op_eq (pe_fn T.g__law_draw c__law_draw (hr.mono (by decide)) (by rfl) (pa_cons (pv 0) (pa_cons pe_int pa_nil))) pe_int (nomark _)) (pv 1) (pe_fn T.g__law_pick c__law_pick (hr.mono (by decide)) (by rfl) (pa_cons (pv 0) (pa_cons (pv 2) pa_nil))))))))), ?_⟩
  refine ⟨_, rfl, s, l, n, 3, rfl, hs, hn, by decide, by decide, fun H1 ps h1 h2 h3 h4 h5 => ?_⟩
  have ht : (Txt.join "." ps).length ≤ 9 := by
    refine Nat.le_trans (join_size "." ps) ?_
    have e1 : (("." : Str)).length = 1 := rfl
    have e2 := sum_parts ps h5
    rw [e1]; omega
  generalize Txt.join "." ps = t at ht
  have hz : ∀ (a : Str), a.length ≤ 10 → t.length + a.length ≤ sizeLine := fun a ha => by rw [sizeLine_eq]; omega
  have e1 : (("." : Str)).length = 1 := rfl
  refine ⟨_, rfl, t, ".", rfl, rfl, hz _ (by decide), _, rfl, ".", t, rfl, rfl, (by rw [Nat.add_comm]; exact hz _ (by decide)), _, rfl, t, "..b", rfl, rfl, hz _ (by decide), _, rfl, t, "b", rfl, rfl, hz _ (by decide), _, rfl, t, " ", rfl, rfl, hz _ (by decide), (by show 10 ≤ sizeLine; decide), fun o ho => ?_⟩
  generalize e3 : upd H1 o _ = H2
  have s2 : Same H1 H2 := by rw [← e3]; exact same_new ho _
  have o2 := congrFun e3.symm o; rw [upd_same] at o2
  clear e3
  refine ⟨_, rfl, _, rfl, t, ".b.c", rfl, rfl, hz _ (by decide), (by show 2 ≤ sizeLine; decide), fun q hq => ?_⟩
  have nqo : q ≠ o := fun z => by rw [z, o2] at hq; cases hq
  refine ⟨o, q, _, _, rfl, rfl, (by rw [upd_ne (Ne.symm nqo)]; exact o2), upd_same, (by show 12 ≤ sizeLine; decide), fun r hr2 => ?_⟩
  generalize e3 : upd (upd H2 q _) r _ = H3
  have s3 : Same H1 H3 := by rw [← e3]; exact s2.trans ((same_new hq _).trans (same_new hr2 _))
  have r3 := congrFun e3.symm r; rw [upd_same] at r3
  clear e3
  have hrs : r ≠ s := fun z => by
    have z2 := (upd_none hr2).2
    obtain ⟨_, _, _, _, _, z1, _⟩ := h2.same s2
    rw [z, z1] at z2; cases z2
  have hrl : r ≠ l := fun z => by
    have z2 := (upd_none hr2).2
    obtain ⟨_, _, _, _, _, _, z1, _⟩ := h2.same s2
    rw [z, z1] at z2; cases z2
  refine ⟨_, rfl, s, l, n + 100, 2, rfl, h2.same s3, by omega, by decide, by decide, fun H4 d k1 k2 k3 k4 => ?_⟩
  have o4 : Old s l H H4 := h1.trans ((Old.of_same s3).trans k1)
  refine ⟨rfl, _, rfl, ite2 (fun _ => ?_) (fun _ => ?_)⟩
  · exact ⟨_, rfl, hQ _ t o4 (k2.mono (by omega)) (by omega)⟩
  · refine ⟨_, rfl, _, rfl, s, l, r, n + 100 + 1, _, rfl, k2, by omega, hrs, hrl, k1 _ _ hrs hrl r3, (by show 1 ≤ 12; decide), (by show 12 ≤ 1000; decide), fun H5 x j1 j2 j3 => ?_⟩
    have e : x ∈ (["", "root", "root.a", t ++ ".", "." ++ t, t ++ "..b", t ++ "b", t ++ " ", " ", ".", "a.B", t ++ ".b.c"] : List Str).map V.str := j3
    obtain ⟨u, hu, rfl⟩ := List.mem_map.mp e
    refine hQ _ u (o4.trans j1) (j2.mono (by omega)) ?_
    have ha : ∀ a b : Str, a.length + b.length ≤ 100 → (a ++ b).length ≤ 100 := fun a b h => by rw [len_add]; exact h
    have hw : ∀ a : Str, a.length ≤ 10 → t.length + a.length ≤ 100 := fun a h => by omega
    simp only [List.mem_cons, List.not_mem_nil, or_false] at hu
    rcases hu with rfl | rfl | rfl | rfl | rfl | rfl | rfl | rfl | rfl | rfl | rfl | rfl
    · decide
    · decide
    · decide
    · exact ha _ _ (hw _ (by decide))
    · exact ha _ _ (by rw [Nat.add_comm]; exact hw _ (by decide))
    · exact ha _ _ (hw _ (by decide))
    · exact ha _ _ (hw _ (by decide))
    · exact ha _ _ (hw _ (by decide))
    · decide
    · decide
    · decide
    · exact ha _ _ (hw _ (by decide))
end
end K17

set_option Elab.async false
set_option linter.all false
set_option maxRecDepth 100000
set_option maxHeartbeats 0
namespace K17
open PySem PySem.Spec PyProof.Rows L2 RC
section
variable {P : Program} {w : World} {K : PySem.W.Frag} {mg : Str → Option Value} {base : Heap}
/-! ### the plain law -/
theorem list_due (R N : List Nat) (c : Nat) : (R ++ [c]).take (min (N.length + 1) (R.length + 1)) = N ++ [c] ↔ R = N ∨ (N.length + 1 ≤ R.length ∧ R.take (N.length + 1) = N ++ [c]) := by
  by_cases h : N.length + 1 ≤ R.length
  · have e : min (N.length + 1) (R.length + 1) = N.length + 1 := by omega
    rw [e, List.take_append_of_le_length h]
    constructor
    · intro h2; exact .inr ⟨h, h2⟩
    · rintro (rfl | ⟨_, h2⟩)
      · exact absurd h (by omega)
      · exact h2
  · have e : min (N.length + 1) (R.length + 1) = R.length + 1 := by omega
    have e2 : (R ++ [c]).take (R.length + 1) = R ++ [c] := List.take_of_length_le (by simp)
    rw [e, e2]
    constructor
    · intro h2; exact .inl (List.append_cancel_right h2)
    · rintro (rfl | ⟨h2, _⟩)
      · rfl
      · exact absurd h2 h
theorem tl_dot (x : Str) : TL.tl (x ++ ("." : Str)) = TL.tl x ++ [46] := TL.tl_append x "."
theorem due_eq (rn nm : Str) : (decide (nm = "") || decide (cutS (rn ++ ".") none (some ((nm.length : Int) + 1)) = nm ++ ".")) = passB rn nm := by
  unfold passB belowB
  congr 1
  have e1 : (cutS (rn ++ ".") none (some ((nm.length : Int) + 1)) = nm ++ ".") ↔ (TL.tl rn = TL.tl nm ∨ ((TL.tl nm).length + 1 ≤ (TL.tl rn).length ∧ (TL.tl rn).take ((TL.tl nm).length + 1) = TL.tl nm ++ [46])) := by
    rw [← list_due]
    have z : ∀ a b : Str, a = b ↔ TL.tl a = TL.tl b := fun a b => ⟨fun h => by rw [h], TL.ext_tl⟩
    rw [z, tl_dot]
    have c : TL.tl (cutS (rn ++ ".") none (some ((nm.length : Int) + 1))) = (TL.tl rn ++ [46]).take (min ((TL.tl nm).length + 1) ((TL.tl rn).length + 1)) := by
      unfold cutS
      rw [HT.sIx_none, show ((nm.length : Int) + 1) = ((nm.length + 1 : Nat) : Int) from rfl, HT.sIx_nat, len_dot, Nat.sub_zero]
      show (((rn ++ ".").cps.toList.drop 0).take _) = _
      rw [List.drop_zero, show (rn ++ ".").cps.toList = TL.tl (rn ++ ".") from rfl, tl_dot, TL.len_tl nm, TL.len_tl rn]
    rw [c]
  have e2 : Txt.startswith rn (nm ++ ".") = decide ((TL.tl nm).length + 1 ≤ (TL.tl rn).length ∧ (TL.tl rn).take ((TL.tl nm).length + 1) = TL.tl nm ++ [46]) := by
    unfold Txt.startswith
    rw [PySem.StrLaws.subAt_eq, len_dot, Nat.zero_add, List.drop_zero, ← TL.len_tl, ← TL.len_tl, show (nm ++ ".").cps.toList = TL.tl (nm ++ ".") from rfl, tl_dot, Bool.decide_and]
    congr 1
    rw [Bool.eq_iff_iff]; simp
  rw [e2, Bool.eq_iff_iff]
  simp only [decide_eq_true_eq, Bool.or_eq_true]
  rw [e1]
  constructor
  · rintro (h | h)
    · exact .inl (TL.ext_tl h)
    · exact .inr h
  · rintro (h | h)
    · exact .inl (by rw [h])
    · exact .inr h
end
end K17

set_option Elab.async false
set_option linter.all false
set_option maxRecDepth 100000
set_option maxHeartbeats 0
namespace K17
open PySem PySem.Spec PyProof.Rows L2 RC
section
variable {P : Program} {w : World} {K : PySem.W.Frag} {mg : Str → Option Value} {base : Heap}
/-! ### the law -/
abbrev nmsD (K : PySem.W.Frag) : List (Key × V) := kv_FIRST_NAMES.map fun q => (q.1, q.2.v K)
abbrev cB (K : PySem.W.Frag) (b : Bool) : Addr := if b = true then He.ga K "NullHandler" else He.ga K "Logger"
/-- a thing at q whose filters' list fl is empty -/
def Th (K : PySem.W.Frag) (H : Hp) (s l q C fl : Addr) : Prop := ∃ d fs, HasF K H q C d fl fs [] ∧ fl ≠ s ∧ fl ≠ l ∧ ∀ m ∈ (["addFilter", "removeFilter", "filtered"] : List Str), fs.lookup m = none
structure Sc (K : PySem.W.Frag) (H : Hp) (s l y : Addr) (q : Bool → Addr) (n : Nat) : Prop where
  stm : Stm H s l n
  yard : YardR K H y 0 (nmsD K)
  th : ∃ fl : Bool → Addr, (∀ b, Th K H s l (q b) (cB K b) (fl b)) ∧ fl false ≠ fl true
  ne : q false ≠ q true
  ny : ∀ b, y ≠ q b
section
variable {H H' : Hp} {s l y : Addr} {q : Bool → Addr} {n m : Nat}
theorem _root_.RC.Stm.ins (h : Stm H s l n) {a C d : Addr} {fs : List (Str × V)} (e : H a = some (.ins C d fs)) : a ≠ s ∧ a ≠ l := by
  obtain ⟨_, _, _, _, _, g1, g2, _⟩ := h
  exact ⟨fun z => (by rw [z, g1] at e; cases e), fun z => (by rw [z, g2] at e; cases e)⟩
theorem _root_.RC.Stm.dk (h : Stm H s l n) {a : Addr} {kvs : List (Key × V)} (e : H a = some (.dK kvs)) : a ≠ s ∧ a ≠ l := by
  obtain ⟨_, _, _, _, _, g1, g2, _⟩ := h
  exact ⟨fun z => (by rw [z, g1] at e; cases e), fun z => (by rw [z, g2] at e; cases e)⟩
theorem HasF.keep {p C dx fl : Addr} {fs : List (Str × V)} {as : List Addr} (h : HasF K H p C dx fl fs as) (e1 : H' p = some (.ins C dx fs)) (e2 : H' fl = some (.lst (as.map V.ref))) : HasF K H' p C dx fl fs as := ⟨e1, h.cl, h.no, h.lk, e2, h.ln, h.fl⟩
theorem Sc.old (S : Sc K H s l y q n) (o : Old s l H H') (st : Stm H' s l m) : Sc K H' s l y q m where
  stm := st
  yard := by
    obtain ⟨dx, fs, d, h1, h2, h3, h4, h5⟩ := S.yard.at_
    exact ⟨dx, fs, d, o _ _ (S.stm.ins h1).1 (S.stm.ins h1).2 h1, h2, h3, o _ _ (S.stm.dk h4).1 (S.stm.dk h4).2 h4, h5⟩
  th := by
    obtain ⟨fl, h1, h2⟩ := S.th
    refine ⟨fl, fun b => ?_, h2⟩
    obtain ⟨d, fs, g1, g2, g3, g4⟩ := h1 b
    exact ⟨d, fs, g1.keep (o _ _ (S.stm.ins g1.ob).1 (S.stm.ins g1.ob).2 g1.ob) (o _ _ g2 g3 g1.ls), g2, g3, g4⟩
  ne := S.ne
  ny := S.ny
theorem Sc.same (S : Sc K H s l y q n) (o : Same H H') : Sc K H' s l y q n := S.old (Old.of_same o) (S.stm.same o)
theorem Sc.mono (S : Sc K H s l y q n) (h : n ≤ m) : Sc K H s l y q m := ⟨S.stm.mono h, S.yard, S.th, S.ne, S.ny⟩
/-- a filter was added to one of the things and taken away -/
theorem Sc.step (S : Sc K H s l y q n) (b : Bool) {fl : Bool → Addr} (h1 : ∀ b, Th K H s l (q b) (cB K b) (fl b)) (h2 : fl false ≠ fl true) (o : Old (q b) (fl b) H H') {f2 : Addr} (hf : H f2 = none) (t : Th K H' s l (q b) (cB K b) f2) : Sc K H' s l y q n := by
  obtain ⟨d, fs, g1, g2, g3, g4⟩ := h1 b
  obtain ⟨d', fs', g1', g2', g3', g4'⟩ := h1 (!b)
  have nb : q (!b) ≠ q b := by cases b; exact Ne.symm S.ne; exact S.ne
  have nf : fl (!b) ≠ fl b := by cases b; exact Ne.symm h2; exact h2
  have lst_ins : ∀ {a c C d : Addr} {fs : List (Str × V)} {xs : List V}, H a = some (.lst xs) → H c = some (.ins C d fs) → a ≠ c := fun e e' z => by rw [z, e'] at e; cases e
  have st : Stm H' s l n := by
    obtain ⟨ne, ns, x, c, dd, z1, z2, z3⟩ := S.stm
    exact ⟨ne, ns, x, c, dd, o _ _ (lst_ins z1 g1.ob) (Ne.symm g2) z1, o _ _ (lst_ins z2 g1.ob) (Ne.symm g3) z2, z3⟩
  refine ⟨st, ?_, ⟨fun c => if c = b then f2 else fl c, fun c => ?_, ?_⟩, S.ne, S.ny⟩
  · obtain ⟨dx, fy, dd, y1, y2, y3, y4, y5⟩ := S.yard.at_
    refine ⟨dx, fy, dd, o _ _ (S.ny b) (Ne.symm (lst_ins g1.ls y1)) y1, y2, y3, o _ _ (fun z => ?_) (fun z => ?_) y4, y5⟩
    · rw [z, g1.ob] at y4; cases y4
    · rw [z, g1.ls] at y4; cases y4
  · by_cases e : c = b
    · subst e; show Th K H' s l (q c) (cB K c) (if c = c then f2 else fl c); rw [if_pos rfl]; exact t
    · show Th K H' s l (q c) (cB K c) (if c = b then f2 else fl c)
      rw [if_neg e]
      have ec : c = !b := by cases c <;> cases b <;> first | rfl | exact absurd rfl e
      subst ec
      exact ⟨d', fs', g1'.keep (o _ _ nb (Ne.symm (lst_ins g1.ls g1'.ob)) g1'.ob) (o _ _ (lst_ins g1'.ls g1.ob) nf g1'.ls), g2', g3', g4'⟩
  · have n2 : ∀ c, f2 ≠ fl c := fun c z => by obtain ⟨_, _, k1, _⟩ := h1 c; rw [z, k1.ls] at hf; cases hf
    cases b
    · show (if false = false then f2 else fl false) ≠ (if true = false then f2 else fl true)
      rw [if_pos rfl, if_neg (by decide)]; exact n2 true
    · show (if false = true then f2 else fl false) ≠ (if true = true then f2 else fl true)
      rw [if_pos rfl, if_neg (by decide)]; exact Ne.symm (n2 false)
end
theorem length_putF_mem (f : Str) (v : V) : ∀ fs : List (Str × V), fs.lookup f ≠ none → (putF f v fs).length = fs.length
  | [], h => absurd rfl h
  | (g, x) :: r, h => by
    by_cases e : g = f
    · show (if g = f then (g, v) :: r else (g, x) :: putF f v r).length = _
      rw [if_pos e]; rfl
    · show (if g = f then (g, v) :: r else (g, x) :: putF f v r).length = _
      rw [if_neg e]
      have e2 : (f == g) = false := by simpa using fun z : f = g => e z.symm
      have h2 : r.lookup f ≠ none := by
        rw [List.lookup_cons, e2] at h; exact h
      show (putF f v r).length + 1 = r.length + 1
      rw [length_putF_mem f v r h2]
end
end K17

set_option Elab.async false
set_option linter.all false
set_option maxRecDepth 100000
set_option maxHeartbeats 0
namespace K17
open PySem PySem.Spec PyProof.Rows L2 RC
section
variable {P : Program} {w : World} {K : PySem.W.Frag} {mg : Str → Option Value} {base : Heap}
/-! ### the law's walk -/
/-- all after the making of the yard, the logger and the handler -/
theorem Sc.start {H1 H2 H3 H4 : Hp} {s l y dy p dp lp hp h dh lh : Addr} {Y : YParts} {r : V} {t : Str} (st : Stm H1 s l 0) (hy : H1 y = none) (hdy : H1 dy = none)  (N : YNew K (upd (upd H1 dy (.own y)) y (.ins (CY K) dy [])) H2 y dy 0 Y) (c1 : Cls K (CL K)) (c2 : Cls K (He.ga K "NullHandler")) (m1 : NoAttr K (CL K) "filters") (m2 : NoAttr K (He.ga K "NullHandler") "filters")
    (k1 : SameBut Y.lm H2 H3) (k2 : H2 p = none) (k3 : H2 lp = none) (k4 : H3 p = some (.ins (CL K) dp (lF lp y t 0 hp r))) (k5 : H3 lp = some (.lst []))
    (hh : H3 h = none) (hdh : H3 dh = none) (j1 : ∀ b o, b ≠ h → b ≠ Y.md → upd (upd H3 dh (.own h)) h (.ins (He.ga K "NullHandler") dh []) b = some o → H4 b = some o) (j2 : upd (upd H3 dh (.own h)) h (.ins (He.ga K "NullHandler") dh []) lh = none)
    (j3 : H4 h = some (.ins (He.ga K "NullHandler") dh (hF lh y))) (j4 : H4 lh = some (.lst [])) : Sc K H4 s l y (fun b => if b = true then h else p) 0 := by
  obtain ⟨rd, ld, F⟩ := N.fr
  have S12 : Same H1 H2 := made_same hy hdy F.kp
  have t3 : Same H3 (upd (upd H3 dh (.own h)) h (.ins (He.ga K "NullHandler") dh [])) := made_same hh hdh (fun _ _ _ e => e)
  have old0 : ∀ b o, H1 b = some o → b ≠ Y.lm ∧ b ≠ Y.md := fun b o e => by
    have e0 : upd (upd H1 dy (.own y)) y (.ins (CY K) dy []) b = some o := made_same hy hdy (fun _ _ _ e => e) _ _ e
    refine ⟨fun z => ?_, fun z => ?_⟩
    · have g := (F.has (Y.lm, .dK []) (by simp [YParts.L])).2.1
      rw [z] at e0; rw [e0] at g; cases g
    · rcases F.old Y.md List.mem_cons_self with g | g
      · rw [z, g, hy] at e; cases e
      · rw [z] at e0; rw [e0] at g; cases g
  have nmy : Y.md ≠ y := fun z => by have a := N.y; rw [← z, N.md] at a; cases a
  have nml : Y.md ≠ Y.lm := fun z => (F.has (Y.lm, .dK []) (by simp [YParts.L])).1 (by rw [← z]; exact List.mem_cons_self)
  have nly : Y.lm ≠ y := fun z => (F.has (Y.lm, .dK []) (by simp [YParts.L])).1 (by rw [z]; simp)
  have to4 : ∀ b o, b ≠ Y.md → H3 b = some o → H4 b = some o := fun b o hb e => j1 b o (ne_of_none e hh) hb (t3 _ _ e)
  have s1 : Old s l H1 H4 := fun b o _ _ e => to4 b o (old0 b o e).2 (k1 b o (old0 b o e).1 (S12 _ _ e))
  have st4 : Stm H4 s l 0 := by
    obtain ⟨ne, ns, x, c, d, g1, g2, g3⟩ := st
    exact ⟨ne, ns, x, c, d, to4 _ _ (old0 _ _ g1).2 (k1 _ _ (old0 _ _ g1).1 (S12 _ _ g1)), to4 _ _ (old0 _ _ g2).2 (k1 _ _ (old0 _ _ g2).1 (S12 _ _ g2)), g3⟩
  have y4 : H4 y = some (.ins (CY K) dy (yF 0 Y.st Y.fi Y.na Y.nu Y.lm Y.md Y.hn Y.fr Y.rt Y.lr)) := to4 _ _ (Ne.symm nmy) (k1 _ _ (Ne.symm nly) N.y)
  have ena := F.has (Y.na, .dK (nmsD K)) (by simp [YParts.L])
  have na4 : H4 Y.na = some (.dK (nmsD K)) := to4 _ _ (fun z => ena.1 (by rw [← z]; exact List.mem_cons_self)) (k1 _ _ (fun z => ?_) ena.2.2)
  · have p4 : H4 p = some (.ins (CL K) dp (lF lp y t 0 hp r)) := to4 _ _ (fun z => by rw [z, N.md] at k2; cases k2) k4
    have lp4 : H4 lp = some (.lst []) := to4 _ _ (fun z => by rw [z, N.md] at k3; cases k3) k5
    obtain ⟨_, _, _, _, _, g1, g2, _⟩ := id st
    have hs := S12 _ _ g1
    have hl := S12 _ _ g2
    have hs3 := k1 _ _ (old0 _ _ g1).1 hs
    have hl3 := k1 _ _ (old0 _ _ g2).1 hl
    have j2' := (upd_none (upd_none j2).2).2
    refine ⟨st4, ⟨dy, _, Y.na, y4, rfl, rfl, na4, fun m hm => ?_⟩, ⟨fun b => if b = true then lh else lp, fun b => ?_, ?_⟩, ?_, ?_⟩
    · simp only [List.mem_cons, List.not_mem_nil, or_false] at hm
      rcases hm with rfl | rfl | rfl | rfl | rfl <;> rfl
    · cases b
      · refine ⟨dp, _, ⟨p4, c1, m1, rfl, lp4, by decide, (by show 8 < 100; decide)⟩, fun z => ?_, fun z => ?_, fun m hm => ?_⟩
        · have z : lp = s := z
          rw [z, hs] at k3; cases k3
        · have z : lp = l := z
          rw [z, hl] at k3; cases k3
        · simp only [List.mem_cons, List.not_mem_nil, or_false] at hm
          rcases hm with rfl | rfl | rfl <;> rfl
      · refine ⟨dh, _, ⟨j3, c2, m2, rfl, j4, by decide, (by show 7 < 100; decide)⟩, fun z => ?_, fun z => ?_, fun m hm => ?_⟩
        · have z : lh = s := z
          rw [z, hs3] at j2'; cases j2'
        · have z : lh = l := z
          rw [z, hl3] at j2'; cases j2'
        · simp only [List.mem_cons, List.not_mem_nil, or_false] at hm
          rcases hm with rfl | rfl | rfl <;> rfl
    · intro z
      have z : lp = lh := z
      rw [← z, k5] at j2'; cases j2'
    · intro z
      have z : p = h := z
      rw [← z, k4] at hh; cases hh
    · intro b z
      cases b
      · have z : y = p := z
        rw [← z, N.y] at k2; cases k2
      · have z : y = h := z
        rw [← z, k1 _ _ (Ne.symm nly) N.y] at hh; cases hh
  · have e := ena.2.2
    have g := F.has (Y.lm, .dK []) (by simp [YParts.L])
    have e2 := g.2.2
    have z : Y.na = Y.lm := z
    rw [z, e2] at e
    exact absurd (congrArg List.length (HO.dK.inj (Option.some.inj e))) (by show (0 : Nat) ≠ 6; decide)
end
end K17

set_option Elab.async false
set_option linter.all false
set_option maxRecDepth 100000
set_option maxHeartbeats 0
namespace K17
open PySem PySem.Spec PyProof.Rows L2 RC
section
variable {P : Program} {w : World} {K : PySem.W.Frag} {mg : Str → Option Value} {base : Heap}
theorem st_cont {te : TE} {g : TG} {rest : TS} {D : Ends} {σ : L2.St} {H : Hp} (R : V → Hp → Prop) (h : ∀ Q' : VK, (∀ v H', R v H' → Q' v H') → te σ H Q') (k : ∀ v H', R v H' → g v σ H' (rest D)) : tSeq (tAsg te g) rest D σ H := h _ k
theorem cont {G : VK → Prop} {Q : VK} (R : V → Hp → Prop) (h : ∀ Q' : VK, (∀ v H', R v H' → Q' v H') → G Q') (k : ∀ v H', R v H' → Q v H') : G Q := h Q k
theorem if_or {c d : Bool} {Q : VK} {H : Hp} {B : Prop} (hB : Q (.bl d) H → B) (h : Q (.bl (c || d)) H) : if c = true then Q (.bl true) H else B := by
  cases c
  · exact hB h
  · exact h
theorem or_meth {b : Bool} {K : PySem.W.Frag} {m : Str} {sp : Sp} {dvs : List V} {E : XK} {ta : TE} {t : TA} {σ : L2.St} {H : Hp} {Q : VK} (R : V → Hp → Prop) (h : ∀ Q' : VK, (∀ v H', R v H' → Q' v H') → tMeth (cB K b) m sp dvs E ta t σ H Q') (k : ∀ v H', R v H' → Q v H') :
    tMeth (He.ga K "Logger") m sp dvs E ta t σ H Q ∨ tMeth (He.ga K "NullHandler") m sp dvs E ta t σ H Q := by
  cases b
  · exact .inl (h Q k)
  · exact .inr (h Q k)
def spLaw (K : PySem.W.Frag) : Sp := fun vs H Q _ => ∃ (a : Addr) (ns : List Int), vs = [.ref a] ∧ ns.length ≤ 63 ∧ SqL K H a (ns.map V.int) ∧ ∀ H', Q (.bl true) H'
/-- the slots of the law -/
abbrev sg (a s y p h : Addr) (o5 o6 o7 o8 o9 o10 o11 o12 : Option V) : L2.St := [some (.ref a), some (.ref s), some (.ref y), some (.ref p), some (.ref h), o5, o6, o7, o8, o9, o10, o11, o12]
theorem law_body (T : Txt P w K mg) {f : Addr} {cdv : Value} {A : Around} {outer : List Env} {st0 : Shared} {E : XK} {vs : List V} {H : Hp} {Q : VK} (hr : Room 6 (A.deeper (envOfC "law" (defScope s_law) st0.heap.objs.size f cdv))) (hsp : spLaw K vs H Q E)
    (c__law_draw : Callable P w K mg base 1 (He.ga K "_law_draw") ["_law_s", "_law_many"] [] spDraw)
    (c__law_pick : Callable P w K mg base 2 (He.ga K "_law_pick") ["_law_s", "_law_some"] [] (spPick K))
    (c__law_same : Callable P w K mg base 1 (He.ga K "_law_same") ["_law_found", "_law_due"] [] spSameB)
    (c__law_odd_name : Callable P w K mg base 4 (He.ga K "_law_odd_name") ["_law_s"] [] spOddName)
    (c_Yard_init_d1 : Callable P w K mg base 5 (He.ma K (He.ga K "Yard") "__init__") ["self", "now"] [.int 0] (spYardInit K))
    (c_Yard_getLogger : Callable P w K mg base 4 (He.ma K (He.ga K "Yard") "getLogger") ["self", "name"] [] (spGetLogger K))
    (c_NullHandler_init : Callable P w K mg base 2 (He.ma K (He.ga K "NullHandler") "__init__") ["self", "yard"] [] (spHandlerInit K))
    (c_Filter_init : Callable P w K mg base 1 (He.ma K (He.ga K "Filter") "__init__") ["self", "name"] [] (spFilterInit (K := K)))
    (c_Filter_init_d1 : Callable P w K mg base 1 (He.ma K (He.ga K "Filter") "__init__") ["self", "name"] [.str ""] (spFilterInit (K := K)))
    (c_Yard_make_record_d2 : Callable P w K mg base 4 (He.ma K (He.ga K "Yard") "make_record") ["self", "name", "level", "msg", "args", "extra"] [.ref (He.dflAt ("Yard", some "make_record") 0 K), .non] (spMakeRecord K))
    (c_Filter_passes : Callable P w K mg base 2 (He.ma K (He.ga K "Filter") "passes") ["self", "record"] [] (spPasses K))
    (c_Logger_addFilter : Callable P w K mg base 1 (He.ma K (He.ga K "Logger") "addFilter") ["self", "one"] [] (spAddFilter K))
    (c_NullHandler_addFilter : Callable P w K mg base 1 (He.ma K (He.ga K "NullHandler") "addFilter") ["self", "one"] [] (spAddFilter K))
    (c_Logger_removeFilter : Callable P w K mg base 1 (He.ma K (He.ga K "Logger") "removeFilter") ["self", "one"] [] (spRemoveFilter K))
    (c_NullHandler_removeFilter : Callable P w K mg base 1 (He.ma K (He.ga K "NullHandler") "removeFilter") ["self", "one"] [] (spRemoveFilter K))
    (c_Logger_filtered : Callable P w K mg base 4 (He.ma K (He.ga K "Logger") "filtered") ["self", "record"] [] (spFiltered K))
    (c_NullHandler_filtered : Callable P w K mg base 4 (He.ma K (He.ga K "NullHandler") "filtered") ["self", "record"] [] (spFiltered K)) :
    ∃ t, PSs (cxOf CX0 P w K mg base nm_law "law" (defScope s_law) f cdv A outer st0 H E).nox (defBody s_law) t ∧ t { nx := fun _ H' => Q .non H', rt := Q } (start nm_law vs) H := by
  obtain ⟨a, ns, rfl, hn, hS, hQ⟩ := hsp
  refine ⟨_, (pss_cons (ps_set (i := 1) sc_law.nd rfl (by first | exact Or.inl rfl | exact Or.inr rfl) (pe_lst (pa_cons (pe_callTy call_list_of (by rfl) T.b_list (by decide +kernel) (pa_cons (pv 0) pa_nil)) (pa_cons pe_int (pa_cons pe_int (pa_cons pe_int pa_nil))))))
      (pss_cons (ps_set (i := 2) sc_law.nd rfl (by first | exact Or.inl rfl | exact Or.inr rfl) (pe_mk0 T.k_Yard T.g_Yard c_Yard_init_d1 (hr.mono (by decide)) (by rfl)))
      (pss_cons (ps_par (by rfl) sc_law.nd (i := 3) (j := 4) rfl rfl (by decide) rfl rfl (pa_cons (pe_mt T.c_Yard T.m_Yard_getLogger c_Yard_getLogger (hr.mono (by decide)) (pv 2) (pa_cons pe_str pa_nil)) (pa_cons (pe_mk T.k_NullHandler T.g_NullHandler c_NullHandler_init (hr.mono (by decide)) (by rfl) (pa_cons (pv 2) pa_nil)) pa_nil)) (by rfl))
      (pss_cons (ps_for PassesOwn.never rfl (pi_range1 (by rfl) T.b_range (pa_cons pe_int pa_nil)) (pg_name (i := 5) sc_law.nd rfl (by first | exact Or.inl rfl | exact Or.inr rfl)) (pss_cons (ps_par (by rfl) sc_law.nd (i := 6) (j := 7) rfl rfl (by decide) rfl rfl (pa_cons (pe_fn T.g__law_odd_name c__law_odd_name (hr.mono (by decide)) (by rfl) (pa_cons (pv 1) pa_nil)) (pa_cons (pe_fn T.g__law_odd_name c__law_odd_name (hr.mono (by decide)) (by rfl) (pa_cons (pv 1) pa_nil)) pa_nil)) (by rfl))
      (pss_cons (ps_set (i := 7) sc_law.nd rfl (by first | exact Or.inl rfl | exact Or.inr rfl) (pe_ifExp (pt_cmpR op_eq (pe_fn T.g__law_draw c__law_draw (hr.mono (by decide)) (by rfl) (pa_cons (pv 1) (pa_cons pe_int pa_nil))) pe_int (nomark _)) (pe_op op_add_str (pv 6) (pe_fn T.g__law_pick c__law_pick (hr.mono (by decide)) (by rfl) (pa_cons (pv 1) (pa_cons (pe_lst (pa_cons pe_str (pa_cons pe_str (pa_cons pe_str (pa_cons pe_str (pa_cons pe_str pa_nil)))))) pa_nil)))) (pv 7)))
      (pss_cons (ps_par (by rfl) sc_law.nd (i := 8) (j := 9) rfl rfl (by decide) rfl rfl (pa_cons (pe_mk T.k_Filter T.g_Filter c_Filter_init (hr.mono (by decide)) (by rfl) (pa_cons (pv 6) pa_nil)) (pa_cons (pe_mt T.c_Yard T.m_Yard_make_record c_Yard_make_record_d2 (hr.mono (by decide)) (pv 2) (pa_cons (pv 7) (pa_cons pe_int (pa_cons pe_str pa_nil)))) pa_nil)) (by rfl))
      (pss_cons (ps_set (i := 10) sc_law.nd rfl (by first | exact Or.inl rfl | exact Or.inr rfl) (pe_or (pe_cmpR op_eq (pv 6) pe_str (nomark _)) (pe_one (pe_cmpR op_eq (pe_slice sl_str (pe_op op_add_str (pv 7) pe_str) po_none (po_some (pe_op op_add (pe_callB call_len (by rfl) T.b_len (by decide +kernel) (pa_cons (pv 6) pa_nil)) pe_int))) (pe_op op_add_str (pv 6) pe_str) (nomark _)))))
      (pss_cons (ps_if (PW.pt (pw_or (pt_not (pt_val (pe_fn T.g__law_same c__law_same (hr.mono (by decide)) (by rfl) (pa_cons (pe_mt T.c_Filter T.m_Filter_passes c_Filter_passes (hr.mono (by decide)) (pv 8) (pa_cons (pv 9) pa_nil)) (pa_cons (pv 10) pa_nil))))) (pw_or1 (pt_cmpR op_ne (pe_fld (pv 8) rfl) (pv 6) (nomark _))))) (pss_one (ps_ret pe_bl)) pss_nil)
      (pss_cons (ps_for PassesOwn.never rfl (pi_tup (pe_tup (pa_cons (pv 3) (pa_cons (pv 4) pa_nil)))) (pg_name (i := 11) sc_law.nd rfl (by first | exact Or.inl rfl | exact Or.inr rfl)) (pss_cons (ps_expr (RA.PE.or (pe_mt T.c_Logger T.m_Logger_addFilter c_Logger_addFilter (hr.mono (by decide)) (pv 11) (pa_cons (pv 8) pa_nil)) (pe_mt T.c_NullHandler T.m_NullHandler_addFilter c_NullHandler_addFilter (hr.mono (by decide)) (pv 11) (pa_cons (pv 8) pa_nil))))
      (pss_cons (ps_set (i := 12) sc_law.nd rfl (by first | exact Or.inl rfl | exact Or.inr rfl) (RA.PE.or (pe_mt T.c_Logger T.m_Logger_filtered c_Logger_filtered (hr.mono (by decide)) (pv 11) (pa_cons (pv 9) pa_nil)) (pe_mt T.c_NullHandler T.m_NullHandler_filtered c_NullHandler_filtered (hr.mono (by decide)) (pv 11) (pa_cons (pv 9) pa_nil))))
      (pss_cons (ps_expr (RA.PE.or (pe_mt T.c_Logger T.m_Logger_removeFilter c_Logger_removeFilter (hr.mono (by decide)) (pv 11) (pa_cons (pv 8) pa_nil)) (pe_mt T.c_NullHandler T.m_NullHandler_removeFilter c_NullHandler_removeFilter (hr.mono (by decide)) (pv 11) (pa_cons (pv 8) pa_nil))))
      (pss_one (ps_if (PW.pt (pw_or (pt_cmpR (op_ne.or (RA.op_neP (hu_of hr))) (pv 12) (pe_ifExp (pt_val (pv 10)) (pv 9) pe_non) (nomark _)) (pw_or1 (pt_cmpR (RA.op_neP (hu_of hr)) (RA.PE.or (pe_mt T.c_Logger T.m_Logger_filtered c_Logger_filtered (hr.mono (by decide)) (pv 11) (pa_cons (pv 9) pa_nil)) (pe_mt T.c_NullHandler T.m_NullHandler_filtered c_NullHandler_filtered (hr.mono (by decide)) (pv 11) (pa_cons (pv 9) pa_nil))) (pv 9) (nomark _))))) (pss_one (ps_ret pe_bl)) pss_nil))))))
      (pss_one (ps_if (PW.pt (pw_or (pt_cmpR op_notBl (pe_mt T.c_Filter T.m_Filter_passes c_Filter_passes (hr.mono (by decide)) (pe_mk0 T.k_Filter T.g_Filter c_Filter_init_d1 (hr.mono (by decide)) (by rfl)) (pa_cons (pv 9) pa_nil)) pe_bl (nomark _)) (pw_or1 (pt_cmpR op_ne (pe_fld (pv 9) rfl) (pv 7) (nomark _))))) (pss_one (ps_ret pe_bl)) pss_nil)))))))))
      (pss_one (ps_ret (pe_cmpR op_eq (pe_fld (pe_mk0 T.k_Filter T.g_Filter c_Filter_init_d1 (hr.mono (by decide)) (by rfl)) rfl) pe_str (nomark _)))))))), ?_⟩
  refine ⟨_, rfl, a, ns.map V.int, rfl, .inl hS, fun l hl => ⟨(by show 4 ≤ sizeLine; decide), fun s hs => ?_⟩⟩
  have st1 : Stm (upd (upd H l (.lst (ns.map V.int))) s (.lst [.ref l, .int 0, .int 0, .int 0])) s l 0 := by
    have n1 := (upd_none hs).1
    exact ⟨n1, ns, 0, 0, 0, upd_same, by rw [upd_ne (Ne.symm n1)]; exact upd_same, hn, by decide, by decide, by decide, by decide, by decide⟩
  generalize upd (upd H l (.lst (ns.map V.int))) s (.lst [.ref l, .int 0, .int 0, .int 0]) = H1 at st1
  -- the yard
  intro y dy hy hdy hne
  refine ⟨y, dy, 0, rfl, upd_same, fun H2 Y N => ⟨rfl, ?_⟩⟩
  obtain ⟨rd, ld, F⟩ := id N.fr
  have glm := (F.has (Y.lm, .dK []) (by simp [YParts.L])).2.2
  refine ⟨_, rfl, y, dy, _, rfl, N.y, rfl, y, dy, Y.lm, _, "x", .ref Y.rt, rfl, N.y, rfl, rfl, glm, by decide, by decide, by decide +kernel, by decide +kernel, by decide, fun H3 p dp lp hp k1 k2 k3 k4 k5 k6 k7 k8 k9 => ?_⟩
  have nmy : Y.md ≠ y := fun z => by have a := N.y; rw [← z, N.md] at a; cases a
  have nml : Y.md ≠ Y.lm := fun z => (F.has (Y.lm, .dK []) (by simp [YParts.L])).1 (by rw [← z]; exact List.mem_cons_self)
  have nly : Y.lm ≠ y := fun z => (F.has (Y.lm, .dK []) (by simp [YParts.L])).1 (by rw [z]; simp)
  have hy3 := k1 _ _ (Ne.symm nly) N.y
  have hm3 := k1 _ _ nml N.md
  refine ⟨_, rfl, fun h dh hh hdh hne2 => ?_⟩
  have c2 : HCls K (He.ga K "NullHandler") := ⟨T.c_NullHandler, T.n_NullHandler_filters, T.n_NullHandler_yard, T.n_NullHandler_level, T.n_NullHandler_formatter, T.n_NullHandler_name, T.n_NullHandler_terminator, T.n_NullHandler_closed⟩
  have t3 : Same H3 (upd (upd H3 dh (.own h)) h (.ins (He.ga K "NullHandler") dh [])) := made_same hh hdh (fun _ _ _ e => e)
  refine ⟨h, _, dh, y, dy, Y.md, _, [], rfl, upd_same, c2, (fun z => by rw [z, hy3] at hh; cases hh), t3 _ _ hy3, rfl, rfl, t3 _ _ hm3, by decide, fun H4 M => ⟨rfl, _, _, rfl, ?_⟩⟩
  obtain ⟨lh, j1, j2, j3, j4, _⟩ := M
  have S0 : Sc K H4 s l y (fun b => if b = true then h else p) 0 := Sc.start st1 hy hdy N T.c_Logger T.c_NullHandler T.n_Logger_filters T.n_NullHandler_filters k1 k2 k3 k6 k7 hh hdh j1 j2 j3 j4
  clear j1 j2 j3 j4 t3 hm3 hy3 k1 k2 k3 k4 k5 k6 k7 k8 k9 glm F N hh hdh st1 hy hdy
  -- the turns
  refine ⟨12, rfl, by decide, by decide, ?_⟩
  refine for_it (n := 12) walk_range (fun i σ H' => Sc K H' s l y (fun b => if b = true then h else p) (1000 * i) ∧ ∃ o5 o6 o7 o8 o9 o10 o11 o12, σ = sg a s y p h o5 o6 o7 o8 o9 o10 o11 o12) ⟨S0, _, _, _, _, _, _, _, _, rfl⟩ (fun _ _ _ _ _ => trivial) (fun i x σ H5 H6 hi hP hy => ?_) (fun σ H5 hP => ?_)
  · obtain ⟨rfl, rfl⟩ := hy
    obtain ⟨S, o5, o6, o7, o8, o9, o10, o11, o12, rfl⟩ := hP
    clear S0 hS
    -- two names
    refine ⟨_, rfl, s, l, _, rfl, S.stm, by omega, fun H6 nm q1 st6 ln1 => ⟨_, rfl, s, l, _, rfl, st6, by omega, fun H7 ot q2 st7 ln2 => ⟨_, _, rfl, ?_⟩⟩⟩
    have S7 := S.old (q1.trans q2) st7
    clear q1 q2 st6 st7 S
    -- the record's name
    dsimp only
    refine st_cont (fun v H8 => ∃ rn, v = V.str rn ∧ rn.length ≤ 200 ∧ Sc K H8 s l y (fun b => if b = true then h else p) (1000 * i + 500)) (fun Q' k' => ?_) (fun v H8 r => ?_)
    · refine ⟨_, rfl, s, l, _, 3, rfl, S7.stm, by omega, by decide, by decide, fun H8 d q8 st8 _ _ => ⟨rfl, _, rfl, ite2 (fun _ => ?_) (fun _ => ?_)⟩⟩
      · have S8 := S7.old q8 st8
        refine ⟨_, rfl, _, rfl, (by show 5 ≤ sizeLine; decide), fun z hz => ?_⟩
        have zz := same_new hz (.lst [.str "", .str ".", .str ".a", .str "a", .str ".a.b"])
        have nz : z ≠ s ∧ z ≠ l := by
          obtain ⟨_, _, _, _, _, g1, g2, _⟩ := S8.stm
          exact ⟨fun e => (by rw [e, g1] at hz; cases hz), fun e => (by rw [e, g2] at hz; cases hz)⟩
        refine ⟨s, l, z, _, _, rfl, (S8.same zz).stm, by omega, nz.1, nz.2, upd_same, (by decide), (by decide), fun H9 x q9 st9 hx => ?_⟩
        have e : x ∈ (["", ".", ".a", "a", ".a.b"] : List Str).map V.str := hx
        obtain ⟨u, hu, rfl⟩ := List.mem_map.mp e
        have hu2 : u.length ≤ 4 := by
          have a : ∀ z ∈ (["", ".", ".a", "a", ".a.b"] : List Str), z.length ≤ 4 := by decide
          exact a u hu
        refine ⟨nm, u, rfl, rfl, (by rw [sizeLine_eq]; omega), k' _ _ ⟨_, rfl, (by rw [len_add]; omega), ((S8.same zz).old q9 st9).mono (by omega)⟩⟩
      · exact ⟨_, rfl, k' _ _ ⟨ot, rfl, by omega, (S7.old q8 st8).mono (by omega)⟩⟩
    obtain ⟨rn, rfl, hrn, S8⟩ := r
    clear S7
    -- the filter and the record
    refine ⟨_, rfl, fun f df hf hdf hne3 => ⟨_, f, df, .str nm, rfl, upd_same, T.c_Filter, T.n_Filter_name, rfl, ?_⟩⟩
    have s9 : Same H8 (upd (upd (upd H8 df (.own f)) f (.ins (CF K) df [])) f (.ins (CF K) df [("name", .str nm)])) := by rw [upd_upd]; exact made_same hf hdf (fun _ _ _ e => e)
    have nf : ∀ b, f ≠ (if b = true then h else p) := fun b z => by
      obtain ⟨fl, g, _⟩ := S8.th
      obtain ⟨_, _, g1, _⟩ := g b
      rw [z, g1.ob] at hf; cases hf
    have F9 : FilterAt K (upd (upd (upd H8 df (.own f)) f (.ins (CF K) df [])) f (.ins (CF K) df [("name", .str nm)])) f nm := ⟨⟨df, upd_same⟩, by omega⟩
    generalize upd (upd (upd H8 df (.own f)) f (.ins (CF K) df [])) f (.ins (CF K) df [("name", .str nm)]) = H9 at s9 F9
    have S9 := S8.same s9
    clear S8 s9 hf hdf
    obtain ⟨dyy, fsy, dn, y1, y2, y3, y4, y5⟩ := id S9.yard.at_
    refine ⟨_, rfl, y, dyy, fsy, rfl, y1, y5 _ (by simp), _, rfl, y, _, rn, "m", "DEBUG", 10, 0, _, rfl, T.dt_Yard_make_record_0 _, S9.yard, rfl, fun H10 r s10 hr10 RA => ⟨_, _, rfl, ?_⟩⟩
    have nr : ∀ b, r ≠ (if b = true then h else p) := fun b z => by
      obtain ⟨fl, g, _⟩ := S9.th
      obtain ⟨_, _, g1, _⟩ := g b
      rw [z, g1.ob] at hr10; cases hr10
    have S10 := S9.same s10
    have F10 : FilterAt K H10 f nm := ⟨⟨F9.1.choose, s10 _ _ F9.1.choose_spec⟩, F9.2⟩
    have R10 := RA.name
    clear S9 F9 s10 hr10 RA y1 y2 y3 y4 y5
    -- what is due
    dsimp only
    refine st_cont (fun v H' => v = V.bl (passB rn nm) ∧ H' = H10) (fun Q' k' => ?_) (fun v H' z => ?_)
    · have ed := due_eq rn nm
      refine ⟨_, rfl, rfl, _, rfl, ?_⟩
      by_cases e : nm = ""
      · refine iteT' (decide_eq_true (congrArg V.str e)) (k' _ _ ⟨?_, rfl⟩)
        rw [← ed, decide_eq_true e, Bool.true_or]
      · refine iteF' (decide_eq_false fun z => e (V.str.inj z)) ?_
        refine ⟨_, rfl, rn, ".", rfl, rfl, (by rw [sizeLine_eq]; show rn.length + 1 ≤ _; omega), _, rfl, _, nm.length, rfl, ⟨(by rw [sizeLine_eq]; omega), rfl⟩, _, 1, rfl, rfl, _, rfl, _, rfl, (by rw [len_dot, sizeLine_eq]; omega), _, rfl, nm, ".", rfl, rfl, (by rw [sizeLine_eq]; show nm.length + 1 ≤ _; omega), rfl, k' _ _ ⟨?_, rfl⟩⟩
        rw [← ed, decide_eq_false e, Bool.false_or]
        simp
    obtain ⟨rfl, rfl⟩ := z
    dsimp only [gName]
    -- passes is what is due; the filter has its name
    obtain ⟨dff, hff⟩ := id F10.1
    refine ⟨_, rfl, f, dff, _, rfl, hff, rfl, _, rfl, f, r, nm, rn, rfl, F10, R10, _, rfl, _, _, rfl, fun H11 s11 => ⟨_, rfl, iteF' (by simp) ?_⟩⟩
    have S11 := S10.same s11
    have F11 : FilterAt K H11 f nm := ⟨⟨_, s11 _ _ hff⟩, F10.2⟩
    have R11 : RecName K H11 r rn := by obtain ⟨d, g, e1, e2⟩ := R10; exact ⟨d, g, s11 _ _ e1, e2⟩
    refine ⟨_, rfl, f, _, dff, _, _, rfl, s11 _ _ hff, T.c_Filter, T.n_Filter_name, rfl, _, rfl, rfl, _, rfl, iteF' (by simp) ?_⟩
    clear S10 F10 R10 s11 hff
    -- the things
    refine ⟨_, rfl, _, rfl, (by show 2 ≤ sizeLine; decide), fun t ht => ?_⟩
    have st := same_new ht (.tup [.ref p, .ref h])
    have T12 : SqT K (upd H11 t (.tup [.ref p, .ref h])) t [.ref p, .ref h] := .inl (.inl upd_same)
    have S12 := S11.same st
    have F12 : FilterAt K (upd H11 t (.tup [.ref p, .ref h])) f nm := ⟨⟨F11.1.choose, st _ _ F11.1.choose_spec⟩, F11.2⟩
    have R12 : RecName K (upd H11 t (.tup [.ref p, .ref h])) r rn := by obtain ⟨d, g, e1, e2⟩ := R11; exact ⟨d, g, st _ _ e1, e2⟩
    have tH12 : upd H11 t (.tup [.ref p, .ref h]) t = some (.tup [.ref p, .ref h]) := upd_same
    generalize upd H11 t (.tup [.ref p, .ref h]) = H12 at T12 S12 F12 R12 tH12
    clear S11 F11 R11 st ht
    refine ⟨t, rfl, ⟨_, T12⟩, ?_⟩
    refine for_it (walk_tup (xs := [.ref p, .ref h])) (fun j σ H' => (Sc K H' s l y (fun b => if b = true then h else p) (1000 * i + 500) ∧ FilterAt K H' f nm ∧ RecName K H' r rn ∧ H' t = some (.tup [.ref p, .ref h])) ∧ ∃ o11 o12, σ = sg a s y p h (some (.int (0 + i))) (some (.str nm)) (some (.str rn)) (some (.ref f)) (some (.ref r)) (some (.bl (passB rn nm))) o11 o12)
      ⟨⟨S12, F12, R12, tH12⟩, _, _, rfl⟩ (fun j σ H' _ h => .inl (.inl h.1.2.2.2)) (fun j x σ H14 H13 hj hP hx => ?_) (fun σ H13 hP => ?_)
    · obtain ⟨rfl, hx⟩ := hx
      obtain ⟨⟨S13, F13, R13, t13⟩, u11, u12, rfl⟩ := hP
      have hb : ∃ b : Bool, x = V.ref (if b = true then h else p) := by
        match j, hj, hx with
        | 0, _, hx => exact ⟨false, by cases hx; rfl⟩
        | 1, _, hx => exact ⟨true, by cases hx; rfl⟩
      obtain ⟨b, rfl⟩ := hb
      clear S12 F12 R12 tH12 T12 hx
      obtain ⟨fl, g, gne⟩ := S13.th
      obtain ⟨d, fs, g1, g2, g3, g4⟩ := id (g b)
      obtain ⟨dff, hff⟩ := id F13.1
      obtain ⟨dr, fr, r1, r2⟩ := id R13
      have isF : ∀ {Hx : Hp}, Hx f = some (.ins (CF K) dff [("name", .str nm)]) → ∀ c ∈ [f], IsF K Hx c := fun e c hc => by cases List.mem_singleton.mp hc; exact ⟨_, _, e⟩
      have nff : f ≠ fl b := fun z => by rw [z, g1.ls] at hff; cases hff
      have nrf : r ≠ fl b := fun z => by rw [z, g1.ls] at r1; cases r1
      have nqf : (if b = true then h else p) ≠ fl b := fun z => by have e := g1.ob; rw [z, g1.ls] at e; cases e
      -- addFilter
      refine or_meth (b := b) (fun v H' => H' = upd H13 (fl b) (.lst [.ref f])) (fun Q' k' => ?_) (fun v H' z => ?_)
      · refine ⟨_, rfl, _, d, fs, rfl, g1.ob, g4 _ (by simp), _, rfl, _, _, d, fl b, f, fs, [], rfl, g1, isF hff, k' _ _ ?_⟩
        rw [if_neg (by simp)]; rfl
      subst z
      have qa : upd H13 (fl b) (.lst [.ref f]) (if b = true then h else p) = some (.ins (cB K b) d fs) := by rw [upd_ne nqf]; exact g1.ob
      have fa : upd H13 (fl b) (.lst [.ref f]) f = some (.ins (CF K) dff [("name", .str nm)]) := by rw [upd_ne nff]; exact hff
      have ra : upd H13 (fl b) (.lst [.ref f]) r = some (.ins (CR K) dr fr) := by rw [upd_ne nrf]; exact r1
      have ga : HasF K (upd H13 (fl b) (.lst [.ref f])) (if b = true then h else p) (cB K b) d (fl b) fs [f] := ⟨qa, g1.cl, g1.no, g1.lk, upd_same, (by show 1 ≤ 100; decide), g1.fl⟩
      -- filtered
      refine or_meth (b := b) (fun v H' => v = (if passB rn nm = true then V.ref r else V.non) ∧ H' = upd H13 (fl b) (.lst [.ref f])) (fun Q' k' => ?_) (fun v H' z => ?_)
      · refine ⟨_, rfl, _, d, fs, rfl, qa, g4 _ (by simp), _, rfl, _, _, d, fl b, r, fs, [f], (fun _ => nm), rn, rfl, ga, (fun c hc => by cases List.mem_singleton.mp hc; exact ⟨⟨_, fa⟩, F13.2⟩), ⟨_, _, ra, r2⟩, k' _ _ ⟨?_, rfl⟩⟩
        simp
      obtain ⟨rfl, rfl⟩ := z
      -- removeFilter
      refine or_meth (b := b) (fun v H' => ∃ q2, upd H13 (fl b) (.lst [.ref f]) q2 = none ∧ H' = upd (upd (upd H13 (fl b) (.lst [.ref f])) q2 (.lst [])) (if b = true then h else p) (.ins (cB K b) d (putF "filters" (.ref q2) fs))) (fun Q' k' => ?_) (fun v H' z => ?_)
      · refine ⟨_, rfl, _, d, fs, rfl, qa, g4 _ (by simp), _, rfl, _, _, d, fl b, f, fs, [f], rfl, ga, (fun c hc => isF fa c (by simpa using hc)), fun q2 h2 => k' _ _ ⟨q2, h2, ?_⟩⟩
        simp
      obtain ⟨q2, hq2, rfl⟩ := z
      have n2q : q2 ≠ (if b = true then h else p) := fun z => by rw [z, qa] at hq2; cases hq2
      have hq3 := (upd_none hq2).2
      have hO : Old (if b = true then h else p) (fl b) H13 (upd (upd (upd H13 (fl b) (.lst [.ref f])) q2 (.lst [])) (if b = true then h else p) (.ins (cB K b) d (putF "filters" (.ref q2) fs))) := fun c o h1 h2 e => by
        rw [upd_ne h1, upd_ne (ne_of_none e hq3), upd_ne h2]; exact e
      have eb := nf b
      have eb2 := nr b
      have fb := hO _ _ eb nff hff
      have rb := hO _ _ eb2 nrf r1
      have tb : t ≠ (if b = true then h else p) := fun z => by rw [z, g1.ob] at t13; cases t13
      have tb2 := hO _ _ tb (fun z => by rw [z, g1.ls] at t13; cases t13) t13
      have tq : Th K (upd (upd (upd H13 (fl b) (.lst [.ref f])) q2 (.lst [])) (if b = true then h else p) (.ins (cB K b) d (putF "filters" (.ref q2) fs))) s l (if b = true then h else p) (cB K b) q2 := by
        refine ⟨d, putF "filters" (.ref q2) fs, ⟨upd_same, g1.cl, g1.no, by rw [lookup_putF, if_pos rfl], by rw [upd_ne n2q]; exact upd_same, by decide, ?_⟩, ?_, ?_, fun m hm => ?_⟩
        · rw [length_putF_mem _ _ _ (by rw [g1.lk]; exact fun z => nomatch z)]; exact g1.fl
        · obtain ⟨_, _, _, _, _, z1, _⟩ := S13.stm
          exact ne_of_none z1 hq3 |>.symm
        · obtain ⟨_, _, _, _, _, _, z1, _⟩ := S13.stm
          exact ne_of_none z1 hq3 |>.symm
        · have hm2 := g4 m hm
          rw [lookup_putF, if_neg ?_]
          · exact hm2
          · simp only [List.mem_cons, List.not_mem_nil, or_false] at hm
            rcases hm with rfl | rfl | rfl <;> decide
      have Sb := S13.step b g gne hO hq3 tq
      generalize upd (upd (upd H13 (fl b) (.lst [.ref f])) q2 (.lst [])) (if b = true then h else p) (.ins (cB K b) d (putF "filters" (.ref q2) fs)) = H14 at Sb fb rb tb2 tq
      have ib : RA.InsP K H14 r (CR K) := ⟨⟨_, _, rb⟩, T.p_LogRecord⟩
      obtain ⟨d2, fs2, x1, x2, x3, x4⟩ := id tq
      refine ⟨_, rfl, _, rfl, ?_⟩
      cases hB : passB rn nm
      · refine ⟨_, rfl, iteF' rfl (.inl ⟨rfl, _, rfl, iteF' (by simp) ?_⟩)⟩
        refine or_meth (b := b) (fun v H' => v = V.ref r ∧ H' = H14) (fun Q' k' => ?_) (fun v H' z => ?_)
        · exact ⟨_, rfl, _, d2, fs2, rfl, x1.ob, x4 _ (by simp), _, rfl, _, _, d2, q2, r, fs2, [], (fun _ => nm), rn, rfl, x1, (fun c hc => nomatch hc), ⟨_, _, rb, r2⟩, k' _ _ ⟨rfl, rfl⟩⟩
        obtain ⟨rfl, rfl⟩ := z
        exact ⟨_, rfl, r, _, r, _, rfl, ib, rfl, ib, T.sub_LogRecord_LogRecord, _, rfl, iteF' (by simp) ⟨⟨Sb, ⟨⟨_, fb⟩, F13.2⟩, ⟨_, _, rb, r2⟩, tb2⟩, _, _, rfl⟩⟩
      · refine ⟨_, rfl, iteT' rfl ⟨_, rfl, .inr ⟨r, _, r, _, rfl, ib, rfl, ib, T.sub_LogRecord_LogRecord, _, rfl, iteF' (by simp) ?_⟩⟩⟩
        refine or_meth (b := b) (fun v H' => v = V.ref r ∧ H' = H14) (fun Q' k' => ?_) (fun v H' z => ?_)
        · exact ⟨_, rfl, _, d2, fs2, rfl, x1.ob, x4 _ (by simp), _, rfl, _, _, d2, q2, r, fs2, [], (fun _ => nm), rn, rfl, x1, (fun c hc => nomatch hc), ⟨_, _, rb, r2⟩, k' _ _ ⟨rfl, rfl⟩⟩
        obtain ⟨rfl, rfl⟩ := z
        exact ⟨_, rfl, r, _, r, _, rfl, ib, rfl, ib, T.sub_LogRecord_LogRecord, _, rfl, iteF' (by simp) ⟨⟨Sb, ⟨⟨_, fb⟩, F13.2⟩, ⟨_, _, rb, r2⟩, tb2⟩, _, _, rfl⟩⟩
    · obtain ⟨⟨S13, F13, R13, t13⟩, u11, u12, rfl⟩ := hP
      obtain ⟨dr, fr, r1, r2⟩ := id R13
      intro f2 df2 hf2 hdf2 hne4
      refine ⟨_, f2, df2, .str "", rfl, upd_same, T.c_Filter, T.n_Filter_name, rfl, ?_⟩
      have sf : Same H13 (upd (upd (upd H13 df2 (.own f2)) f2 (.ins (CF K) df2 [])) f2 (.ins (CF K) df2 [("name", .str "")])) := by rw [upd_upd]; exact made_same hf2 hdf2 (fun _ _ _ e => e)
      refine ⟨f2, df2, _, rfl, upd_same, rfl, _, rfl, f2, r, "", rn, rfl, ⟨⟨_, upd_same⟩, by decide⟩, ⟨_, _, sf _ _ r1, r2⟩, _, true, rfl, rfl, _, rfl, iteF' (by unfold passB; simp) ?_⟩
      exact ⟨_, rfl, r, _, dr, fr, _, rfl, sf _ _ r1, T.c_LogRecord, T.n_LogRecord_name, r2, _, rfl, rfl, _, rfl, iteF' (by simp) ⟨(S13.same sf).mono (by omega), _, _, _, _, _, _, _, _, rfl⟩⟩
  · obtain ⟨S, o5, o6, o7, o8, o9, o10, o11, o12, rfl⟩ := hP
    intro f2 df2 hf2 hdf2 hne4
    refine ⟨_, f2, df2, .str "", rfl, upd_same, T.c_Filter, T.n_Filter_name, rfl, f2, _, df2, _, _, rfl, upd_same, T.c_Filter, T.n_Filter_name, rfl, rfl, ?_⟩
    rw [decide_eq_true rfl]
    exact hQ _
end
end K17

set_option Elab.async false
set_option linter.all false
set_option maxRecDepth 100000
set_option maxHeartbeats 0
namespace K17
open PySem PySem.Spec PyProof.Rows L2 RC
section
variable {P : Program} {w : World} {K : PySem.W.Frag} {mg : Str → Option Value} {base : Heap}
/-! ### all together -/
theorem ok_law {f : Addr} {fd : FuncData} (T : Txt P w K mg) (F : FunD K "law" "law" (defArgs s_law) (defBody s_law) (defScope s_law) [] [] f fd) : FnOk P w K mg base CX0 7 f fd ["_law_script"] (spLaw K) := by
  have c_draw := ok_draw (base := base) T T.d__law_draw
  have c_pick := ok_pick (base := base) T T.d__law_pick c_draw
  have c_same := ok_same (base := base) T T.d__law_same
  have c_name := ok_name (base := base) T T.d__law_name c_draw c_pick
  have c_odd := ok_odd_name (base := base) T T.d__law_odd_name c_draw c_pick c_name
  have c_fi := ok_filterer_init (base := base) T T.d_Filterer_init
  have c_enrol := ok_enrol (base := base) T T.d_Yard_enrol
  have c_hi := ok_handler_init (base := base) T T.d_Handler_init c_fi c_enrol
  have c_ni := ok_handler_init (base := base) T T.d_NullHandler_init c_fi c_enrol
  have c_si := ok_stream_init (base := base) T T.d_StreamHandler_init c_hi
  have c_li := ok_logger_init (base := base) T T.d_Logger_init c_fi
  have c_yi := ok_yard_init (base := base) T T.d_Yard_init c_li c_si
  have c_part := ok_is_part (base := base) T T.d_is_part
  have c_parts := ok_are_parts (base := base) T T.d_are_parts c_part
  have c_parent := ok_parent_of (base := base) T T.d_parent_of
  have c_place := ok_place (base := base) T T.d_place_loggers c_parent
  have c_get := ok_getLogger (base := base) T T.d_Yard_getLogger c_parts c_li c_place
  have c_copied := ok_copied (base := base) T T.d_copied_value
  have c_ri := ok_rec_init (base := base) T T.d_LogRecord_init c_copied
  have c_isint := ok_is_integer (base := base) T T.d_is_integer
  have c_lo := ok_level_of (base := base) T T.d_Yard_level_of c_isint
  have c_ln := ok_level_name (base := base) T T.d_Yard_level_name
  have c_rec := ok_make_record (base := base) (dvs := []) T T.d_Yard_make_record c_lo c_ln c_ri
  have c_below := ok_below (base := base) T T.d_is_below
  have c_fin := ok_filter_init (base := base) (dvs := []) T T.d_Filter_init
  have c_passes := ok_passes (base := base) (fb := 0) T T.d_Filter_passes c_below
  have c_let := ok_let_by (base := base) T T.d_let_by c_passes
  refine F.ok sc_law (fun vs H Q E h => ?_) (fun cdv A outer s H vs Q E hr hsp => ?_)
  · obtain ⟨a, ns, rfl, _⟩ := h; rfl
  obtain ⟨t, h, q⟩ := law_body T hr hsp c_draw c_pick c_same c_odd c_yi c_get c_ni c_fin.1 c_fin.2 c_rec c_passes (ok_addFilter T T.d_Logger_addFilter) (ok_addFilter T T.d_NullHandler_addFilter) (ok_removeFilter T T.d_Logger_removeFilter) (ok_removeFilter T T.d_NullHandler_removeFilter)
    (ok_filtered T T.d_Logger_filtered c_let) (ok_filtered T T.d_NullHandler_filtered c_let)
  exact ⟨t, h.nox, q⟩
theorem facts {f : Addr} {h : Heap} (X : K.In h) (G : h.Ns mainGlobals mg) (hfa : mg ("law" : Str) = some (.ref f)) (c : RB.SaysB fa fx fn ts w K) :
    ∃ fd : FuncData, (∀ (s : Shared) (v : Value), BindsTo s fd ⟨[v], []⟩ [("_law_script", v)]) ∧ ∀ base : Heap, FnOk P w K mg base CX0 7 f fd ["_law_script"] (spLaw K) := by
  have T : Txt P w K mg := Txt.of X G c
  obtain ⟨fd, F⟩ := T.d_law
  have e := hfa.symm.trans T.g_law
  cases e
  have b := FunD.bindsA (ps := ["_law_script"]) F fun _ _ _ _ _ _ us hl => match us, hl with | [_], _ => rfl
  exact ⟨fd, fun s v => b s [v] rfl, fun base => ok_law T F⟩
end
end K17
open PySem PySem.W PySem.Calls PyProof.Rows
set_option maxHeartbeats 0
theorem PySem.Challenge.cw_recordyard_k17_filters_by_names_holds : PySem.Challenge.rw_recordyard_k17_filters_by_names.Holds := by
  w_on; o_law
  refine HandSHeadRun.head_any (r := OpenLaw.row PySem.Challenge.rw_recordyard_k17_filters_by_names) (q := view (OpenLaw.row PySem.Challenge.rw_recordyard_k17_filters_by_names).prog [47]) (H := K17.hk) (ob := K17.ob) (M := 9000) (loose := K17.names) (d := HandSHeadRun.topDef (OpenLaw.row PySem.Challenge.rw_recordyard_k17_filters_by_names).prog 47) (kwd := []) K17.ob_eq
    (by kernel_rfl) (fun s => by kernel_rfl) K17.run (by kernel_rfl) (by kernel_rfl) (by kernel_rfl) (by rfl) (by first | assumption | decide +kernel) (by decide +kernel) ⟨rfl, rfl, rfl, rfl, rfl, by decide +kernel⟩ ?hw ?hc
  case hw => w_witness2
  case hc =>
    refine L2.walk_ofE (l := PySem.Challenge.rw_recordyard_k17_filters_by_names) (n := 63) (k := 7) (x := "_law_script") (CX := L2.CX0) rfl (by decide) (by kernel_rfl) ⟨rfl, by decide, by decide⟩ ?F (fun _ _ _ _ z => z)
    intro w mg fa h Y G hmg0
    obtain ⟨K, KX, c⟩ := Y
    have hmg : mg ("law" : PySem.Str) = some (.ref fa) := by
      have e : (HandSHeadRun.topDef (OpenLaw.row PySem.Challenge.rw_recordyard_k17_filters_by_names).prog 47).name = ("law" : PySem.Str) := by kernel_rfl
      rw [← e]
      exact hmg0
    obtain ⟨fd, hb, hF⟩ := K17.facts (P := (PySem.Challenge.rw_recordyard_k17_filters_by_names).prog) (w := w) KX G hmg c
    exact ⟨K, fd, K17.spLaw K, KX, hb, fun H a ns hl _ hS => ⟨a, ns, rfl, hl, hS, fun _ => rfl⟩, fun base _ _ => hF base⟩
