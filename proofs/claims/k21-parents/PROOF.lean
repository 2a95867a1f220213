import PyProof.Rows.All
import Wide.All
import OpenK.AllK
import Wide.FinOn
import PyProof.EqAt
import PyProof.EqKinds
import PyProof.TupleCall
import HandS.Base
import HandS.Call
import HandS.List
import HandS.Dict
import HandS.More
import HandS.Slots
import HandS.ClsMeth
import KE.KStateDown
import HandS.Exc
import HandS.IsInst
import HandS.Defaults
import HandS.HeadHook1
import HandS.HeadHook2
import HandS.Head0
import HandS.Head1
import HandS.Head2
import HandS.HeadEnd
import HandS.ForMost
import HandS.Walk
import PyProof.NeKinds
import PyProof.StrBlock2
import HandS.Sort
import HandS.Text
import HandS.Style
import HandS.Steps
import HandS.Conv
import PySem.Challenge.RW_recordyard_k21_parents_and_children
set_option Elab.async false
set_option linter.all false
set_option maxRecDepth 100000
set_option maxHeartbeats 4000000
/-! Rules beyond the layer: == and != of instances of classes without an own __eq__ (by identity), in and not in over lists of such, a def read off its class. -/
namespace RA
open PySem PySem.Spec PyProof.Rows PySem.SeqAt
/-- a class whose instances are equal by identity -/
structure PlainC (K : PySem.W.Frag) (C : Addr) : Prop where
  mro : PySem.W.mroIn K C (.type "object") = some true
  eq : PySem.W.findIn K (.ref C) "__eq__" = some (some (.builtin "object.__eq__"))
  ne : PySem.W.findIn K (.ref C) "__ne__" = some (some (.builtin "object.__ne__"))
def PairC (K : PySem.W.Frag) (C D : Addr) : Prop := C = D ∨ ∃ b, PySem.W.subIn K (.ref D) (.ref C) = some b
section
variable {M : Model} {prog : Program} {w : World} {A : Around} {E : Value → Shared → Prop} {s : Shared} {K : PySem.W.Frag} {x y C D : Addr} {ox oy : Obj} {od od' : Option Obj}
theorem inst_get (I : PySem.W.InstAt s.heap x ox C od) : s.heap.get? x = some ox := I.at_
theorem inst_notup (I : PySem.W.InstAt s.heap x ox C od) : ox.cls ≠ .type "tuple" := by
  rw [I.cls]; intro z; cases z
theorem eq_same {Q : Value → Shared → Prop} (X : K.In s.heap) (I : PySem.W.InstAt s.heap x ox C od) (hm : PySem.W.mroIn K C (.type "object") = some true) (hq : Q (.bool true) s) :
    wpAny (model prog w) A (call (.builtin "object.__eq__") [.ref x, .ref x]) Q E s :=
  wpAny_call (codeAny_call_builtin F.cmp_object.eq.plain F.cmpEntry_eq (PySem.W.check_slot F.cmpKind_eq F.cmpSplit_eq (I.type.andThen (PySem.W.looks_mroIn X hm)) (F.cmpArgs_eq _ _) (objEq_entry_same hq)))
theorem eq_other {Q : Value → Shared → Prop} (X : K.In s.heap) (I : PySem.W.InstAt s.heap x ox C od) (hm : PySem.W.mroIn K C (.type "object") = some true) (hy : s.heap.get? y = some oy) (hxy : x ≠ y) (hq : Q .notImplemented s) :
    wpAny (model prog w) A (call (.builtin "object.__eq__") [.ref x, .ref y]) Q E s :=
  wpAny_call (codeAny_call_builtin F.cmp_object.eq.plain F.cmpEntry_eq (PySem.W.check_slot F.cmpKind_eq F.cmpSplit_eq (I.type.andThen (PySem.W.looks_mroIn X hm)) (F.cmpArgs_eq _ _) (objEq_entry_other hxy (inst_get I) hy (inst_notup I) hq)))
theorem ifB_ne {args : List Value} {Q : Option Value → Shared → Prop} (X : K.In s.heap) (I : PySem.W.InstAt s.heap x ox C od) (hs : PySem.W.findIn K (.ref C) "__ne__" = some (some (.builtin "object.__ne__")))
    (h : wpAny M A (call (.builtin "object.__ne__") (.ref x :: args)) (fun v => Q (some v)) E s) : wpAny M A (callSpecialIfBound? (.ref x) "__ne__" args) Q E s := by
  simp only [callSpecialIfBound?, bindSpecialIfBound?]
  refine wpAny_holding (wpAny_bind (wpAny_bind (wpAny_bind (I.type.here ((PySem.W.looks_findIn X hs).here ?_)))))
  refine wpAny_bind (wpAny_askSetting (wpAny_ite ?_))
  have fin : wpAny M A (call (.builtin "object.__ne__") ([.ref x] ++ args) >>= fun v => pure (some v)) Q E s := wpAny_bind (wpAny_mono h (fun v s' h' => wpAny_pure h') fun _ _ h' => h')
  split
  · exact wpAny_bind (wpAny_of_eq (F.cmp_object.ne.bind _) (wpAny_pure (by exact fin)))
  · exact wpAny_tryCatch (wpAny_bind (wpAny_of_eq (F.cmp_object.ne.bind _) (wpAny_pure (by exact fin))))
theorem ne_entry_same {Q : Fin → Shared → Prop} (X : K.In s.heap) (I : PySem.W.InstAt s.heap x ox C od) (P : PlainC K C) (hu : A.units < cLine) (hq : Q (.done (.ret (.bool false))) s) :
    wpAny (model prog w) A (Builtin.«object.__ne__» ⟨[.ref x, .ref x], []⟩) Q E s := by
  unfold Builtin.«object.__ne__»
  repeat (first | with_reducible refine wpAny_cRoomFor hu ?_ | with_reducible refine HN.ifBound_objEq X I P.eq (eq_same X I P.mro ?_) | wp_step)
  exact hq
theorem ne_entry_other {Q : Fin → Shared → Prop} (X : K.In s.heap) (I : PySem.W.InstAt s.heap x ox C od) (P : PlainC K C) (hy : s.heap.get? y = some oy) (hxy : x ≠ y) (hu : A.units < cLine) (hq : Q (.done (.ret .notImplemented)) s) :
    wpAny (model prog w) A (Builtin.«object.__ne__» ⟨[.ref x, .ref y], []⟩) Q E s := by
  unfold Builtin.«object.__ne__»
  repeat (first | with_reducible refine wpAny_cRoomFor hu ?_ | with_reducible refine HN.ifBound_objEq X I P.eq (eq_other X I P.mro hy hxy ?_) | wp_step)
  exact hq
theorem try_eq_same {Q : Option Value → Shared → Prop} (X : K.In s.heap) (I : PySem.W.InstAt s.heap x ox C od) (P : PlainC K C) (h : Q (some (.bool true)) s) : wpAny (model prog w) A (tryCompare (.ref x) "__eq__" (.ref x)) Q E s := by
  unfold tryCompare
  exact wpAny_bind (HN.ifBound_objEq X I P.eq (eq_same X I P.mro (wpAny_pure h)))
theorem try_eq_other {Q : Option Value → Shared → Prop} (X : K.In s.heap) (I : PySem.W.InstAt s.heap x ox C od) (P : PlainC K C) (hy : s.heap.get? y = some oy) (hxy : x ≠ y) (h : Q none s) : wpAny (model prog w) A (tryCompare (.ref x) "__eq__" (.ref y)) Q E s := by
  unfold tryCompare
  exact wpAny_bind (HN.ifBound_objEq X I P.eq (eq_other X I P.mro hy hxy (wpAny_pure h)))
theorem try_ne_same {Q : Option Value → Shared → Prop} (hu : A.units + 1 < cLine) (X : K.In s.heap) (I : PySem.W.InstAt s.heap x ox C od) (P : PlainC K C) (h : Q (some (.bool false)) s) : wpAny (model prog w) A (tryCompare (.ref x) "__ne__" (.ref x)) Q E s := by
  unfold tryCompare
  refine wpAny_bind (ifB_ne X I P.ne (wpAny_call (codeAny_call_builtin F.cmp_object.ne.plain F.cmpEntry_ne (PySem.W.check_slot F.cmpKind_ne F.cmpSplit_ne (I.type.andThen (PySem.W.looks_mroIn X P.mro)) (F.cmpArgs_ne _ _) (ne_entry_same (A := A.in1) X I P hu ?_)))))
  exact wpAny_pure h
theorem try_ne_other {Q : Option Value → Shared → Prop} (hu : A.units + 1 < cLine) (X : K.In s.heap) (I : PySem.W.InstAt s.heap x ox C od) (P : PlainC K C) (hy : s.heap.get? y = some oy) (hxy : x ≠ y) (h : Q none s) : wpAny (model prog w) A (tryCompare (.ref x) "__ne__" (.ref y)) Q E s := by
  unfold tryCompare
  refine wpAny_bind (ifB_ne X I P.ne (wpAny_call (codeAny_call_builtin F.cmp_object.ne.plain F.cmpEntry_ne (PySem.W.check_slot F.cmpKind_ne F.cmpSplit_ne (I.type.andThen (PySem.W.looks_mroIn X P.mro)) (F.cmpArgs_ne _ _) (ne_entry_other (A := A.in1) X I P hy hxy hu ?_)))))
  exact wpAny_pure h
theorem rc_same (hu : A.units < cLine) (X : K.In s.heap) (I : PySem.W.InstAt s.heap x ox C od) (P : PlainC K C) : RcAt A s (.ref x) (.ref x) true := fun prog w E Q h => by
  simp only [richCompare, cmpInfo_Eq, oneThing_ref]
  refine wpAny_holding (wpAny_bind (wpAny_cRoomFor hu ?_))
  refine wpAny_bind (I.type.here (wpAny_bind (I.type.here ?_)))
  rw [if_neg (by simp)]
  refine wpAny_bind (wpAny_pure ?_)
  simp only [Bool.false_eq_true, if_false]
  exact wpAny_bind (try_eq_same X I P (wpAny_pure h))
theorem rcn_same (hu : A.units + 1 < cLine) (X : K.In s.heap) (I : PySem.W.InstAt s.heap x ox C od) (P : PlainC K C) {Q : Value → Shared → Prop} (h : Q (.bool false) s) : wpAny (model prog w) A (richCompare .NotEq (.ref x) (.ref x)) Q E s := by
  simp only [richCompare, cmpInfo_NotEq, oneThing_ref]
  refine wpAny_holding (wpAny_bind (wpAny_cRoomFor (Nat.lt_of_succ_lt hu) ?_))
  refine wpAny_bind (I.type.here (wpAny_bind (I.type.here ?_)))
  rw [if_neg (by simp)]
  refine wpAny_bind (wpAny_pure ?_)
  simp only [Bool.false_eq_true, if_false]
  exact wpAny_bind (try_ne_same hu X I P (wpAny_pure h))
theorem rc_other (hu : A.units < cLine) (X : K.In s.heap) (I : PySem.W.InstAt s.heap x ox C od) (J : PySem.W.InstAt s.heap y oy D od') (P : PlainC K C) (P' : PlainC K D) (hp : PairC K C D) (hxy : x ≠ y) : RcAt A s (.ref x) (.ref y) false := fun prog w E Q h => by
  have fin : ∀ (tag : String), wpAny (model prog w) A (rule tag >>= fun _ => isSame (.ref x) (.ref y) >>= fun b => pure (Value.bool b)) Q E s := fun tag =>
    wpAny_bind (wpAny_rule (wpAny_bind (wpAny_isSame_ref_other hxy (inst_get I) (inst_get J) (inst_notup I) (wpAny_pure h))))
  simp only [richCompare, cmpInfo_Eq, oneThing_ref]
  refine wpAny_holding (wpAny_bind (wpAny_cRoomFor hu ?_))
  refine wpAny_bind (I.type.here (wpAny_bind (J.type.here ?_)))
  by_cases hCD : C = D
  · subst hCD
    rw [if_neg (by simp)]
    refine wpAny_bind (wpAny_pure ?_)
    simp only [Bool.false_eq_true, if_false, Bool.not_false, if_true]
    refine wpAny_bind (try_eq_other X I P (inst_get J) hxy ?_)
    refine wpAny_bind (try_eq_other X J P' (inst_get I) (Ne.symm hxy) ?_)
    exact fin _
  · rw [if_pos (by simp [hCD])]
    obtain ⟨b, hb⟩ := hp.resolve_left hCD
    refine wpAny_bind ((PySem.W.looks_subIn X hb).here ?_)
    cases b with
    | false =>
      simp only [Bool.false_eq_true, if_false, Bool.not_false, if_true]
      refine wpAny_bind (try_eq_other X I P (inst_get J) hxy ?_)
      refine wpAny_bind (try_eq_other X J P' (inst_get I) (Ne.symm hxy) ?_)
      exact fin _
    | true =>
      simp only [Bool.not_true, Bool.false_eq_true, if_false, if_true]
      refine wpAny_bind (try_eq_other X J P' (inst_get I) (Ne.symm hxy) ?_)
      refine wpAny_bind (try_eq_other X I P (inst_get J) hxy ?_)
      exact fin _
theorem rcn_other (hu : A.units + 1 < cLine) (X : K.In s.heap) (I : PySem.W.InstAt s.heap x ox C od) (J : PySem.W.InstAt s.heap y oy D od') (P : PlainC K C) (P' : PlainC K D) (hp : PairC K C D) (hxy : x ≠ y) {Q : Value → Shared → Prop} (h : Q (.bool true) s) :
    wpAny (model prog w) A (richCompare .NotEq (.ref x) (.ref y)) Q E s := by
  have fin : ∀ (tag : String), wpAny (model prog w) A (rule tag >>= fun _ => isSame (.ref x) (.ref y) >>= fun b => pure (Value.bool (!b))) Q E s := fun tag =>
    wpAny_bind (wpAny_rule (wpAny_bind (wpAny_isSame_ref_other hxy (inst_get I) (inst_get J) (inst_notup I) (wpAny_pure h))))
  simp only [richCompare, cmpInfo_NotEq, oneThing_ref]
  refine wpAny_holding (wpAny_bind (wpAny_cRoomFor (Nat.lt_of_succ_lt hu) ?_))
  refine wpAny_bind (I.type.here (wpAny_bind (J.type.here ?_)))
  by_cases hCD : C = D
  · subst hCD
    rw [if_neg (by simp)]
    refine wpAny_bind (wpAny_pure ?_)
    simp only [Bool.false_eq_true, if_false, Bool.not_false, if_true]
    refine wpAny_bind (try_ne_other hu X I P (inst_get J) hxy ?_)
    refine wpAny_bind (try_ne_other hu X J P' (inst_get I) (Ne.symm hxy) ?_)
    exact fin _
  · rw [if_pos (by simp [hCD])]
    obtain ⟨b, hb⟩ := hp.resolve_left hCD
    refine wpAny_bind ((PySem.W.looks_subIn X hb).here ?_)
    cases b with
    | false =>
      simp only [Bool.false_eq_true, if_false, Bool.not_false, if_true]
      refine wpAny_bind (try_ne_other hu X I P (inst_get J) hxy ?_)
      refine wpAny_bind (try_ne_other hu X J P' (inst_get I) (Ne.symm hxy) ?_)
      exact fin _
    | true =>
      simp only [Bool.not_true, Bool.false_eq_true, if_false, if_true]
      refine wpAny_bind (try_ne_other hu X J P' (inst_get I) (Ne.symm hxy) ?_)
      refine wpAny_bind (try_ne_other hu X I P (inst_get J) hxy ?_)
      exact fin _
end
end RA
namespace RA
open PySem PySem.Spec PyProof.Rows PySem.SeqAt L2
/-- an instance of a plain class stands there -/
def InsP (K : PySem.W.Frag) (H : Hp) (a C : Addr) : Prop := (∃ dx fs, H a = some (.ins C dx fs)) ∧ PlainC K C
theorem InsP.of {K : PySem.W.Frag} {H : Hp} {a C dx : Addr} {fs : List (Str × V)} (h : H a = some (.ins C dx fs)) (p : PlainC K C) : InsP K H a C := ⟨⟨dx, fs, h⟩, p⟩
section
variable {X : Cx} {pins : List (Addr × Obj)} {σ : L2.St} {H : Hp} {s : Shared}
theorem insp_at {a C : Addr} (I : Inv X pins σ H s) (h : InsP X.K H a C) : ∃ ox od, PySem.W.InstAt s.heap a ox C od := by
  obtain ⟨⟨dx, fs, ha⟩, _⟩ := h
  obtain ⟨mA, O, _⟩ := ins_get I.hok ha
  obtain ⟨od, J, _⟩ := O.look
  exact ⟨_, _, J⟩
/-- x == y: y an instance, None, or a number, a text, a truth -/
def rEqP (K : PySem.W.Frag) : R2 := fun x y H Q => ∃ a C, x = .ref a ∧ InsP K H a C ∧ ((y = .non ∧ Q (.bl false) H) ∨ ∃ b D, y = .ref b ∧ InsP K H b D ∧ PairC K C D ∧ Q (.bl (decide (a = b))) H)
def rNeP (K : PySem.W.Frag) : R2 := fun x y H Q => ∃ a C b D, x = .ref a ∧ InsP K H a C ∧ y = .ref b ∧ InsP K H b D ∧ PairC K C D ∧ Q (.bl (!decide (a = b))) H
theorem op_eqP (hu : X.A.units < cLine) : OpR X (compareOp .Eq) (rEqP X.K) := by
  intro pins s σ H x y v u Q I rx ry h
  obtain ⟨a, C, rfl, ha, h⟩ := h
  cases rx
  obtain ⟨ox, od, Ia⟩ := insp_at I ha
  rcases h with ⟨rfl, q⟩ | ⟨b, D, rfl, hb, hp, q⟩
  · cases ry
    exact HN.rc_none hu I.kIn Ia ha.2.mro ha.2.eq _ _ _ _ (fin_bl I q rfl)
  · cases ry
    obtain ⟨oy, od', Ib⟩ := insp_at I hb
    by_cases z : a = b
    · subst z
      have e : C = D := by
        have h1 := Ia.cls.symm.trans ((congrArg Obj.cls (Option.some.inj (Ia.at_.symm.trans Ib.at_))).trans Ib.cls)
        exact Value.ref.inj h1
      subst e
      exact rc_same hu I.kIn Ia ha.2 _ _ _ _ (fin_bl I q (by simp))
    · exact rc_other hu I.kIn Ia Ib ha.2 hb.2 hp z _ _ _ _ (fin_bl I q (by simp [z]))
theorem op_neP (hu : X.A.units + 1 < cLine) : OpR X (compareOp .NotEq) (rNeP X.K) := by
  intro pins s σ H x y v u Q I rx ry h
  obtain ⟨a, C, b, D, rfl, ha, rfl, hb, hp, q⟩ := h
  cases rx
  cases ry
  obtain ⟨ox, od, Ia⟩ := insp_at I ha
  obtain ⟨oy, od', Ib⟩ := insp_at I hb
  by_cases z : a = b
  · subst z
    exact rcn_same hu I.kIn Ia ha.2 (fin_bl I q (by simp))
  · exact rcn_other hu I.kIn Ia Ib ha.2 hb.2 hp z (fin_bl I q (by simp [z]))
/-- x in l: x an instance, the items instances -/
def rInP (K : PySem.W.Frag) (neg : Bool) : R2 := fun x y H Q => ∃ (a C p : Addr) (as : List Addr), x = .ref a ∧ InsP K H a C ∧ y = .ref p ∧ SqL K H p (as.map V.ref) ∧ (∀ b ∈ as, ∃ D, InsP K H b D ∧ PairC K D C) ∧ Q (.bl (if neg then !decide (a ∈ as) else decide (a ∈ as))) H
theorem eqAt_ref {A : Around} {a b C D : Addr} (I : Inv X pins σ H s) (hu : A.units < cLine) (ha : InsP X.K H a C) (hb : InsP X.K H b D) (hp : PairC X.K D C) : EqAt A s (.ref b) (.ref a) (decide (b = a)) := by
  by_cases z : b = a
  · subst z
    rw [decide_eq_true rfl]
    exact EqAt.same _
  · rw [decide_eq_false z]
    obtain ⟨ox, od, Ia⟩ := insp_at I ha
    obtain ⟨oy, od', Ib⟩ := insp_at I hb
    intro prog w E Q h
    unfold eqBool
    refine wpAny_holding ?_
    refine wpAny_ite_split (fun hab => absurd (eq_of_beq hab) (fun e => z (Value.ref.inj e))) (fun _ => ?_)
    exact wpAny_bind (rc_other hu I.kIn Ib Ia hb.2 ha.2 hp z prog w E _ (wpAny_truthy_bool h))
theorem any_refs {a : Addr} : ∀ {as : List Addr} {us : List Value}, Vals (as.map V.ref) us → us.any (fun u => u == .ref a) = decide (a ∈ as)
  | [], _, .nil => by simp
  | b :: as, u :: us, .cons r t => by
    cases (show u = Value.ref b from r)
    rw [List.any_cons, any_refs t]
    by_cases z : b = a
    · subst z; simp
    · have z' : ¬ a = b := fun e => z e.symm
      simp [z, z']
theorem mem_refs {A : Around} {a C : Addr} (I : Inv X pins σ H s) (hu : A.units < cLine) (ha : InsP X.K H a C) : ∀ {as : List Addr} {us : List Value}, Vals (as.map V.ref) us → (∀ b ∈ as, ∃ D, InsP X.K H b D ∧ PairC X.K D C) → ∀ u ∈ us, EqAt A s u (.ref a) (u == .ref a)
  | [], _, .nil, _ => fun u hu' => by cases hu'
  | b :: as, u :: us, .cons r t, f => fun u' hu' => by
    rcases List.mem_cons.mp hu' with e | hu'
    · subst e
      cases (show u' = Value.ref b from r)
      obtain ⟨D, hb, hp⟩ := f b (List.mem_cons_self ..)
      have e2 : (Value.ref b == Value.ref a) = decide (b = a) := by
        by_cases z : b = a <;> simp [z]
      rw [e2]
      exact eqAt_ref I hu ha hb hp
    · exact mem_refs I hu ha t (fun z hz => f z (List.mem_cons_of_mem _ hz)) u' hu'
theorem op_inP (hu : X.A.units + 64 < cLine) : OpR X (compareOp .In) (rInP X.K false) := by
  intro pins s σ H x y v u Q I rx ry h
  obtain ⟨a, C, p, as, rfl, ha, rfl, hq, f, q⟩ := h
  cases rx
  cases ry
  obtain ⟨its, rv, hl, _⟩ := I.list hq
  have hu1 : X.A.in1.units < cLine := by show X.A.units + 1 < cLine; omega
  refine SeqAt.in_listAt (fun u => u == .ref a) hl.isList (fun z hz => mem_refs I hu1 ha rv f z (by simpa using hz)) ⟨.bl _, H, I, rfl, ?_⟩
  rw [show its.toArray.any (fun u => u == .ref a) = its.any (fun u => u == .ref a) by simp, any_refs rv]
  exact q
theorem op_notInP (hu : X.A.units + 64 < cLine) : OpR X (compareOp .NotIn) (rInP X.K true) := by
  intro pins s σ H x y v u Q I rx ry h
  obtain ⟨a, C, p, as, rfl, ha, rfl, hq, f, q⟩ := h
  cases rx
  cases ry
  obtain ⟨its, rv, hl, _⟩ := I.list hq
  have hu1 : X.A.in1.units < cLine := by show X.A.units + 1 < cLine; omega
  refine SeqAt.notIn_listAt (fun u => u == .ref a) hl.isList (fun z hz => mem_refs I hu1 ha rv f z (by simpa using hz)) ⟨.bl _, H, I, rfl, ?_⟩
  rw [show its.toArray.any (fun u => u == .ref a) = its.any (fun u => u == .ref a) by simp, any_refs rv]
  exact q
/-! ### a def read off its class: C.m(x, ..) -/
structure CFun (K : PySem.W.Frag) (C : Addr) (m : Str) (f : Addr) : Prop where
  ga : PySem.W.specialIn K (.ref C) "__getattribute__" = some (some (.builtin "type.__getattribute__"))
  rd : PySem.W.readsIn K C (.type "type") = true
  at_ : PySem.W.findCls K (.ref C) (.type "type") m = some (.val (.ref f))
  kp : PySem.W.keepIn K (.ref f) = true
def tCFun (C : Addr) (sp : Sp) (dvs : List V) (E : XK) (ta : TE) (t : TA) : TE := fun σ H Q => ta σ H fun x H1 => x = .ref C ∧ t σ H1 fun vs H2 => sp (vs ++ dvs) H2 Q E
theorem pe_cfun {CX : CXT} {k : Nat} {C f : Addr} {fd : FuncData} {ps : List Str} {sp : Sp} {dvs : List V} {ds : List Value} {E : XK} {o e : Expr} {es : List Expr} {m : Str} {pos apos : Pos} {ta : TE} {t : TA} {pl : Sem Bool}
    (he : PE X o ta) (c : CFun X.K C m f) (F : FnOk X.prog X.w X.K X.mg X.base CX k f fd ps sp) (hr : Room k X.A) (hb : Binds X.K fd ps ds) (hd : Vals dvs ds) (hx : Passes CX X E) (ha : PA X (e :: es) t)
    (hst : starEach (e :: es) X.env = (false, eval e X.env) :: starEach es X.env := by rfl) (hpl : (backTo pos (starEach es X.env)).any (·.1) = false := by rfl)
    (ht : eval (.Call (.Attribute o m apos) (e :: es) [] pos) X.env = (do
      let ov ← eval o X.env
      standAt apos.atName
      let (f, first) ← holding [ov] (getMethod ov m pl)
      callWith pos f first (backTo pos (starEach (e :: es) X.env)) (backToKw pos (keywordEach [] X.env))) := by rfl) :
    PE X (.Call (.Attribute o m apos) (e :: es) [] pos) (tCFun C sp dvs E ta t) := by
  refine ⟨fun pins s σ H Q I h => ?_⟩
  refine PySem.W.methodCall_KW (pl := pl) (thn (he.run pins s σ H _ I h) fun u s1 ⟨x, H1, I1, rx, ex, q⟩ => ?_) ht
  subst ex
  obtain rfl : u = Value.ref C := rx
  refine PySem.W.method_cls I1.kIn c.ga (PySem.W.cls_value I1.kIn c.rd c.at_ (handed_of (v := .ref f) rfl) ?_)
  have I2 := I1.tok (s1.toks + 1)
  refine PySem.W.callWith_K (first := []) (h₀ := X.base) I2.ok.mod.kin c.kp (thn (ha.run pos pins _ σ H1 _ I2 q) fun us s2 ⟨vs, H2, I3, r, q2⟩ => ⟨I3.kIn, ?_⟩) hst hpl
  exact run_fn F hr hb hd hx I3 r q2
/-! ### one of two rules -/
theorem PE.or {e : Expr} {t t' : TE} (h : PE X e t) (h' : PE X e t') : PE X e (fun σ H Q => t σ H Q ∨ t' σ H Q) := ⟨fun pins s σ H Q I q => by
  rcases q with q | q
  · exact h.run pins s σ H Q I q
  · exact h'.run pins s σ H Q I q⟩
/-- any of many rules for one expression -/
theorem PE.any {ι : Type} {e : Expr} {t : ι → TE} (S : ι → Prop) (h : ∀ i, S i → PE X e (t i)) : PE X e (fun σ H Q => ∃ i, S i ∧ t i σ H Q) := ⟨fun pins s σ H Q I ⟨i, hi, q⟩ => (h i hi).run pins s σ H Q I q⟩
end
end RA

set_option Elab.async false
set_option linter.all false
set_option maxRecDepth 100000
set_option maxHeartbeats 4000000
/-! The head's facts: He.Fa and He.DefD, further facts of classes, dicts of the top with their items. -/
namespace RB
open PySem PySem.Spec PyProof.Rows L2 He
/-- what isinstance asks of a value's own class -/
structure TyC (K : PySem.W.Frag) (C : Addr) : Prop where
  ha : PySem.W.findIn K (.ref C) "__class__" = some (some (.builtin "object.__class__"))
  hn : PySem.W.specialIn K (.builtin "object.__class__") "__get__" = some (some (.builtin "getset_descriptor.__get__"))
  ht : PySem.W.takesIn K (.builtin "object.__class__") = some true
  hm : PySem.W.mroIn K C (.type "object") = some true
inductive Fx where
  | pl (x : Str)
  | sub (x y : Str)
  | cf (x m : Str)
  | ty (x : Str)
  | kit (x y : Str) (b : Bool)
  | kib (n : String) (y : Str) (b : Bool)
  | dtup (p : Str × Option Str) (i : Nat)
def Fx.ok (K : PySem.W.Frag) : Fx → Bool
  | .pl x => decide (PySem.W.mroIn K (ga K x) (.type "object") = some true) && (eqO (PySem.W.findIn K (.ref (ga K x)) "__eq__") (some (some (.builtin "object.__eq__"))) && eqO (PySem.W.findIn K (.ref (ga K x)) "__ne__") (some (some (.builtin "object.__ne__"))))
  | .sub x y => decide (ga K x = ga K y) || (PySem.W.subIn K (.ref (ga K y)) (.ref (ga K x))).isSome
  | .cf x m => eqO (PySem.W.specialIn K (.ref (ga K x)) "__getattribute__") (some (some (.builtin "type.__getattribute__"))) && (PySem.W.readsIn K (ga K x) (.type "type") && ((match PySem.W.findCls K (.ref (ga K x)) (.type "type") m with
    | some (.val (.ref f)) => decide (f = ma K (ga K x) m)
    | _ => false) && PySem.W.keepIn K (.ref (ma K (ga K x) m))))
  | .ty x => eqO (PySem.W.findIn K (.ref (ga K x)) "__class__") (some (some (.builtin "object.__class__"))) && (eqO (PySem.W.specialIn K (.builtin "object.__class__") "__get__") (some (some (.builtin "getset_descriptor.__get__"))) && (decide (PySem.W.takesIn K (.builtin "object.__class__") = some true) && decide (PySem.W.mroIn K (ga K x) (.type "object") = some true)))
  | .kit x y b => decide (PySem.W.kitOne K (.ref (ga K x)) (.ref (ga K y)) = some b)
  | .kib n y b => decide (PySem.W.kitOne K (.type n) (.ref (ga K y)) = some b)
  | .dtup p i => (match K.lookup (dflAt p i K) with
    | some ⟨.type c, _, .seq its _, _⟩ => decide (c = "tuple") && its.isEmpty
    | _ => false)
section
variable {K : PySem.W.Frag}
theorem pl_ok {x : Str} (c : (Fx.pl x).ok K = true) : RA.PlainC K (ga K x) := by
  obtain ⟨c1, c⟩ := ba c
  obtain ⟨c2, c3⟩ := ba c
  exact ⟨of_decide_eq_true c1, eqO_ok c2, eqO_ok c3⟩
theorem sub_ok {x y : Str} (c : (Fx.sub x y).ok K = true) : RA.PairC K (ga K x) (ga K y) := by
  rcases Bool.or_eq_true_iff.mp c with c | c
  · exact .inl (of_decide_eq_true c)
  · exact .inr (Option.isSome_iff_exists.mp c)
theorem cf_ok {x m : Str} (c : (Fx.cf x m).ok K = true) : RA.CFun K (ga K x) m (ma K (ga K x) m) := by
  obtain ⟨c1, c⟩ := ba c
  obtain ⟨c2, c⟩ := ba c
  obtain ⟨c3, c4⟩ := ba c
  refine ⟨eqO_ok c1, c2, ?_, c4⟩
  cases e : PySem.W.findCls K (.ref (ga K x)) (.type "type") m with
  | none => rw [e] at c3; cases c3
  | some r =>
    rw [e] at c3
    cases r with
    | get _ _ _ _ => cases c3
    | val v =>
      cases v with
      | ref f => rw [of_decide_eq_true c3]
      | _ => cases c3
theorem ty_ok {x : Str} (c : (Fx.ty x).ok K = true) : TyC K (ga K x) := by
  obtain ⟨c1, c⟩ := ba c
  obtain ⟨c2, c⟩ := ba c
  obtain ⟨c3, c4⟩ := ba c
  exact ⟨eqO_ok c1, eqO_ok c2, of_decide_eq_true c3, of_decide_eq_true c4⟩
theorem kit_ok {x y : Str} {b : Bool} (c : (Fx.kit x y b).ok K = true) : PySem.W.kitOne K (.ref (ga K x)) (.ref (ga K y)) = some b := of_decide_eq_true c
theorem kib_ok {n : String} {y : Str} {b : Bool} (c : (Fx.kib n y b).ok K = true) : PySem.W.kitOne K (.type n) (.ref (ga K y)) = some b := of_decide_eq_true c
theorem dtup_ok {p : Str × Option Str} {i : Nat} (h : (Fx.dtup p i).ok K = true) (H : Hp) : SqT K H (dflAt p i K) [] := by
  have h1 : (match K.lookup (dflAt p i K) with
    | some ⟨.type c, _, .seq its _, _⟩ => decide (c = "tuple") && its.isEmpty
    | _ => false) = true := h
  cases q : K.lookup (dflAt p i K) with
  | none => rw [q] at h1; cases h1
  | some o =>
    obtain ⟨oc, od, dt, osl⟩ := o
    rw [q] at h1
    cases oc with
    | type c =>
      cases dt with
      | seq its n =>
        obtain ⟨h2, h3⟩ := ba (show (decide (c = "tuple") && its.isEmpty) = true from h1)
        have e3 : its = #[] := Array.isEmpty_iff.mp h3
        subst e3
        exact .inr ⟨_, #[], n, q, congrArg Value.type (of_decide_eq_true h2), rfl, Nat.zero_le _, .nil⟩
      | _ => cases h1
    | _ => cases dt <;> cases h1
theorem TyC.tyx {C a dx : Addr} {H : Hp} {fs : List (Str × V)} (t : TyC K C) (c : Cls K C) (e : H a = some (.ins C dx fs)) : TyX K H (.ref a) (.ref C) := .base (.ins e c t.ha t.hn t.ht t.hm)
end
/-! ### dicts of the top -/
def keyE (e : DictEntry) : Option (Key × Int) := match e.key with
  | .int i _ => some (Sum.inl i, e.hash)
  | .str x _ => some (Sum.inr x, e.hash)
  | _ => none
def keyHP (P : Params) : Key → Int
  | .inl i => hashInt i
  | .inr x => PyData.keyHash P x
abbrev Tb : Type := Str × List (Key × Dv)
def tbRow (K : PySem.W.Frag) (x : Str) : Option (List (Option (Key × Int))) := match K.lookup (ga K x) with
  | some ⟨.type c, none, .dict es _, sl⟩ => (match decide (c = "dict") && (sl.isEmpty && !(ga K x == sysModules)) with
    | true => some (es.toList.map keyE)
    | false => none)
  | _ => none
def tbWant (P : Params) (kvs : List (Key × Dv)) : Option (List (Option (Key × Int))) := some (kvs.map fun q => some (q.1, keyHP P q.1))
def tbVals (K : PySem.W.Frag) (t : Tb) : Bool := decide ((t.2.map (·.1)).Nodup) && (decide (t.2.length ≤ sizeLine) && (match K.lookup (ga K t.1) with
  | some ⟨_, _, .dict es _, _⟩ => relAll (t.2.map fun q => q.2.v K) (es.toList.map (·.val))
  | _ => false))
/-- a dict of the top with these items -/
structure KD (P : Program) (w : World) (K : PySem.W.Frag) (a : Addr) (kvs : List (Key × V)) : Prop where
  low : (a == sysModules) = false
  len : kvs.length ≤ sizeLine
  at_ : ∃ vs, KV kvs vs ∧ ∀ h : Heap, K.In h → h.DictOf (mixKind P w) a vs
theorem rows_pairs {P : Program} {w : World} : ∀ {es : List DictEntry} {kvs : List (Key × V)}, es.map keyE = kvs.map (fun q => some (q.1, keyHP w.params q.1)) → relAll (kvs.map (·.2)) (es.map (·.val)) = true →
    ∃ vs, KV kvs vs ∧ Pairs (mixKind P w) es vs ∧ vs.map (·.1) = kvs.map (·.1) ∧ ∀ e ∈ es, ∃ k, (mixKind P w).is k e.key = true ∧ e.hash = (mixKind P w).hash k
  | [], [], _, _ => ⟨[], .nil, .nil, rfl, fun _ h => nomatch h⟩
  | [], _ :: _, h, _ => by cases h
  | _ :: _, [], h, _ => by cases h
  | e :: es, q :: kvs, h, hv => by
    rw [List.map_cons, List.map_cons] at h
    injection h with h1 h2
    obtain ⟨v1, v2⟩ := ba (show (relB q.2 e.val && relAll (kvs.map (·.2)) (es.map (·.val))) = true from hv)
    obtain ⟨vs, r, p, n, kk⟩ := rows_pairs (P := P) h2 v2
    have key : (mixKind P w).is q.1 e.key = true ∧ e.hash = (mixKind P w).hash q.1 := by
      unfold keyE at h1
      split at h1
      · rename_i i t ek
        have h3 := Prod.mk.inj (Option.some.inj h1)
        rw [← h3.1, ek]
        refine ⟨mixKind_int P w i t, ?_⟩
        rw [h3.2, ← h3.1]; rfl
      · rename_i x t ek
        have h3 := Prod.mk.inj (Option.some.inj h1)
        rw [← h3.1, ek]
        refine ⟨mixKind_str P w x t, ?_⟩
        rw [h3.2, ← h3.1]; rfl
      · cases h1
    refine ⟨(q.1, e.val) :: vs, .cons ⟨rfl, relB_ok v1⟩ r, .cons key.1 rfl p, by rw [List.map_cons, List.map_cons, n], fun e' he => ?_⟩
    rcases List.mem_cons.mp he with rfl | he
    · exact ⟨q.1, key⟩
    · exact kk e' he
theorem kd_of {P : Program} {w : World} {K : PySem.W.Frag} {t : Tb} (h1 : tbRow K t.1 = tbWant w.params t.2) (h2 : tbVals K t = true) : KD P w K (ga K t.1) (t.2.map fun q => (q.1, q.2.v K)) := by
  obtain ⟨nd, h2⟩ := ba h2
  obtain ⟨ln, h2⟩ := ba h2
  unfold tbRow tbWant at h1
  cases q : K.lookup (ga K t.1) with
  | none => rw [q] at h1; cases h1
  | some o =>
    obtain ⟨oc, od, dt, osl⟩ := o
    rw [q] at h1 h2
    cases oc with
    | type c =>
      cases od with
      | none =>
        cases dt with
        | dict es n =>
          have h3 : (match decide (c = "dict") && (osl.isEmpty && !(ga K t.1 == sysModules)) with
            | true => some (es.toList.map keyE)
            | false => none) = some (t.2.map fun q => some (q.1, keyHP w.params q.1)) := h1
          cases z : decide (c = "dict") && (osl.isEmpty && !(ga K t.1 == sysModules)) with
          | false => rw [z] at h3; cases h3
          | true =>
            rw [z] at h3
            obtain ⟨z1, z2⟩ := ba z
            obtain ⟨z3, z4⟩ := ba z2
            have e1 : c = "dict" := of_decide_eq_true z1
            have e2 : osl = #[] := Array.isEmpty_iff.mp z3
            have e3 : (ga K t.1 == sysModules) = false := by
              cases y : (ga K t.1 == sysModules) with
              | false => rfl
              | true => rw [y] at z4; cases z4
            subst e1 e2
            have h4 : es.toList.map keyE = (t.2.map fun q => (q.1, q.2.v K)).map (fun q => some (q.1, keyHP w.params q.1)) := by
              rw [List.map_map]
              exact Option.some.inj h3
            have h5 : relAll ((t.2.map fun q => (q.1, q.2.v K)).map (·.2)) (es.toList.map (·.val)) = true := by
              rw [List.map_map]
              exact h2
            obtain ⟨vs, r, p, nm, kk⟩ := rows_pairs (P := P) h4 h5
            refine ⟨e3, by rw [List.length_map]; exact of_decide_eq_true ln, vs, r, fun h X => ⟨_, es, n, X _ _ q, ⟨rfl, rfl, rfl⟩, rfl, fun e he => kk e (Array.mem_toList_iff.mpr he), p, ?_⟩⟩
            rw [nm, List.map_map]
            exact of_decide_eq_true nd
        | _ => cases h1
      | some d => cases dt <;> cases h1
    | _ => cases od <;> cases dt <;> cases h1
section
variable {X : Cx}
/-- dict(D), D a dict of the top: a new one -/
theorem call_dictK {D : Addr} {kvs : List (Key × V)} (k : KD X.prog X.w X.K D kvs) : CallR X (.type "dict") (fun xs H Q => xs = [.ref D] ∧ ∀ p, H p = none → Q (.ref p) (upd H p (.dK kvs))) := by
  intro pins s σ H xs us Q I r q
  obtain ⟨ex, q⟩ := q
  subst ex
  obtain ⟨u, eu, rx⟩ := vals1 r
  subst eu
  cases rx
  obtain ⟨vs, rel, dd⟩ := k.at_
  refine kt_call_dict k.low (dd _ I.kIn) (by rw [← rel.length]; exact k.len) fun h' d' hs => ?_
  have hm : (s.heap.objs.size == sysModules) = false := beq_eq_false_iff_ne.mpr (Nat.ne_of_gt I.big)
  exact ⟨.ref s.heap.objs.size, upd H s.heap.objs.size (.dK kvs), I.laid (t' := s.toks) (fun b u e => (hs.2 b (Nat.ne_of_lt (Heap.lt_size e))).trans (Heap.get?_push_of_some _ e)) (Nat.le_refl _)
    (show ObjOk X.prog X.w _ _ _ (.dK kvs) from ⟨k.len, hm, vs, rel, d'⟩), rfl, q _ (I.hok.fresh (Nat.le_refl _))⟩
end
/-! ### the Hook -/
abbrev AlB : Type := AlD × List (Option (List (Option (Key × Int)))) × Bool
def obsB (fa : List Fa) (fx : List Fx) (fn : List DefD) (ts : List Tb) (K : PySem.W.Frag) : AlB := (obsD fa fn K, ts.map fun t => tbRow K t.1, (fx.all fun f => f.ok K) && ts.all fun t => tbVals K t)
def valB (fn : List DefD) (ts : List Tb) (w : World) : AlB := (valD fn, ts.map fun t => tbWant w.params t.2, true)
def SaysB (fa : List Fa) (fx : List Fx) (fn : List DefD) (ts : List Tb) (w : World) (K : PySem.W.Frag) : Prop := obsB fa fx fn ts K = valB fn ts w
/-- and the objects that are defaults: one step further, for those alone -/
def extraB (g : Addr → Option Obj) (fx : List Fx) (as : List Addr) : List Addr := cStatics :: (as ++ fx.filterMap fun
  | .dtup p i => some (dflAt p i (frG g as))
  | _ => none)
def obsBG (n : Nat) (fa : List Fa) (fx : List Fx) (fn : List DefD) (ts : List Tb) (g : Addr → Option Obj) : AlB := obsB fa fx fn ts (frG g (extraB g fx (asD g n)))
def hookB (n : Nat) (fa : List Fa) (fx : List Fx) (fn : List DefD) (ts : List Tb) : PySem.W.Hook where
  α := AlB
  obs := fun s => obsBG n fa fx fn ts s.heap.get?
  val := fun w => valB fn ts w
  says := fun w h => ∃ K : PySem.W.Frag, K.In h ∧ SaysB fa fx fn ts w K
  of := fun _ _ e => ⟨_, frG_in, e⟩
  keeps := fun _ _ _ ⟨K, hK, c⟩ k => ⟨K, PySem.W.Frag.In.keeps hK k, c⟩
theorem obsBG_eq {n : Nat} {fa : List Fa} {fx : List Fx} {fn : List DefD} {ts : List Tb} {g : Addr → Option Obj} {s : Shared} (h : ∀ a, g a = s.heap.get? a) : obsBG n fa fx fn ts g = (hookB n fa fx fn ts).obs s := by
  have e : g = s.heap.get? := funext h
  rw [e] <;> rfl
section
variable {fa : List Fa} {fx : List Fx} {fn : List DefD} {ts : List Tb} {w : World} {K : PySem.W.Frag}
theorem SaysB.d (c : SaysB fa fx fn ts w K) : SaysD fa fn K := congrArg (fun z : AlB => z.1) c
theorem SaysB.fact (c : SaysB fa fx fn ts w K) (i : Nat) {f : Fa} (h : fa[i]? = some f := by rfl) : f.ok K = true := c.d.fact i h
theorem SaysB.more (c : SaysB fa fx fn ts w K) (i : Nat) {f : Fx} (h : fx[i]? = some f := by rfl) : f.ok K = true := by
  have c1 := (ba (show ((fx.all fun f => f.ok K) && ts.all fun t => tbVals K t) = true from congrArg (fun z : AlB => z.2.2) c)).1
  exact List.all_eq_true.mp c1 f (List.mem_of_getElem? h)
theorem SaysB.tb (c : SaysB fa fx fn ts w K) (i : Nat) {t : Tb} (h : ts[i]? = some t := by rfl) (P : Program) : KD P w K (ga K t.1) (t.2.map fun q => (q.1, q.2.v K)) := by
  have c1 := (ba (show ((fx.all fun f => f.ok K) && ts.all fun t => tbVals K t) = true from congrArg (fun z : AlB => z.2.2) c)).2
  have e : ts.map (fun t => tbRow K t.1) = ts.map fun t => tbWant w.params t.2 := congrArg (fun z : AlB => z.2.1) c
  have e2 : (ts.map fun t => tbRow K t.1)[i]? = (ts.map fun t => tbWant w.params t.2)[i]? := by rw [e]
  rw [List.getElem?_map, List.getElem?_map, h] at e2
  exact kd_of (Option.some.inj e2) (List.all_eq_true.mp c1 t (List.mem_of_getElem? h))
end
end RB

set_option Elab.async false
set_option linter.all false
set_option maxRecDepth 100000
set_option maxHeartbeats 4000000
/-! What a caller needs of a def, in one word; the stream of draws. -/
namespace RC
open PySem PySem.Spec PyProof.Rows L2 He
/-- the def at f may be called with all parameters but the last ones, whose defaults are dvs -/
def Callable (P : Program) (w : World) (K : PySem.W.Frag) (mg : Str → Option Value) (base : Heap) (k : Nat) (f : Addr) (ps : List Str) (dvs : List V) (sp : Sp) : Prop :=
  ∃ fd ds, FnOk P w K mg base CX0 k f fd ps sp ∧ Vals dvs ds ∧ Binds K fd ps ds ∧ PySem.W.keepIn K (.ref f) = true
section
variable {X : Cx} {k : Nat} {f C : Addr} {ps : List Str} {sp : Sp} {dvs : List V} {x m : Str} {p pos apos : Pos} {e o : Expr} {es : List Expr} {ta : TE} {t : TA} {pl : Sem Bool}
theorem pe_fn (hm : X.mg x = some (.ref f)) (c : Callable X.prog X.w X.K X.mg X.base k f ps dvs sp) (hr : Room k X.A) (hg : Gl X x) (ha : PA X (e :: es) t) (hdb : (x == ("__debug__" : Str)) = false := by decide)
    (he : starEach (e :: es) X.env = (false, eval e X.env) :: starEach es X.env := by rfl) (hpl : (backTo pos (starEach es X.env)).any (·.1) = false := by rfl) : PE X (.Call (.Name x p) (e :: es) [] pos) (tCall sp dvs E0 t) := by
  obtain ⟨fd, ds, F, hd, hb, hk⟩ := c
  exact pe_call F hr hg hm hk hb hd pass0 ha hdb he hpl
theorem pe_fn0 (hm : X.mg x = some (.ref f)) (c : Callable X.prog X.w X.K X.mg X.base k f ps dvs sp) (hr : Room k X.A) (hg : Gl X x) (hdb : (x == ("__debug__" : Str)) = false := by decide) : PE X (.Call (.Name x p) [] [] pos) (tCall sp dvs E0 tNil) := by
  obtain ⟨fd, ds, F, hd, hb, hk⟩ := c
  exact pe_call0 F hr hg hm hk hb hd pass0 hdb
theorem pe_mt (cl : Cls X.K C) (hm : Meth X.K C m f) (c : Callable X.prog X.w X.K X.mg X.base k f ps dvs sp) (hr : Room k X.A) (he : PE X o ta) (ha : PA X (e :: es) t)
    (hst : starEach (e :: es) X.env = (false, eval e X.env) :: starEach es X.env := by rfl) (hpl : (backTo pos (starEach es X.env)).any (·.1) = false := by rfl)
    (ht : eval (.Call (.Attribute o m apos) (e :: es) [] pos) X.env = (do
      let ov ← eval o X.env
      standAt apos.atName
      let (f, first) ← holding [ov] (getMethod ov m pl)
      callWith pos f first (backTo pos (starEach (e :: es) X.env)) (backToKw pos (keywordEach [] X.env))) := by rfl) :
    PE X (.Call (.Attribute o m apos) (e :: es) [] pos) (tMeth C m sp dvs E0 ta t) := by
  obtain ⟨fd, ds, F, hd, hb, hk⟩ := c
  exact pe_meth he cl hm F hr hb hd pass0 ha hst hpl ht
theorem pe_mt0 (cl : Cls X.K C) (hm : Meth X.K C m f) (c : Callable X.prog X.w X.K X.mg X.base k f ps dvs sp) (hr : Room k X.A) (he : PE X o ta)
    (ht : eval (.Call (.Attribute o m apos) [] [] pos) X.env = (do
      let ov ← eval o X.env
      standAt apos.atName
      let (f, first) ← holding [ov] (getMethod ov m pl)
      callWith pos f first (backTo pos (starEach [] X.env)) (backToKw pos (keywordEach [] X.env))) := by rfl) :
    PE X (.Call (.Attribute o m apos) [] [] pos) (tMeth C m sp dvs E0 ta tNil) := by
  obtain ⟨fd, ds, F, hd, hb, hk⟩ := c
  exact pe_meth0 he cl hm F hr hb hd pass0 ht
theorem pe_mk (M : Mk X.K C f) (hm : X.mg x = some (.ref C)) (c : Callable X.prog X.w X.K X.mg X.base k f ps dvs sp) (hr : Room (k + 1) X.A) (hg : Gl X x) (ha : PA X (e :: es) t) (hdb : (x == ("__debug__" : Str)) = false := by decide)
    (he : starEach (e :: es) X.env = (false, eval e X.env) :: starEach es X.env := by rfl) (hpl : (backTo pos (starEach es X.env)).any (·.1) = false := by rfl) : PE X (.Call (.Name x p) (e :: es) [] pos) (tMake C sp dvs E0 t) := by
  obtain ⟨fd, ds, F, hd, hb, hk⟩ := c
  exact pe_make M F hr hg hm hb hd pass0 ha hdb he hpl
theorem pe_mk0 (M : Mk X.K C f) (hm : X.mg x = some (.ref C)) (c : Callable X.prog X.w X.K X.mg X.base k f ps dvs sp) (hr : Room (k + 1) X.A) (hg : Gl X x) (hdb : (x == ("__debug__" : Str)) = false := by decide) : PE X (.Call (.Name x p) [] [] pos) (tMake C sp dvs E0 tNil) := by
  obtain ⟨fd, ds, F, hd, hb, hk⟩ := c
  exact pe_make0 M F hr hg hm hb hd pass0 hdb
theorem pe_cf (cf : RA.CFun X.K C m f) (c : Callable X.prog X.w X.K X.mg X.base k f ps dvs sp) (hr : Room k X.A) (he : PE X o ta) (ha : PA X (e :: es) t)
    (hst : starEach (e :: es) X.env = (false, eval e X.env) :: starEach es X.env := by rfl) (hpl : (backTo pos (starEach es X.env)).any (·.1) = false := by rfl)
    (ht : eval (.Call (.Attribute o m apos) (e :: es) [] pos) X.env = (do
      let ov ← eval o X.env
      standAt apos.atName
      let (f, first) ← holding [ov] (getMethod ov m pl)
      callWith pos f first (backTo pos (starEach (e :: es) X.env)) (backToKw pos (keywordEach [] X.env))) := by rfl) :
    PE X (.Call (.Attribute o m apos) (e :: es) [] pos) (RA.tCFun C sp dvs E0 ta t) := by
  obtain ⟨fd, ds, F, hd, hb, hk⟩ := c
  exact RA.pe_cfun he cf F hr hb hd pass0 ha hst hpl ht
end
section
variable {P : Program} {w : World} {K : PySem.W.Frag} {mg : Str → Option Value} {base : Heap} {x qual : Str} {params : Arguments} {body : List Stmt} {scope : Scope} {dvs : List V} {f : Addr} {k : Nat} {N ps : List Str} {sp : Sp}
/-- a def that stands there -/
def Stands (K : PySem.W.Frag) (x qual : Str) (st : Stmt) (dvs : List V) (f : Addr) : Prop := ∃ fd, FunD K x qual (defArgs st) (defBody st) (defScope st) dvs [] f fd
/-- THE RULE for a def, whatever its defaults: what it promises of every call; bind: how its arguments bind with the first n parameters given -/
theorem Stands.call {st : Stmt} (F : Stands K x qual st dvs f) (S : FnScope N ps (defScope st)) (n j : Nat) (len : ∀ vs H Q E, sp vs H Q E → vs.length = ps.length)
    (hbody : ∀ (cdv : Value) (A : Around) (outer : List Env) (s : Shared) (H : Hp) (vs : List V) (Q : VK) (E : XK), Room k (A.deeper (envOfC qual (defScope st) s.heap.objs.size f cdv)) → sp vs H Q E →
      ∃ t, PSs (cxOf CX0 P w K mg base N qual (defScope st) f cdv A outer s H E).nox (defBody st) t ∧ t { nx := fun _ H' => Q .non H', rt := Q } (start N vs) H)
    (h0 : dvs = [] → n = ps.length ∧ ∀ (kV doc pm : Value) (an : Option Addr) (cdv ct : Value) (us : List Value), us.length = ps.length → bindArgs (PySem.W.fnOf x qual (defArgs st) (defBody st) (defScope st) .none kV doc pm an cdv ct) ⟨us, []⟩ = pure (ps.zip us))
    (h1 : dvs ≠ [] → n + (dvs.length - j) = ps.length ∧ ∀ (T : Addr) (kV doc pm : Value) (an : Option Addr) (cdv ct : Value) (us its : List Value), us.length = n → its.length = dvs.length →
      ∃ k, bindArgs (PySem.W.fnOf x qual (defArgs st) (defBody st) (defScope st) (.ref T) kV doc pm an cdv ct) ⟨us, []⟩ = seqItems? (.ref T) >>= k ∧ k (some its.toArray) = pure (ps.zip (us ++ its.drop j))) :
    Callable P w K mg base (k + 1) f ps (dvs.drop j) sp := by
  obtain ⟨fd, F⟩ := F
  have ok : FnOk P w K mg base CX0 (k + 1) f fd ps sp := F.ok S len fun cdv A outer s H vs Q E hr hsp => by
    obtain ⟨t, h, q⟩ := hbody cdv A outer s H vs Q E hr hsp
    exact ⟨t, h.nox, q⟩
  by_cases hd : dvs = []
  · subst hd
    exact ⟨fd, [], ok, by rw [List.drop_nil]; exact .nil, F.bindsN (h0 rfl).2, F.kp⟩
  · obtain ⟨ds, hv, hb⟩ := F.binds1 n j hd (h1 hd).1 (h1 hd).2
    exact ⟨fd, ds, ok, hv, hb, F.kp⟩
/-- no defaults -/
theorem Stands.call0 {st : Stmt} (F : Stands K x qual st [] f) (S : FnScope N ps (defScope st)) (len : ∀ vs H Q E, sp vs H Q E → vs.length = ps.length)
    (hbody : ∀ (cdv : Value) (A : Around) (outer : List Env) (s : Shared) (H : Hp) (vs : List V) (Q : VK) (E : XK), Room k (A.deeper (envOfC qual (defScope st) s.heap.objs.size f cdv)) → sp vs H Q E →
      ∃ t, PSs (cxOf CX0 P w K mg base N qual (defScope st) f cdv A outer s H E).nox (defBody st) t ∧ t { nx := fun _ H' => Q .non H', rt := Q } (start N vs) H)
    (h0 : ∀ (kV doc pm : Value) (an : Option Addr) (cdv ct : Value) (us : List Value), us.length = ps.length → bindArgs (PySem.W.fnOf x qual (defArgs st) (defBody st) (defScope st) .none kV doc pm an cdv ct) ⟨us, []⟩ = pure (ps.zip us)) :
    Callable P w K mg base (k + 1) f ps [] sp := by
  obtain ⟨fd, F⟩ := F
  have ok : FnOk P w K mg base CX0 (k + 1) f fd ps sp := F.ok S len fun cdv A outer s H vs Q E hr hsp => by
    obtain ⟨t, h, q⟩ := hbody cdv A outer s H vs Q E hr hsp
    exact ⟨t, h.nox, q⟩
  exact ⟨fd, [], ok, .nil, F.bindsN h0, F.kp⟩
theorem Callable.imp {sp' : Sp} {dv : List V} (c : Callable P w K mg base k f ps dv sp) (h : ∀ vs H Q E, sp' vs H Q E → sp vs H Q E) : Callable P w K mg base k f ps dv sp' :=
  let ⟨fd, ds, F, r⟩ := c
  ⟨fd, ds, F.imp h, r⟩
theorem Callable.up {j : Nat} {dv : List V} (c : Callable P w K mg base j f ps dv sp) (h : j ≤ k) : Callable P w K mg base k f ps dv sp :=
  let ⟨fd, ds, F, r⟩ := c
  ⟨fd, ds, F.mono h, r⟩
end
/-! ### heaps -/
theorem same_new {H : Hp} {p : Addr} (h : H p = none) (o : HO) : Same H (upd H p o) := fun b u q => by rw [upd_ne (ne_of_none q h)]; exact q
theorem _root_.L2.Same.seqT {K : PySem.W.Frag} {H H' : Hp} {a : Addr} {xs : List V} (e : Same H H') (h : SqT K H a xs) : SqT K H' a xs := by
  rcases h with (h | ⟨o, h⟩) | h
  · exact .inl (.inl (e _ _ h))
  · exact .inl (.inr ⟨o, e _ _ h⟩)
  · exact .inr h
theorem upd_none {H : Hp} {a p : Addr} {o : HO} (h : upd H a o p = none) : p ≠ a ∧ H p = none := by
  by_cases e : p = a
  · subst e; rw [upd_same] at h; cases h
  · rw [upd_ne e] at h; exact ⟨e, h⟩
/-! ### the stream of draws -/
/-- the law's stream at s: its list of ints at l, the number at hand, how many were made up, the seed; n: a bound of those made up -/
def Stm (H : Hp) (s l : Addr) (n : Nat) : Prop := s ≠ l ∧ ∃ (ns : List Int) (x c d : Int), H s = some (.lst [.ref l, .int x, .int c, .int d]) ∧ H l = some (.lst (ns.map V.int)) ∧ ns.length ≤ 63 ∧ 0 ≤ x ∧ 0 ≤ c ∧ c ≤ n ∧ 0 ≤ d ∧ d < 2147483647
theorem Stm.mono {H : Hp} {s l : Addr} {n m : Nat} (h : Stm H s l n) (k : n ≤ m) : Stm H s l m := by
  obtain ⟨ne, ns, x, c, d, h1, h2, h3, h4, h5, h6, h7, h8⟩ := h
  exact ⟨ne, ns, x, c, d, h1, h2, h3, h4, h5, by omega, h7, h8⟩
theorem Stm.same {H H' : Hp} {s l : Addr} {n : Nat} (h : Stm H s l n) (k : Same H H') : Stm H' s l n := by
  obtain ⟨ne, ns, x, c, d, h1, h2, h3⟩ := h
  exact ⟨ne, ns, x, c, d, k _ _ h1, k _ _ h2, h3⟩
/-- all but the stream is as it was -/
def But (s l : Addr) (H H' : Hp) : Prop := ∀ b, b ≠ s → b ≠ l → H' b = H b
/-- all that was there but the stream is as it was -/
def Old (s l : Addr) (H H' : Hp) : Prop := ∀ b o, b ≠ s → b ≠ l → H b = some o → H' b = some o
theorem But.old {s l : Addr} {H H' : Hp} (h : But s l H H') : Old s l H H' := fun b o h1 h2 e => by rw [h b h1 h2]; exact e
theorem Old.refl {s l : Addr} (H : Hp) : Old s l H H := fun _ _ _ _ e => e
theorem Old.trans {s l : Addr} {H H1 H2 : Hp} (a : Old s l H H1) (b : Old s l H1 H2) : Old s l H H2 := fun c o h1 h2 e => b c o h1 h2 (a c o h1 h2 e)
theorem Old.of_same {s l : Addr} {H H' : Hp} (h : Same H H') : Old s l H H' := fun b o _ _ e => h b o e
section
variable {X : Cx} {x : Str} {pos : Pos}
theorem pe_gi {i : Int} (hg : Gl X x) (hm : ∃ t, X.mg x = some (.int i t)) (hd : (x == ("__debug__" : Str)) = false := by decide) : PE X (.Name x pos) (tC (.int i)) := by
  obtain ⟨t, h⟩ := hm
  exact pe_glob hg h ⟨t, rfl⟩ (by first | assumption | exact hd)
theorem pe_gs {z : Str} (hg : Gl X x) (hm : ∃ t, X.mg x = some (.str z t)) (hd : (x == ("__debug__" : Str)) = false := by decide) : PE X (.Name x pos) (tC (.str z)) := by
  obtain ⟨t, h⟩ := hm
  exact pe_glob hg h ⟨t, rfl⟩ (by first | assumption | exact hd)
end
/-! ### in a comprehension's block the written part is the def's own: rules that name it -/
section
variable {X : Cx} {K : PySem.W.Frag}
theorem opK (r : PySem.W.Frag → R2) {f : Value → Value → Sem Value} (h : OpR X f (r X.K)) (e : X.K = K := by rfl) : OpR X f (r K) := e ▸ h
theorem callK (r : PySem.W.Frag → List V → Hp → VK → Prop) {f : Value} (h : CallR X f (r X.K)) (e : X.K = K := by rfl) : CallR X f (r K) := e ▸ h
theorem ixK (r : PySem.W.Frag → R2) (h : IxR X (r X.K)) (e : X.K = K := by rfl) : IxR X (r K) := e ▸ h
theorem pe_fldK {e : Expr} {f : Str} {pos : Pos} {ta : TE} (he : PE X e ta) (hb : attributeBase e f X.env (eval e X.env) = eval e X.env) (z : X.K = K := by rfl) : PE X (.Attribute e f pos) (tFld K ta f) := z ▸ pe_fld he hb
end
/-- an expression that is never reached -/
def tNo : TE := fun _ _ _ => False
theorem pe_never {X : Cx} {e : Expr} : PE X e tNo := ⟨fun _ _ _ _ _ _ h => h.elim⟩
def tNoT : TT := fun _ _ _ => False
theorem pt_never {X : Cx} {e : Expr} : PT X e tNoT := ⟨fun _ _ _ _ _ _ h => h.elim⟩
theorem tyx_tup {K : PySem.W.Frag} {H : Hp} {a : Addr} {xs : List V} (h : SqT K H a xs) : TyX K H (.ref a) (.type "tuple") := by
  rcases h with (h | ⟨o, h⟩) | ⟨o, its, n, h, c, _⟩
  · exact .base (.tup h)
  · exact .fTuple h
  · exact .kTuple h c
theorem tyx_lst {K : PySem.W.Frag} {H : Hp} {a : Addr} {xs : List V} (h : SqL K H a xs) : TyX K H (.ref a) (.type "list") := by
  rcases h with (h | ⟨o, h⟩) | ⟨o, its, n, h, c, _⟩
  · exact .base (.lst h)
  · exact .base (.frz h)
  · exact .kList h c
/-- behind a lock all is as it was but the new -/
theorem unlock {H : Hp} {d D : Addr} {f u o : HO} (hd : H d = some u) (hD : upd H d f D = none) : upd (upd (upd H d f) D o) d u = upd H D o := by
  have ne : D ≠ d := (upd_none hD).1
  funext b
  by_cases e : b = d
  · subst e; rw [upd_same, upd_ne (Ne.symm ne)]; exact hd.symm
  · rw [upd_ne e]
    by_cases z : b = D
    · subst z; rw [upd_same, upd_same]
    · rw [upd_ne z, upd_ne z, upd_ne e]
theorem iteT' {c : Bool} {A B : Prop} (hc : c = true) (h : A) : if c = true then A else B := by rw [if_pos hc]; exact h
theorem iteF' {c : Bool} {A B : Prop} (hc : c = false) (h : B) : if c = true then A else B := by rw [if_neg (by rw [hc]; exact Bool.false_ne_true)]; exact h
end RC

set_option Elab.async false
set_option linter.all false
set_option maxRecDepth 100000
set_option maxHeartbeats 4000000
/-! Further rules: two lists of the same objects are equal; a text times an int. -/
namespace RD
open PySem PySem.Spec PyProof.Rows PySem.SeqAt L2
def rNeRefs (K : PySem.W.Frag) : R2 := fun x y H Q => ∃ (a b : Addr) (as : List Addr), x = .ref a ∧ y = .ref b ∧ SqL K H a (as.map V.ref) ∧ SqL K H b (as.map V.ref) ∧ Q (.bl false) H
def rEqRefs (K : PySem.W.Frag) : R2 := fun x y H Q => ∃ (a b : Addr) (as : List Addr), x = .ref a ∧ y = .ref b ∧ SqL K H a (as.map V.ref) ∧ SqL K H b (as.map V.ref) ∧ Q (.bl true) H
def rMulS : R2 := fun x y H Q => ∃ (i : Str) (k : Int), x = .str i ∧ y = .int k ∧ PySem.MulOk i k ∧ Q (.str (Txt.mul i k)) H
section
variable {X : Cx}
theorem vals_refs : ∀ {as : List Addr} {us : List Value}, Vals (as.map V.ref) us → us = as.map Value.ref
  | [], _, .nil => rfl
  | a :: as, _, .cons r t => by
    cases r
    rw [vals_refs t]; rfl
theorem all_true (n : Nat) : (List.range n).all (fun _ => true) = true := by simp
theorem op_neRefs (hu : X.A.units < cLine) : OpR X (compareOp .NotEq) (rNeRefs X.K) := by
  intro pins s σ H x y v u Q I rx ry h
  obtain ⟨a, b, as, rfl, rfl, ha, hb, q⟩ := h
  cases rx
  cases ry
  obtain ⟨its, rv, hl, _⟩ := I.list ha
  obtain ⟨its2, rv2, hl2, _⟩ := I.list hb
  obtain rfl := vals_refs rv
  obtain rfl := vals_refs rv2
  refine RcNeAt.lists (e := fun _ => true) hl.isList hl2.isList rfl hu (fun j h1 h2 => EqAt.same _) X.prog X.w X.xe _ ?_
  rw [all_true]
  exact fin_bl I q rfl
theorem op_eqRefs (hu : X.A.units < cLine) : OpR X (compareOp .Eq) (rEqRefs X.K) := by
  intro pins s σ H x y v u Q I rx ry h
  obtain ⟨a, b, as, rfl, rfl, ha, hb, q⟩ := h
  cases rx
  cases ry
  obtain ⟨its, rv, hl, _⟩ := I.list ha
  obtain ⟨its2, rv2, hl2, _⟩ := I.list hb
  obtain rfl := vals_refs rv
  obtain rfl := vals_refs rv2
  refine eq_listAt (e := fun _ => true) hl.isList hl2.isList rfl hu (fun j h1 h2 => EqAt.same _) ?_
  rw [all_true]
  exact fin_bl I q rfl
theorem op_mulS : OpR X (binaryOp .Mult) rMulS := by
  intro pins s σ H x y v u Q I rx ry h
  obtain ⟨i, k, rfl, rfl, hk, q⟩ := h
  obtain ⟨t, rfl⟩ := rx
  obtain ⟨t', rfl⟩ := ry
  exact PySem.SB.mul hk fun t2 k2 => ⟨.str (Txt.mul i k), H, I.tok k2, ⟨_, rfl⟩, q⟩
end
end RD

set_option Elab.async false
set_option linter.all false
set_option maxRecDepth 100000
set_option maxHeartbeats 4000000
/-! Rows of texts in order: there is one alone. -/
namespace RE
open PySem PySem.Spec PyProof.Rows L2
def le (a b : List Nat) : Prop := ltCps b a = false
theorem lt_split : ∀ (a b c : List Nat), ltCps a c = true → ltCps a b = true ∨ ltCps b c = true
  | [], [], c, h => .inr h
  | [], _ :: _, _, _ => .inl rfl
  | _ :: _, _, [], h => nomatch h
  | x :: a, [], z :: c, h => .inr rfl
  | x :: a, y :: b, z :: c, h => by
    have h : (decide (x < z) || (x == z && ltCps a c)) = true := h
    show (decide (x < y) || (x == y && ltCps a b)) = true ∨ (decide (y < z) || (y == z && ltCps b c)) = true
    rcases Nat.lt_trichotomy x y with h1 | h1 | h1
    · exact .inl (by rw [decide_eq_true h1]; rfl)
    · subst h1
      rcases Bool.or_eq_true_iff.mp h with h2 | h2
      · exact .inr (by rw [h2]; rfl)
      · obtain ⟨h3, h4⟩ := Bool.and_eq_true_iff.mp h2
        rcases lt_split a b c h4 with h5 | h5
        · exact .inl (by rw [h5]; simp)
        · exact .inr (by rw [h3, h5]; simp)
    · have h6 : y < z := by
        rcases Bool.or_eq_true_iff.mp h with h2 | h2
        · exact Nat.lt_trans h1 (of_decide_eq_true h2)
        · obtain ⟨h3, _⟩ := Bool.and_eq_true_iff.mp h2
          rw [← eq_of_beq h3]; exact h1
      exact .inr (by rw [decide_eq_true h6]; rfl)
theorem le_trans {a b c : List Nat} (h1 : le a b) (h2 : le b c) : le a c := by
  unfold le at *
  cases e : ltCps c a with
  | false => rfl
  | true =>
    rcases lt_split c b a e with h | h
    · rw [h2] at h; cases h
    · rw [h1] at h; cases h
theorem le_anti : ∀ {a b : List Nat}, le a b → le b a → a = b
  | [], [], _, _ => rfl
  | [], _ :: _, _, h => nomatch h
  | _ :: _, [], h, _ => nomatch h
  | x :: a, y :: b, h1, h2 => by
    have h1 : (decide (y < x) || (y == x && ltCps b a)) = false := h1
    have h2 : (decide (x < y) || (x == y && ltCps a b)) = false := h2
    rw [Bool.or_eq_false_iff] at h1 h2
    have e : x = y := by
      have a1 := of_decide_eq_false h1.1
      have a2 := of_decide_eq_false h2.1
      omega
    subst e
    have h3 : ltCps b a = false := by have := h1.2; simpa using this
    have h4 : ltCps a b = false := by have := h2.2; simpa using this
    rw [le_anti (a := a) (b := b) h3 h4]
def leS (a b : Str) : Prop := le (TL.tl a) (TL.tl b)
theorem rising : ∀ (p : Str) (l : List Str), risingS p l = true → (p :: l).Pairwise leS
  | p, [], _ => List.pairwise_singleton _ _
  | p, x :: r, h => by
    have h : (!ltCps x.cps.toList p.cps.toList && risingS x r) = true := h
    obtain ⟨h1, h2⟩ := Bool.and_eq_true_iff.mp h
    have i := rising x r h2
    refine List.pairwise_cons.mpr ⟨fun z hz => ?_, i⟩
    have a : leS p x := by
      show ltCps (TL.tl x) (TL.tl p) = false
      have h1 : (!ltCps (TL.tl x) (TL.tl p)) = true := h1
      cases e : ltCps (TL.tl x) (TL.tl p) with
      | false => rfl
      | true => rw [e] at h1; cases h1
    rcases List.mem_cons.mp hz with rfl | hz
    · exact a
    · exact le_trans a ((List.pairwise_cons.mp i).1 z hz)
theorem sorted_pw : ∀ {l : List Str}, sortedS l = true → l.Pairwise leS
  | [], _ => List.Pairwise.nil
  | x :: r, h => rising x r h
theorem uniq : ∀ {l m : List Str}, l.Perm m → l.Pairwise leS → m.Pairwise leS → l = m
  | [], m, hp, _, _ => by rw [List.nil_perm.mp hp]
  | x :: r, m, hp, h1, h2 => by
    cases m with
    | nil => exact absurd hp.length_eq (by simp)
    | cons y t =>
      obtain ⟨a1, a2⟩ := List.pairwise_cons.mp h1
      obtain ⟨b1, b2⟩ := List.pairwise_cons.mp h2
      have e : x = y := by
        have hx : x ∈ y :: t := hp.mem_iff.mp List.mem_cons_self
        have hy : y ∈ x :: r := hp.mem_iff.mpr List.mem_cons_self
        rcases List.mem_cons.mp hx with rfl | hx
        · rfl
        rcases List.mem_cons.mp hy with rfl | hy
        · rfl
        exact TL.ext_tl (le_anti (a1 y hy) (b1 x hx))
      subst e
      rw [uniq ((List.perm_cons x).mp hp) a2 b2]
/-- a sorted row's part is that part, sorted -/
theorem sorted_filter {xs ys zs : List Str} {p : Str → Bool} (h1 : ys.Perm xs) (h2 : sortedS ys = true) (h3 : zs.Perm (xs.filter p)) (h4 : sortedS zs = true) : zs = ys.filter p :=
  uniq (h3.trans (h1.symm.filter p)) (sorted_pw h4) ((sorted_pw h2).filter p)
end RE

set_option Elab.async false
set_option linter.all false
set_option maxRecDepth 100000
set_option maxHeartbeats 0
namespace K17
open PySem PySem.Spec PyProof.Rows L2 RC
/-! ### the text -/
def top (i : Nat) : Stmt := PySem.Challenge.pw_recordyard_k21_parents_and_children.main.body.getD i (.Pass ⟨0, 0, 0, 0⟩)
abbrev s_Filterer_init : Stmt := inClass (top 17) 0
abbrev nm_Filterer_init : List Str := ["self"]
theorem sc_Filterer_init : FnScope nm_Filterer_init ["self"] (defScope s_Filterer_init) := ⟨rfl, rfl, rfl, by decide +kernel, rfl, by decide +kernel, by decide +kernel⟩
def dd_Filterer_init : He.DefD := ⟨("Filterer", some "__init__"), "__init__", "Filterer.__init__", defArgs s_Filterer_init, defBody s_Filterer_init, defScope s_Filterer_init, [], []⟩
abbrev s_Handler_init : Stmt := inClass (top 19) 0
abbrev nm_Handler_init : List Str := ["self", "yard"]
theorem sc_Handler_init : FnScope nm_Handler_init ["self", "yard"] (defScope s_Handler_init) := ⟨rfl, rfl, rfl, by decide +kernel, rfl, by decide +kernel, by decide +kernel⟩
def dd_Handler_init : He.DefD := ⟨("Handler", some "__init__"), "__init__", "Handler.__init__", defArgs s_Handler_init, defBody s_Handler_init, defScope s_Handler_init, [], []⟩
abbrev s_StreamHandler_init : Stmt := inClass (top 20) 0
abbrev nm_StreamHandler_init : List Str := ["self", "yard", "stream"]
theorem sc_StreamHandler_init : FnScope nm_StreamHandler_init ["self", "yard", "stream"] (defScope s_StreamHandler_init) := ⟨rfl, rfl, rfl, by decide +kernel, rfl, by decide +kernel, by decide +kernel⟩
def dd_StreamHandler_init : He.DefD := ⟨("StreamHandler", some "__init__"), "__init__", "StreamHandler.__init__", defArgs s_StreamHandler_init, defBody s_StreamHandler_init, defScope s_StreamHandler_init, [.str "stderr"], []⟩
abbrev s_is_part : Stmt := top 33
abbrev nm_is_part : List Str := ["text", "sign"]
theorem sc_is_part : FnScope nm_is_part ["text"] (defScope s_is_part) := ⟨rfl, rfl, rfl, by decide +kernel, rfl, by decide +kernel, by decide +kernel⟩
def dd_is_part : He.DefD := ⟨("is_part", none), "is_part", "is_part", defArgs s_is_part, defBody s_is_part, defScope s_is_part, [], []⟩
abbrev s_are_parts : Stmt := top 34
abbrev nm_are_parts : List Str := ["thing", "part"]
theorem sc_are_parts : FnScope nm_are_parts ["thing"] (defScope s_are_parts) := ⟨rfl, rfl, rfl, by decide +kernel, rfl, by decide +kernel, by decide +kernel⟩
def dd_are_parts : He.DefD := ⟨("are_parts", none), "are_parts", "are_parts", defArgs s_are_parts, defBody s_are_parts, defScope s_are_parts, [], []⟩
abbrev s_parent_of : Stmt := top 35
abbrev nm_parent_of : List Str := ["yard", "name", "parts", "many", "above"]
theorem sc_parent_of : FnScope nm_parent_of ["yard", "name"] (defScope s_parent_of) := ⟨rfl, rfl, rfl, by decide +kernel, rfl, by decide +kernel, by decide +kernel⟩
def dd_parent_of : He.DefD := ⟨("parent_of", none), "parent_of", "parent_of", defArgs s_parent_of, defBody s_parent_of, defScope s_parent_of, [], []⟩
abbrev s_place_loggers : Stmt := top 36
abbrev nm_place_loggers : List Str := ["yard", "name"]
theorem sc_place_loggers : FnScope nm_place_loggers ["yard"] (defScope s_place_loggers) := ⟨rfl, rfl, rfl, by decide +kernel, rfl, by decide +kernel, by decide +kernel⟩
def dd_place_loggers : He.DefD := ⟨("place_loggers", none), "place_loggers", "place_loggers", defArgs s_place_loggers, defBody s_place_loggers, defScope s_place_loggers, [], []⟩
abbrev s_Logger_init : Stmt := inClass (top 37) 0
abbrev nm_Logger_init : List Str := ["self", "yard", "name", "level"]
theorem sc_Logger_init : FnScope nm_Logger_init ["self", "yard", "name", "level"] (defScope s_Logger_init) := ⟨rfl, rfl, rfl, by decide +kernel, rfl, by decide +kernel, by decide +kernel⟩
def dd_Logger_init : He.DefD := ⟨("Logger", some "__init__"), "__init__", "Logger.__init__", defArgs s_Logger_init, defBody s_Logger_init, defScope s_Logger_init, [], []⟩
abbrev s_Logger_getChild : Stmt := inClass (top 37) 4
abbrev nm_Logger_getChild : List Str := ["self", "suffix"]
theorem sc_Logger_getChild : FnScope nm_Logger_getChild ["self", "suffix"] (defScope s_Logger_getChild) := ⟨rfl, rfl, rfl, by decide +kernel, rfl, by decide +kernel, by decide +kernel⟩
def dd_Logger_getChild : He.DefD := ⟨("Logger", some "getChild"), "getChild", "Logger.getChild", defArgs s_Logger_getChild, defBody s_Logger_getChild, defScope s_Logger_getChild, [], []⟩
abbrev s_Logger_is_parent_of : Stmt := inClass (top 37) 5
abbrev nm_Logger_is_parent_of : List Str := ["self", "other", "many"]
theorem sc_Logger_is_parent_of : FnScope nm_Logger_is_parent_of ["self", "other"] (defScope s_Logger_is_parent_of) := ⟨rfl, rfl, rfl, by decide +kernel, rfl, by decide +kernel, by decide +kernel⟩
def dd_Logger_is_parent_of : He.DefD := ⟨("Logger", some "is_parent_of"), "is_parent_of", "Logger.is_parent_of", defArgs s_Logger_is_parent_of, defBody s_Logger_is_parent_of, defScope s_Logger_is_parent_of, [], []⟩
abbrev s_Logger_getChildren : Stmt := inClass (top 37) 6
abbrev nm_Logger_getChildren : List Str := ["self", "found", "name", "logger"]
theorem sc_Logger_getChildren : FnScope nm_Logger_getChildren ["self"] (defScope s_Logger_getChildren) := ⟨rfl, rfl, rfl, by decide +kernel, rfl, by decide +kernel, by decide +kernel⟩
def dd_Logger_getChildren : He.DefD := ⟨("Logger", some "getChildren"), "getChildren", "Logger.getChildren", defArgs s_Logger_getChildren, defBody s_Logger_getChildren, defScope s_Logger_getChildren, [], []⟩
abbrev s_Yard_init : Stmt := inClass (top 39) 0
abbrev nm_Yard_init : List Str := ["self", "now"]
theorem sc_Yard_init : FnScope nm_Yard_init ["self", "now"] (defScope s_Yard_init) := ⟨rfl, rfl, rfl, by decide +kernel, rfl, by decide +kernel, by decide +kernel⟩
def dd_Yard_init : He.DefD := ⟨("Yard", some "__init__"), "__init__", "Yard.__init__", defArgs s_Yard_init, defBody s_Yard_init, defScope s_Yard_init, [.int 0], []⟩
abbrev s_Yard_getLogger : Stmt := inClass (top 39) 20
abbrev nm_Yard_getLogger : List Str := ["self", "name"]
theorem sc_Yard_getLogger : FnScope nm_Yard_getLogger ["self", "name"] (defScope s_Yard_getLogger) := ⟨rfl, rfl, rfl, by decide +kernel, rfl, by decide +kernel, by decide +kernel⟩
def dd_Yard_getLogger : He.DefD := ⟨("Yard", some "getLogger"), "getLogger", "Yard.getLogger", defArgs s_Yard_getLogger, defBody s_Yard_getLogger, defScope s_Yard_getLogger, [.str ""], []⟩
abbrev s_Yard_enrol : Stmt := inClass (top 39) 24
abbrev nm_Yard_enrol : List Str := ["self", "handler"]
theorem sc_Yard_enrol : FnScope nm_Yard_enrol ["self", "handler"] (defScope s_Yard_enrol) := ⟨rfl, rfl, rfl, by decide +kernel, rfl, by decide +kernel, by decide +kernel⟩
def dd_Yard_enrol : He.DefD := ⟨("Yard", some "enrol"), "enrol", "Yard.enrol", defArgs s_Yard_enrol, defBody s_Yard_enrol, defScope s_Yard_enrol, [], []⟩
abbrev s__law_draw : Stmt := top 41
abbrev nm__law_draw : List Str := ["_law_s", "_law_many", "_law_digit", "_law_mixed", "_law_last"]
theorem sc__law_draw : FnScope nm__law_draw ["_law_s", "_law_many"] (defScope s__law_draw) := ⟨rfl, rfl, rfl, by decide +kernel, rfl, by decide +kernel, by decide +kernel⟩
def dd__law_draw : He.DefD := ⟨("_law_draw", none), "_law_draw", "_law_draw", defArgs s__law_draw, defBody s__law_draw, defScope s__law_draw, [], []⟩
abbrev s__law_pick : Stmt := top 42
abbrev nm__law_pick : List Str := ["_law_s", "_law_some"]
theorem sc__law_pick : FnScope nm__law_pick ["_law_s", "_law_some"] (defScope s__law_pick) := ⟨rfl, rfl, rfl, by decide +kernel, rfl, by decide +kernel, by decide +kernel⟩
def dd__law_pick : He.DefD := ⟨("_law_pick", none), "_law_pick", "_law_pick", defArgs s__law_pick, defBody s__law_pick, defScope s__law_pick, [], []⟩
abbrev s__law_name : Stmt := top 43
abbrev nm__law_name : List Str := ["_law_s", "_law_most", "_law_k"]
theorem sc__law_name : FnScope nm__law_name ["_law_s", "_law_most"] (defScope s__law_name) := ⟨rfl, rfl, rfl, by decide +kernel, rfl, by decide +kernel, by decide +kernel⟩
def dd__law_name : He.DefD := ⟨("_law_name", none), "_law_name", "_law_name", defArgs s__law_name, defBody s__law_name, defScope s__law_name, [], []⟩
abbrev s__law_parent : Stmt := top 44
abbrev nm__law_parent : List Str := ["_law_names", "_law_name_here", "_law_parts", "_law_found", "_law_many", "_law_above"]
theorem sc__law_parent : FnScope nm__law_parent ["_law_names", "_law_name_here"] (defScope s__law_parent) := ⟨rfl, rfl, rfl, by decide +kernel, rfl, by decide +kernel, by decide +kernel⟩
def dd__law_parent : He.DefD := ⟨("_law_parent", none), "_law_parent", "_law_parent", defArgs s__law_parent, defBody s__law_parent, defScope s__law_parent, [], []⟩
abbrev s__law_are_right : Stmt := top 45
abbrev nm__law_are_right : List Str := ["_law_yard", "_law_known", "_law_name_here", "_law_above", "_law_depth", "_law_below", "_law_one", "_law_due", "_law_found"]
theorem sc__law_are_right : FnScope nm__law_are_right ["_law_yard", "_law_known"] (defScope s__law_are_right) := ⟨rfl, rfl, rfl, by decide +kernel, rfl, by decide +kernel, by decide +kernel⟩
def dd__law_are_right : He.DefD := ⟨("_law_are_right", none), "_law_are_right", "_law_are_right", defArgs s__law_are_right, defBody s__law_are_right, defScope s__law_are_right, [], []⟩
abbrev s_law : Stmt := top 46
abbrev nm_law : List Str := ["_law_script", "_law_s", "_law_yard", "_law_known", "_law_turn", "_law_name_here", "_law_above", "_law_point", "_law_rest"]
theorem sc_law : FnScope nm_law ["_law_script"] (defScope s_law) := ⟨rfl, rfl, rfl, by decide +kernel, rfl, by decide +kernel, by decide +kernel⟩
def dd_law : He.DefD := ⟨("law", none), "law", "law", defArgs s_law, defBody s_law, defScope s_law, [], []⟩
def kv_FIRST_NAMES : List (Key × He.Dv) := [(Sum.inl (50), .str "CRITICAL"), (Sum.inl (40), .str "ERROR"), (Sum.inl (30), .str "WARNING"), (Sum.inl (20), .str "INFO"), (Sum.inl (10), .str "DEBUG"), (Sum.inl (0), .str "NOTSET")]
def kv_FIRST_NUMBERS : List (Key × He.Dv) := [(Sum.inr "CRITICAL", .int (50)), (Sum.inr "FATAL", .int (50)), (Sum.inr "ERROR", .int (40)), (Sum.inr "WARNING", .int (30)), (Sum.inr "WARN", .int (30)), (Sum.inr "INFO", .int (20)), (Sum.inr "DEBUG", .int (10)), (Sum.inr "NOTSET", .int (0))]
def fa : List He.Fa := ([.glo "Filterer", .glo "Handler", .glo "StreamHandler", .glo "Logger", .glo "Yard", .glo "is_part", .glo "are_parts", .glo "parent_of", .glo "place_loggers", .glo "_law_draw", .glo "_law_pick", .glo "_law_name"] : List He.Fa) ++ ([.glo "_law_parent", .glo "_law_are_right", .glo "law", .int "WARNING" 30, .int "NOTSET" 0, .glo "FIRST_NAMES", .glo "FIRST_NUMBERS", .str "SIGNS" "abcdefghijklmnopqrstuvwxyzABCDEFGHIJKLMNOPQRSTUVWXYZ0123456789_", .free "len", .free "isinstance", .free "int", .free "str"] : List He.Fa) ++ ([.free "list", .free "dict", .free "range", .free "sorted", .free "all", .cls "StreamHandler", .noat "StreamHandler" "filters", .noat "StreamHandler" "yard", .noat "StreamHandler" "level", .noat "StreamHandler" "formatter", .noat "StreamHandler" "name", .noat "StreamHandler" "terminator"] : List He.Fa) ++ ([.noat "StreamHandler" "closed", .noat "StreamHandler" "stream", .cls "Logger", .noat "Logger" "filters", .noat "Logger" "yard", .noat "Logger" "name", .noat "Logger" "level", .noat "Logger" "propagate", .noat "Logger" "disabled", .noat "Logger" "handlers", .noat "Logger" "parent", .cls "Yard"] : List He.Fa) ++ ([.noat "Yard" "clock", .noat "Yard" "stream_texts", .noat "Yard" "file_rows", .noat "Yard" "names_of", .noat "Yard" "numbers_of", .noat "Yard" "bar_level", .noat "Yard" "logger_map", .noat "Yard" "made", .noat "Yard" "handler_names", .noat "Yard" "failure_rows", .noat "Yard" "root", .noat "Yard" "last_resort"] : List He.Fa) ++ ([.meth "Logger" "getChild", .meth "Logger" "is_parent_of", .meth "Logger" "getChildren", .meth "Yard" "getLogger", .meth "Yard" "enrol", .mkr "StreamHandler", .mkr "Logger", .mkr "Yard"] : List He.Fa)
def fx : List RB.Fx := ([.pl "Logger", .sub "Logger" "Logger", .cf "Filterer" "__init__", .cf "Handler" "__init__"] : List RB.Fx)
def fn : List He.DefD := ([dd_Filterer_init, dd_Handler_init, dd_StreamHandler_init, dd_is_part, dd_are_parts, dd_parent_of, dd_place_loggers, dd_Logger_init, dd_Logger_getChild, dd_Logger_is_parent_of, dd_Logger_getChildren, dd_Yard_init] : List He.DefD) ++ ([dd_Yard_getLogger, dd_Yard_enrol, dd__law_draw, dd__law_pick, dd__law_name, dd__law_parent, dd__law_are_right, dd_law] : List He.DefD)
def ts : List RB.Tb := ([("FIRST_NAMES", kv_FIRST_NAMES), ("FIRST_NUMBERS", kv_FIRST_NUMBERS)] : List RB.Tb)
def names : List PySem.Str := (["_wall", "YardError", "BadLevel", "BadName", "BadExtra", "BadMessage", "BadField", "OWN_FIELDS", "copied_value", "message_of", "LogRecord", "is_below"] : List PySem.Str) ++ (["let_by", "Filter", "Filterer", "Handler", "StreamHandler", "CRITICAL", "ERROR", "WARNING", "INFO", "DEBUG", "NOTSET", "FIRST_NAMES"] : List PySem.Str) ++ (["FIRST_NUMBERS", "is_integer", "SIGNS", "is_part", "are_parts", "parent_of", "place_loggers", "Logger", "Yard", "_law_draw", "_law_pick", "_law_name"] : List PySem.Str) ++ (["_law_parent", "_law_are_right"] : List PySem.Str)
/-- what the text is, behind the top -/
structure Txt (P : Program) (w : World) (K : PySem.W.Frag) (mg : Str → Option Value) : Prop where
  g_Filterer : mg "Filterer" = some (.ref (He.ga K "Filterer"))
  g_Handler : mg "Handler" = some (.ref (He.ga K "Handler"))
  g_StreamHandler : mg "StreamHandler" = some (.ref (He.ga K "StreamHandler"))
  g_Logger : mg "Logger" = some (.ref (He.ga K "Logger"))
  g_Yard : mg "Yard" = some (.ref (He.ga K "Yard"))
  g_is_part : mg "is_part" = some (.ref (He.ga K "is_part"))
  g_are_parts : mg "are_parts" = some (.ref (He.ga K "are_parts"))
  g_parent_of : mg "parent_of" = some (.ref (He.ga K "parent_of"))
  g_place_loggers : mg "place_loggers" = some (.ref (He.ga K "place_loggers"))
  g__law_draw : mg "_law_draw" = some (.ref (He.ga K "_law_draw"))
  g__law_pick : mg "_law_pick" = some (.ref (He.ga K "_law_pick"))
  g__law_name : mg "_law_name" = some (.ref (He.ga K "_law_name"))
  g__law_parent : mg "_law_parent" = some (.ref (He.ga K "_law_parent"))
  g__law_are_right : mg "_law_are_right" = some (.ref (He.ga K "_law_are_right"))
  g_law : mg "law" = some (.ref (He.ga K "law"))
  g_WARNING : ∃ t, mg "WARNING" = some (.int 30 t)
  g_NOTSET : ∃ t, mg "NOTSET" = some (.int 0 t)
  g_FIRST_NAMES : mg "FIRST_NAMES" = some (.ref (He.ga K "FIRST_NAMES"))
  g_FIRST_NUMBERS : mg "FIRST_NUMBERS" = some (.ref (He.ga K "FIRST_NUMBERS"))
  g_SIGNS : ∃ t, mg "SIGNS" = some (.str "abcdefghijklmnopqrstuvwxyzABCDEFGHIJKLMNOPQRSTUVWXYZ0123456789_" t)
  b_len : mg "len" = none
  b_isinstance : mg "isinstance" = none
  b_int : mg "int" = none
  b_str : mg "str" = none
  b_list : mg "list" = none
  b_dict : mg "dict" = none
  b_range : mg "range" = none
  b_sorted : mg "sorted" = none
  b_all : mg "all" = none
  c_StreamHandler : Cls K (He.ga K "StreamHandler")
  n_StreamHandler_filters : NoAttr K (He.ga K "StreamHandler") "filters"
  n_StreamHandler_yard : NoAttr K (He.ga K "StreamHandler") "yard"
  n_StreamHandler_level : NoAttr K (He.ga K "StreamHandler") "level"
  n_StreamHandler_formatter : NoAttr K (He.ga K "StreamHandler") "formatter"
  n_StreamHandler_name : NoAttr K (He.ga K "StreamHandler") "name"
  n_StreamHandler_terminator : NoAttr K (He.ga K "StreamHandler") "terminator"
  n_StreamHandler_closed : NoAttr K (He.ga K "StreamHandler") "closed"
  n_StreamHandler_stream : NoAttr K (He.ga K "StreamHandler") "stream"
  c_Logger : Cls K (He.ga K "Logger")
  n_Logger_filters : NoAttr K (He.ga K "Logger") "filters"
  n_Logger_yard : NoAttr K (He.ga K "Logger") "yard"
  n_Logger_name : NoAttr K (He.ga K "Logger") "name"
  n_Logger_level : NoAttr K (He.ga K "Logger") "level"
  n_Logger_propagate : NoAttr K (He.ga K "Logger") "propagate"
  n_Logger_disabled : NoAttr K (He.ga K "Logger") "disabled"
  n_Logger_handlers : NoAttr K (He.ga K "Logger") "handlers"
  n_Logger_parent : NoAttr K (He.ga K "Logger") "parent"
  c_Yard : Cls K (He.ga K "Yard")
  n_Yard_clock : NoAttr K (He.ga K "Yard") "clock"
  n_Yard_stream_texts : NoAttr K (He.ga K "Yard") "stream_texts"
  n_Yard_file_rows : NoAttr K (He.ga K "Yard") "file_rows"
  n_Yard_names_of : NoAttr K (He.ga K "Yard") "names_of"
  n_Yard_numbers_of : NoAttr K (He.ga K "Yard") "numbers_of"
  n_Yard_bar_level : NoAttr K (He.ga K "Yard") "bar_level"
  n_Yard_logger_map : NoAttr K (He.ga K "Yard") "logger_map"
  n_Yard_made : NoAttr K (He.ga K "Yard") "made"
  n_Yard_handler_names : NoAttr K (He.ga K "Yard") "handler_names"
  n_Yard_failure_rows : NoAttr K (He.ga K "Yard") "failure_rows"
  n_Yard_root : NoAttr K (He.ga K "Yard") "root"
  n_Yard_last_resort : NoAttr K (He.ga K "Yard") "last_resort"
  m_Logger_getChild : Meth K (He.ga K "Logger") "getChild" (He.ma K (He.ga K "Logger") "getChild")
  m_Logger_is_parent_of : Meth K (He.ga K "Logger") "is_parent_of" (He.ma K (He.ga K "Logger") "is_parent_of")
  m_Logger_getChildren : Meth K (He.ga K "Logger") "getChildren" (He.ma K (He.ga K "Logger") "getChildren")
  m_Yard_getLogger : Meth K (He.ga K "Yard") "getLogger" (He.ma K (He.ga K "Yard") "getLogger")
  m_Yard_enrol : Meth K (He.ga K "Yard") "enrol" (He.ma K (He.ga K "Yard") "enrol")
  k_StreamHandler : Mk K (He.ga K "StreamHandler") (He.ma K (He.ga K "StreamHandler") "__init__")
  k_Logger : Mk K (He.ga K "Logger") (He.ma K (He.ga K "Logger") "__init__")
  k_Yard : Mk K (He.ga K "Yard") (He.ma K (He.ga K "Yard") "__init__")
  p_Logger : RA.PlainC K (He.ga K "Logger")
  sub_Logger_Logger : RA.PairC K (He.ga K "Logger") (He.ga K "Logger")
  cf_Filterer_init : RA.CFun K (He.ga K "Filterer") "__init__" (He.ma K (He.ga K "Filterer") "__init__")
  cf_Handler_init : RA.CFun K (He.ga K "Handler") "__init__" (He.ma K (He.ga K "Handler") "__init__")
  d_Filterer_init : Stands K "__init__" "Filterer.__init__" s_Filterer_init [] (He.fAd K ("Filterer", some "__init__"))
  d_Handler_init : Stands K "__init__" "Handler.__init__" s_Handler_init [] (He.fAd K ("Handler", some "__init__"))
  d_StreamHandler_init : Stands K "__init__" "StreamHandler.__init__" s_StreamHandler_init [(He.Dv.str "stderr" : He.Dv).v K] (He.fAd K ("StreamHandler", some "__init__"))
  d_is_part : Stands K "is_part" "is_part" s_is_part [] (He.fAd K ("is_part", none))
  d_are_parts : Stands K "are_parts" "are_parts" s_are_parts [] (He.fAd K ("are_parts", none))
  d_parent_of : Stands K "parent_of" "parent_of" s_parent_of [] (He.fAd K ("parent_of", none))
  d_place_loggers : Stands K "place_loggers" "place_loggers" s_place_loggers [] (He.fAd K ("place_loggers", none))
  d_Logger_init : Stands K "__init__" "Logger.__init__" s_Logger_init [] (He.fAd K ("Logger", some "__init__"))
  d_Logger_getChild : Stands K "getChild" "Logger.getChild" s_Logger_getChild [] (He.fAd K ("Logger", some "getChild"))
  d_Logger_is_parent_of : Stands K "is_parent_of" "Logger.is_parent_of" s_Logger_is_parent_of [] (He.fAd K ("Logger", some "is_parent_of"))
  d_Logger_getChildren : Stands K "getChildren" "Logger.getChildren" s_Logger_getChildren [] (He.fAd K ("Logger", some "getChildren"))
  d_Yard_init : Stands K "__init__" "Yard.__init__" s_Yard_init [(He.Dv.int 0 : He.Dv).v K] (He.fAd K ("Yard", some "__init__"))
  d_Yard_getLogger : Stands K "getLogger" "Yard.getLogger" s_Yard_getLogger [(He.Dv.str "" : He.Dv).v K] (He.fAd K ("Yard", some "getLogger"))
  d_Yard_enrol : Stands K "enrol" "Yard.enrol" s_Yard_enrol [] (He.fAd K ("Yard", some "enrol"))
  d__law_draw : Stands K "_law_draw" "_law_draw" s__law_draw [] (He.fAd K ("_law_draw", none))
  d__law_pick : Stands K "_law_pick" "_law_pick" s__law_pick [] (He.fAd K ("_law_pick", none))
  d__law_name : Stands K "_law_name" "_law_name" s__law_name [] (He.fAd K ("_law_name", none))
  d__law_parent : Stands K "_law_parent" "_law_parent" s__law_parent [] (He.fAd K ("_law_parent", none))
  d__law_are_right : Stands K "_law_are_right" "_law_are_right" s__law_are_right [] (He.fAd K ("_law_are_right", none))
  d_law : Stands K "law" "law" s_law [] (He.fAd K ("law", none))
  t_FIRST_NAMES : RB.KD P w K (He.ga K "FIRST_NAMES") (kv_FIRST_NAMES.map fun q => (q.1, q.2.v K))
  t_FIRST_NUMBERS : RB.KD P w K (He.ga K "FIRST_NUMBERS") (kv_FIRST_NUMBERS.map fun q => (q.1, q.2.v K))
theorem Txt.of {P : Program} {w : World} {K : PySem.W.Frag} {h : Heap} {mg : Str → Option Value} (X : K.In h) (G : h.Ns mainGlobals mg) (c : RB.SaysB fa fx fn ts w K) : Txt P w K mg where
    g_Filterer := He.glo_ok X G (c.fact 0 (f := .glo "Filterer") (by rfl))
    g_Handler := He.glo_ok X G (c.fact 1 (f := .glo "Handler") (by rfl))
    g_StreamHandler := He.glo_ok X G (c.fact 2 (f := .glo "StreamHandler") (by rfl))
    g_Logger := He.glo_ok X G (c.fact 3 (f := .glo "Logger") (by rfl))
    g_Yard := He.glo_ok X G (c.fact 4 (f := .glo "Yard") (by rfl))
    g_is_part := He.glo_ok X G (c.fact 5 (f := .glo "is_part") (by rfl))
    g_are_parts := He.glo_ok X G (c.fact 6 (f := .glo "are_parts") (by rfl))
    g_parent_of := He.glo_ok X G (c.fact 7 (f := .glo "parent_of") (by rfl))
    g_place_loggers := He.glo_ok X G (c.fact 8 (f := .glo "place_loggers") (by rfl))
    g__law_draw := He.glo_ok X G (c.fact 9 (f := .glo "_law_draw") (by rfl))
    g__law_pick := He.glo_ok X G (c.fact 10 (f := .glo "_law_pick") (by rfl))
    g__law_name := He.glo_ok X G (c.fact 11 (f := .glo "_law_name") (by rfl))
    g__law_parent := He.glo_ok X G (c.fact 12 (f := .glo "_law_parent") (by rfl))
    g__law_are_right := He.glo_ok X G (c.fact 13 (f := .glo "_law_are_right") (by rfl))
    g_law := He.glo_ok X G (c.fact 14 (f := .glo "law") (by rfl))
    g_WARNING := He.int_ok X G (c.fact 15 (f := .int "WARNING" 30) (by rfl))
    g_NOTSET := He.int_ok X G (c.fact 16 (f := .int "NOTSET" 0) (by rfl))
    g_FIRST_NAMES := He.glo_ok X G (c.fact 17 (f := .glo "FIRST_NAMES") (by rfl))
    g_FIRST_NUMBERS := He.glo_ok X G (c.fact 18 (f := .glo "FIRST_NUMBERS") (by rfl))
    g_SIGNS := He.str_ok X G (c.fact 19 (f := .str "SIGNS" "abcdefghijklmnopqrstuvwxyzABCDEFGHIJKLMNOPQRSTUVWXYZ0123456789_") (by rfl))
    b_len := He.free_ok X G (c.fact 20 (f := .free "len") (by rfl))
    b_isinstance := He.free_ok X G (c.fact 21 (f := .free "isinstance") (by rfl))
    b_int := He.free_ok X G (c.fact 22 (f := .free "int") (by rfl))
    b_str := He.free_ok X G (c.fact 23 (f := .free "str") (by rfl))
    b_list := He.free_ok X G (c.fact 24 (f := .free "list") (by rfl))
    b_dict := He.free_ok X G (c.fact 25 (f := .free "dict") (by rfl))
    b_range := He.free_ok X G (c.fact 26 (f := .free "range") (by rfl))
    b_sorted := He.free_ok X G (c.fact 27 (f := .free "sorted") (by rfl))
    b_all := He.free_ok X G (c.fact 28 (f := .free "all") (by rfl))
    c_StreamHandler := He.cls_ok (c.fact 29 (f := .cls "StreamHandler") (by rfl))
    n_StreamHandler_filters := He.noat_ok (c.fact 30 (f := .noat "StreamHandler" "filters") (by rfl))
    n_StreamHandler_yard := He.noat_ok (c.fact 31 (f := .noat "StreamHandler" "yard") (by rfl))
    n_StreamHandler_level := He.noat_ok (c.fact 32 (f := .noat "StreamHandler" "level") (by rfl))
    n_StreamHandler_formatter := He.noat_ok (c.fact 33 (f := .noat "StreamHandler" "formatter") (by rfl))
    n_StreamHandler_name := He.noat_ok (c.fact 34 (f := .noat "StreamHandler" "name") (by rfl))
    n_StreamHandler_terminator := He.noat_ok (c.fact 35 (f := .noat "StreamHandler" "terminator") (by rfl))
    n_StreamHandler_closed := He.noat_ok (c.fact 36 (f := .noat "StreamHandler" "closed") (by rfl))
    n_StreamHandler_stream := He.noat_ok (c.fact 37 (f := .noat "StreamHandler" "stream") (by rfl))
    c_Logger := He.cls_ok (c.fact 38 (f := .cls "Logger") (by rfl))
    n_Logger_filters := He.noat_ok (c.fact 39 (f := .noat "Logger" "filters") (by rfl))
    n_Logger_yard := He.noat_ok (c.fact 40 (f := .noat "Logger" "yard") (by rfl))
    n_Logger_name := He.noat_ok (c.fact 41 (f := .noat "Logger" "name") (by rfl))
    n_Logger_level := He.noat_ok (c.fact 42 (f := .noat "Logger" "level") (by rfl))
    n_Logger_propagate := He.noat_ok (c.fact 43 (f := .noat "Logger" "propagate") (by rfl))
    n_Logger_disabled := He.noat_ok (c.fact 44 (f := .noat "Logger" "disabled") (by rfl))
    n_Logger_handlers := He.noat_ok (c.fact 45 (f := .noat "Logger" "handlers") (by rfl))
    n_Logger_parent := He.noat_ok (c.fact 46 (f := .noat "Logger" "parent") (by rfl))
    c_Yard := He.cls_ok (c.fact 47 (f := .cls "Yard") (by rfl))
    n_Yard_clock := He.noat_ok (c.fact 48 (f := .noat "Yard" "clock") (by rfl))
    n_Yard_stream_texts := He.noat_ok (c.fact 49 (f := .noat "Yard" "stream_texts") (by rfl))
    n_Yard_file_rows := He.noat_ok (c.fact 50 (f := .noat "Yard" "file_rows") (by rfl))
    n_Yard_names_of := He.noat_ok (c.fact 51 (f := .noat "Yard" "names_of") (by rfl))
    n_Yard_numbers_of := He.noat_ok (c.fact 52 (f := .noat "Yard" "numbers_of") (by rfl))
    n_Yard_bar_level := He.noat_ok (c.fact 53 (f := .noat "Yard" "bar_level") (by rfl))
    n_Yard_logger_map := He.noat_ok (c.fact 54 (f := .noat "Yard" "logger_map") (by rfl))
    n_Yard_made := He.noat_ok (c.fact 55 (f := .noat "Yard" "made") (by rfl))
    n_Yard_handler_names := He.noat_ok (c.fact 56 (f := .noat "Yard" "handler_names") (by rfl))
    n_Yard_failure_rows := He.noat_ok (c.fact 57 (f := .noat "Yard" "failure_rows") (by rfl))
    n_Yard_root := He.noat_ok (c.fact 58 (f := .noat "Yard" "root") (by rfl))
    n_Yard_last_resort := He.noat_ok (c.fact 59 (f := .noat "Yard" "last_resort") (by rfl))
    m_Logger_getChild := He.meth_ok (c.fact 60 (f := .meth "Logger" "getChild") (by rfl))
    m_Logger_is_parent_of := He.meth_ok (c.fact 61 (f := .meth "Logger" "is_parent_of") (by rfl))
    m_Logger_getChildren := He.meth_ok (c.fact 62 (f := .meth "Logger" "getChildren") (by rfl))
    m_Yard_getLogger := He.meth_ok (c.fact 63 (f := .meth "Yard" "getLogger") (by rfl))
    m_Yard_enrol := He.meth_ok (c.fact 64 (f := .meth "Yard" "enrol") (by rfl))
    k_StreamHandler := He.mkr_ok (c.fact 65 (f := .mkr "StreamHandler") (by rfl))
    k_Logger := He.mkr_ok (c.fact 66 (f := .mkr "Logger") (by rfl))
    k_Yard := He.mkr_ok (c.fact 67 (f := .mkr "Yard") (by rfl))
    p_Logger := RB.pl_ok (c.more 0 (f := .pl "Logger") (by rfl))
    sub_Logger_Logger := RB.sub_ok (c.more 1 (f := .sub "Logger" "Logger") (by rfl))
    cf_Filterer_init := RB.cf_ok (c.more 2 (f := .cf "Filterer" "__init__") (by rfl))
    cf_Handler_init := RB.cf_ok (c.more 3 (f := .cf "Handler" "__init__") (by rfl))
    d_Filterer_init := c.d.def_ 0 (d := dd_Filterer_init) (by rfl)
    d_Handler_init := c.d.def_ 1 (d := dd_Handler_init) (by rfl)
    d_StreamHandler_init := c.d.def_ 2 (d := dd_StreamHandler_init) (by rfl)
    d_is_part := c.d.def_ 3 (d := dd_is_part) (by rfl)
    d_are_parts := c.d.def_ 4 (d := dd_are_parts) (by rfl)
    d_parent_of := c.d.def_ 5 (d := dd_parent_of) (by rfl)
    d_place_loggers := c.d.def_ 6 (d := dd_place_loggers) (by rfl)
    d_Logger_init := c.d.def_ 7 (d := dd_Logger_init) (by rfl)
    d_Logger_getChild := c.d.def_ 8 (d := dd_Logger_getChild) (by rfl)
    d_Logger_is_parent_of := c.d.def_ 9 (d := dd_Logger_is_parent_of) (by rfl)
    d_Logger_getChildren := c.d.def_ 10 (d := dd_Logger_getChildren) (by rfl)
    d_Yard_init := c.d.def_ 11 (d := dd_Yard_init) (by rfl)
    d_Yard_getLogger := c.d.def_ 12 (d := dd_Yard_getLogger) (by rfl)
    d_Yard_enrol := c.d.def_ 13 (d := dd_Yard_enrol) (by rfl)
    d__law_draw := c.d.def_ 14 (d := dd__law_draw) (by rfl)
    d__law_pick := c.d.def_ 15 (d := dd__law_pick) (by rfl)
    d__law_name := c.d.def_ 16 (d := dd__law_name) (by rfl)
    d__law_parent := c.d.def_ 17 (d := dd__law_parent) (by rfl)
    d__law_are_right := c.d.def_ 18 (d := dd__law_are_right) (by rfl)
    d_law := c.d.def_ 19 (d := dd_law) (by rfl)
    t_FIRST_NAMES := c.tb 0 (t := ("FIRST_NAMES", kv_FIRST_NAMES)) (by rfl) P
    t_FIRST_NUMBERS := c.tb 1 (t := ("FIRST_NUMBERS", kv_FIRST_NUMBERS)) (by rfl) P
end K17

set_option Elab.async false
set_option linter.all false
set_option maxRecDepth 100000
set_option maxHeartbeats 0
namespace K17
open PySem PySem.Spec PyProof.Rows L2 RC
/-! ### the head -/
abbrev R : PySem.W.OpenRow := PySem.W.OpenLaw.row PySem.Challenge.rw_recordyard_k21_parents_and_children
abbrev hk : PySem.W.Hook := RB.hookB 4 fa fx fn ts
def ob (s : PySem.W.SharedT) : RB.AlB := RB.obsBG 4 fa fx fn ts (HandSHeadRun.getT s)
theorem ob_eq (s : PySem.W.SharedT) : ob s = hk.obs s.abs := RB.obsBG_eq (HandSHeadRun.getT_eq s)
theorem run_f (w : World) : HandSHeadRun.RunEq R (PySem.W.view R.prog [46]) hk ob 9000 names (w.withFollow "special-get-raises" false) := by
  intro os
  kernel_rfl
theorem run_t (w : World) : HandSHeadRun.RunEq R (PySem.W.view R.prog [46]) hk ob 9000 names (w.withFollow "special-get-raises" true) := by
  intro os
  kernel_rfl
theorem run (w : World) : HandSHeadRun.RunEq R (PySem.W.view R.prog [46]) hk ob 9000 names w := PySem.W.byRow2 "special-get-raises" (P := fun w => HandSHeadRun.RunEq R (PySem.W.view R.prog [46]) hk ob 9000 names w) run_f run_t w
end K17

set_option Elab.async false
set_option linter.all false
set_option maxRecDepth 100000
set_option maxHeartbeats 0
namespace K17
open PySem PySem.Spec PyProof.Rows L2 RC
section
variable {P : Program} {w : World} {K : PySem.W.Frag} {mg : Str → Option Value} {base : Heap}
theorem dp_ints {K : PySem.W.Frag} {H : Hp} : ∀ ns : List Int, DpAll K H (ns.map V.int) (ns.map PyData.int)
  | [] => .nil
  | n :: r => .cons (.int n) (dp_ints r)
theorem can_ints : ∀ ns : List Int, PyData.canLayAll0 (ns.map PyData.int) = true
  | [] => by simp [PyData.canLayAll0]
  | n :: r => by simp [PyData.canLayAll0, PyData.canLay0, can_ints r]
theorem dep_ints : ∀ ns : List Int, PyData.depthAll (ns.map PyData.int) = 0
  | [] => by simp [PyData.depthAll]
  | n :: r => by simp [PyData.depthAll, PyData.depth, dep_ints r]
theorem sh_ints (ns : List Int) : SeqAt.shaped (.list (ns.map PyData.int)) = true := by
  unfold SeqAt.shaped
  simp [PyData.canLay0, PyData.depth, can_ints, dep_ints]
theorem seq0 (v : Int) (r : List Int) : seqIndex? 0 ((v :: r).map V.int).length = some 0 := by
  unfold seqIndex?
  simp
def spDraw : Sp := fun vs H Q _ => ∃ (s l : Addr) (n : Nat) (many : Int), vs = [.ref s, .int many] ∧ Stm H s l n ∧ n ≤ 1000000 ∧ 1 ≤ many ∧ many < 1073741824 ∧
  ∀ (H' : Hp) (d : Int), Old s l H H' → Stm H' s l (n + 1) → 0 ≤ d → d < many → Q (.int d) H'
theorem old_upd {s l : Addr} {H H' : Hp} {a : Addr} {o : HO} (h : Old s l H H') (ha : a = s ∨ a = l ∨ H' a = none) : Old s l H (upd H' a o) := fun b u h1 h2 e => by
  have e2 := h b u h1 h2 e
  have hb : b ≠ a := by
    rintro rfl
    rcases ha with z | z | z
    · exact h1 z
    · exact h2 z
    · rw [z] at e2; cases e2
  rw [upd_ne hb]; exact e2
theorem stm_small {d c : Int} (h : 0 ≤ d) (h1 : d < 2147483647) (h2 : 0 ≤ c) (h3 : c ≤ 1000001) : (d + 104729 * c + 17).natAbs < 2 ^ 64 := by omega
theorem stm_small2 {m c : Int} (h : 0 ≤ m) (h1 : m < 2147483629) (h2 : 0 ≤ c) (h3 : c ≤ 1000001) : (m * 48271 + 40503 * c * c + 13).natAbs < 2 ^ 64 := by
  have q1 : 0 ≤ 40503 * c * c := Int.mul_nonneg (by omega) h2
  have q2 : 40503 * c * c ≤ 40503 * c * 1000001 := Int.mul_le_mul_of_nonneg_left h3 (by omega)
  omega
theorem ok_draw {f : Addr} (T : Txt P w K mg) (F : Stands K "_law_draw" "_law_draw" s__law_draw [] f) : Callable P w K mg base 1 f ["_law_s", "_law_many"] [] spDraw := by
  refine F.call0 sc__law_draw (fun vs H Q E h => ?_) (fun cdv A outer s H vs Q E hr h => ?_) (fun _ _ _ _ _ _ us hl => match us, hl with | [_, _], _ => rfl)
  · obtain ⟨s, l, n, m, rfl, _⟩ := h
    rfl
  obtain ⟨p, l, n, many, rfl, hS, hn, hm1, hm2, hQ⟩ := h
  refine ⟨_, (pss_cons (ps_while PassesOwn.never (PW.pt (pw_and (pt_cmpR op_eq (pe_ix ix_list (pv 0) pe_int (fun _ _ => rfl)) pe_int (nomark _)) (pw_and1 (pt_cmpR (op_neD hr.units) (pe_ix ix_list (pv 0) pe_int (fun _ _ => rfl)) (pe_lst pa_nil) (nomark _))))) (pss_cons (ps_asg (pe_bm PySem.F.plainAttrs_list PySem.F.slot_list_pop PySem.F.type_list_pop mt_popAt (pe_ix ix_list (pv 0) pe_int (fun _ _ => rfl)) (pa_cons pe_int pa_nil)) (pg_sub (pv 0) pe_int set_list))
      (pss_one (ps_if (pt_cmpR op_lt (pe_ix ix_list (pv 0) pe_int (fun _ _ => rfl)) (pe_op op_pow pe_int pe_int) (nomark _)) (pss_cons (ps_asg (pe_op op_mod (pe_callTy call_int1 (by rfl) T.b_int (by decide +kernel) (pa_cons (pe_op op_add (pe_op op_add (pe_op op_mul (pe_ix ix_list (pv 0) pe_int (fun _ _ => rfl)) pe_int) (pe_ix ix_list (pv 0) pe_int (fun _ _ => rfl))) pe_int) pa_nil)) pe_int) (pg_sub (pv 0) pe_int set_list))
      (pss_one (ps_asg pe_int (pg_sub (pv 0) pe_int set_list)))) pss_nil))))
      (pss_cons (ps_if (pt_cmpR op_gt (pe_ix ix_list (pv 0) pe_int (fun _ _ => rfl)) pe_int (nomark _)) (pss_cons (ps_set (i := 2) sc__law_draw.nd rfl (by first | exact Or.inl rfl | exact Or.inr rfl) (pe_op op_mod (pe_callTy call_int1 (by rfl) T.b_int (by decide +kernel) (pa_cons (pe_ix ix_list (pv 0) pe_int (fun _ _ => rfl)) pa_nil)) (pv 1)))
      (pss_cons (ps_asg (pe_op op_fdiv (pe_ix ix_list (pv 0) pe_int (fun _ _ => rfl)) (pv 1)) (pg_sub (pv 0) pe_int set_list))
      (pss_one (ps_ret (pv 2))))) pss_nil)
      (pss_cons (ps_asg (pe_op op_add (pe_ix ix_list (pv 0) pe_int (fun _ _ => rfl)) pe_int) (pg_sub (pv 0) pe_int set_list))
      (pss_cons (ps_set (i := 3) sc__law_draw.nd rfl (by first | exact Or.inl rfl | exact Or.inr rfl) (pe_op op_mod (pe_callTy call_int1 (by rfl) T.b_int (by decide +kernel) (pa_cons (pe_op op_pow (pe_op op_add (pe_op op_add (pe_ix ix_list (pv 0) pe_int (fun _ _ => rfl)) (pe_op op_mul pe_int (pe_ix ix_list (pv 0) pe_int (fun _ _ => rfl)))) pe_int) pe_int) pa_nil)) pe_int))
      (pss_cons (ps_set (i := 4) sc__law_draw.nd rfl (by first | exact Or.inl rfl | exact Or.inr rfl) (pe_op op_mod (pe_callTy call_int1 (by rfl) T.b_int (by decide +kernel) (pa_cons (pe_op op_pow (pe_op op_add (pe_op op_add (pe_op op_mul (pv 3) pe_int) (pe_op op_mul (pe_op op_mul pe_int (pe_ix ix_list (pv 0) pe_int (fun _ _ => rfl))) (pe_ix ix_list (pv 0) pe_int (fun _ _ => rfl)))) pe_int) pe_int) pa_nil)) pe_int))
      (pss_one (ps_ret (pe_op op_mod (pe_callTy call_int1 (by rfl) T.b_int (by decide +kernel) (pa_cons (pv 4) pa_nil)) (pv 1))))))))), ?_⟩
  obtain ⟨hne, ns, x, c, d, h1, h2, h3, h4, h5, h6, h7, h8⟩ := hS
  refine ⟨fun m σ H' => σ = [some (.ref p), some (.int many), none, none, none] ∧ Old p l H H' ∧ ∃ (ns : List Int) (x c d : Int), m = ns.length ∧ H' p = some (.lst [.ref l, .int x, .int c, .int d]) ∧ H' l = some (.lst (ns.map V.int)) ∧ ns.length ≤ 63 ∧ 0 ≤ x ∧ 0 ≤ c ∧ c ≤ n ∧ 0 ≤ d ∧ d < 2147483647,
    ⟨_, rfl, Old.refl _, ns, x, c, d, rfl, h1, h2, h3, h4, h5, h6, h7, h8⟩, ?_⟩
  clear h1 h2 h3 h4 h5 h6 h7 h8 ns x c d
  rintro m σ H1 ⟨rfl, hO, ns, x, c, d, rfl, h1, h2, h3, h4, h5, h6, h7, h8⟩
  refine ⟨_, rfl, p, _, _, _, rfl, rfl, SqL.of h1, rfl, rfl, _, rfl, ?_⟩
  by_cases hx : x = 0
  · subst hx
    refine iteT' (decide_eq_true rfl) ?_
    refine ⟨_, rfl, p, _, _, _, rfl, rfl, SqL.of h1, rfl, (by show 0 ≤ sizeLine; decide), fun q hq => ?_⟩
    have g1 : upd H1 q (.lst []) p = some (.lst [.ref l, .int 0, .int c, .int d]) := by rw [upd_ne (ne_of_none h1 hq)]; exact h1
    have g2 : upd H1 q (.lst []) l = some (.lst (ns.map V.int)) := by rw [upd_ne (ne_of_none h2 hq)]; exact h2
    have gO : Old p l H (upd H1 q (.lst [])) := old_upd hO (.inr (.inr hq))
    refine ⟨_, _, Dp.lst (SqL.of g2) (dp_ints ns), Dp.lst (SqL.of upd_same) .nil, sh_ints ns, by decide +kernel, _, rfl, ?_⟩
    generalize upd H1 q (.lst []) = H2 at g1 g2 gO
    cases ns with
    | cons v r =>
      refine iteT' (by rfl) ?_
      refine ⟨fun σ' H' => ∃ m', m' < (v :: r).length ∧ (σ' = [some (.ref p), some (.int many), none, none, none] ∧ Old p l H H' ∧ ∃ (ns : List Int) (x c d : Int), m' = ns.length ∧ H' p = some (.lst [.ref l, .int x, .int c, .int d]) ∧ H' l = some (.lst (ns.map V.int)) ∧ ns.length ≤ 63 ∧ 0 ≤ x ∧ 0 ≤ c ∧ c ≤ n ∧ 0 ≤ d ∧ d < 2147483647), fun σ' H' z => z, ?_⟩
      -- s[1] = s[0].pop(0)
      refine ⟨_, rfl, p, _, _, _, rfl, rfl, SqL.of g1, rfl, .inl ⟨rfl, _, SqL.of g2⟩, l, (v :: r).map V.int, 0, 0, .int v, rfl, rfl, g2, by decide, by decide, seq0 _ _, rfl, ?_⟩
      generalize e3 : upd H2 l _ = H3
      have k1 : H3 p = some (.lst [.ref l, .int 0, .int c, .int d]) := by rw [← e3, upd_ne hne]; exact g1
      have kO : Old p l H H3 := by rw [← e3]; exact old_upd gO (.inr (.inl rfl))
      have k2 : H3 l = some (.lst (r.map V.int)) := by rw [← e3]; exact upd_same
      clear e3
      refine ⟨_, rfl, p, _, 1, 1, rfl, rfl, k1, rfl, ?_⟩
      generalize e4 : upd H3 p _ = H4
      have j1 : H4 p = some (.lst [.ref l, .int v, .int c, .int d]) := by rw [← e4]; exact upd_same
      have j2 : H4 l = some (.lst (r.map V.int)) := by rw [← e4, upd_ne (Ne.symm hne)]; exact k2
      have jO : Old p l H H4 := by rw [← e4]; exact old_upd kO (.inl rfl)
      clear e4
      have hl : r.length ≤ 63 := Nat.le_of_succ_le h3
      refine ⟨_, rfl, p, _, _, _, rfl, rfl, SqL.of j1, rfl, _, _, rfl, rfl, ⟨by decide, by decide, by decide⟩, _, _, rfl, rfl, _, rfl, ?_⟩
      refine ite2 (fun hv => ?_) (fun hv => ?_)
      · -- s[3] = int(..) % 2147483647
        refine ⟨_, rfl, p, _, _, _, rfl, rfl, SqL.of j1, rfl, _, _, rfl, rfl, .inr ⟨by decide, by decide⟩, _, rfl, p, _, _, _, rfl, rfl, SqL.of j1, rfl, _, _, rfl, rfl, _, _, rfl, rfl, .inl ⟨_, rfl, _, _, rfl, rfl, (by show (0 : Int) < 2147483647; decide), _, rfl, p, _, 3, 3, rfl, rfl, j1, rfl, ?_⟩⟩
        have m1 := Int.emod_nonneg (d * 31 + v + 7) (show (2147483647 : Int) ≠ 0 by decide)
        have m2 := Int.emod_lt_of_pos (d * 31 + v + 7) (show (0 : Int) < 2147483647 by decide)
        refine ⟨_, rfl, p, _, 1, 1, rfl, rfl, upd_same, rfl, r.length, Nat.lt_succ_self _, rfl, old_upd (old_upd jO (.inl rfl)) (.inl rfl), r, 0, c, (d * 31 + v + 7) % 2147483647, rfl, upd_same, ?_, hl, Int.le_refl 0, h5, h6, m1, m2⟩
        rw [upd_ne (Ne.symm hne), upd_ne (Ne.symm hne)]; exact j2
      · have hv : 10 ^ 18 ≤ v := by
          have z : ¬ v < 10 ^ (18 : Int).toNat := fun z => hv (decide_eq_true z)
          have e : (18 : Int).toNat = 18 := rfl
          rw [e] at z; omega
        exact ⟨r.length, Nat.lt_succ_self _, rfl, jO, r, v, c, d, rfl, j1, j2, hl, by omega, h5, h6, h7, h8⟩
    | nil =>
      refine iteF' (by rfl) ?_
      refine ⟨_, rfl, p, _, _, _, rfl, rfl, SqL.of g1, rfl, _, _, rfl, rfl, _, rfl, ?_⟩
      refine iteF' (by rfl) ?_
      -- s[2] = s[2] + 1
      refine ⟨_, rfl, p, _, _, _, rfl, rfl, SqL.of g1, rfl, _, _, rfl, rfl, _, rfl, p, _, 2, 2, rfl, rfl, g1, rfl, ?_⟩
      generalize e3 : upd H2 p _ = H3
      have a1 : H3 p = some (.lst [.ref l, .int 0, .int (c + 1), .int d]) := by rw [← e3]; exact upd_same
      have a2 : H3 l = some (.lst (([] : List Int).map V.int)) := by rw [← e3, upd_ne (Ne.symm hne)]; exact g2
      have aO : Old p l H H3 := by rw [← e3]; exact old_upd gO (.inl rfl)
      have hc : c + 1 ≤ 1000001 := by omega
      clear e3
      refine ⟨_, rfl, p, _, _, _, rfl, rfl, SqL.of a1, rfl, _, rfl, p, _, _, _, rfl, rfl, SqL.of a1, rfl, _, _, rfl, rfl, .inl ⟨by decide, by decide⟩, _, _, rfl, rfl, _, _, rfl, rfl, _, _, rfl, rfl, ⟨by decide, by decide, stm_small h7 h8 (by omega) hc⟩, .inl ⟨_, rfl, _, _, rfl, rfl, (by show (0 : Int) < 2147483629; decide), ?_⟩⟩
      have m1 := Int.emod_nonneg ((d + 104729 * (c + 1) + 17) ^ (5 : Int).toNat) (show (2147483629 : Int) ≠ 0 by decide)
      have m2 := Int.emod_lt_of_pos ((d + 104729 * (c + 1) + 17) ^ (5 : Int).toNat) (show (0 : Int) < 2147483629 by decide)
      refine ⟨_, rfl, _, _, rfl, rfl, .inr ⟨by decide, by decide⟩, _, rfl, p, _, _, _, rfl, rfl, SqL.of a1, rfl, _, _, rfl, rfl, .inl ⟨by decide, by decide⟩, _, rfl, p, _, _, _, rfl, rfl, SqL.of a1, rfl, _, _, rfl, rfl, .inr ⟨by omega, by omega⟩, _, _, rfl, rfl, _, _, rfl, rfl, _, _, rfl, rfl, ⟨by decide, by decide, stm_small2 m1 m2 (by omega) hc⟩, .inl ⟨_, rfl, _, _, rfl, rfl, (by show (0 : Int) < 1000000007; decide), ?_⟩⟩
      refine ⟨_, rfl, .inl ⟨_, rfl, _, rfl, _, _, rfl, rfl, (by show (0 : Int) < many; omega), ?_⟩⟩
      exact hQ _ _ aO ⟨hne, [], 0, c + 1, d, a1, a2, Nat.zero_le _, Int.le_refl 0, by omega, by omega, h7, h8⟩ (Int.emod_nonneg _ (by omega)) (Int.emod_lt_of_pos _ (by omega))
  · refine iteF' (decide_eq_false fun z => hx (V.int.inj z)) ?_
    have hx1 : 0 < x := by omega
    refine ⟨_, rfl, p, _, _, _, rfl, rfl, SqL.of h1, rfl, _, _, rfl, rfl, _, rfl, ?_⟩
    refine iteT' (decide_eq_true hx1) ?_
    refine ⟨_, rfl, p, _, _, _, rfl, rfl, SqL.of h1, rfl, .inl ⟨_, rfl, _, rfl, _, _, rfl, rfl, (by show (0 : Int) < many; omega), ?_⟩⟩
    refine ⟨_, rfl, p, _, _, _, rfl, rfl, SqL.of h1, rfl, _, rfl, _, _, rfl, rfl, ⟨by omega, by omega⟩, _, rfl, p, _, 1, 1, rfl, rfl, h1, rfl, _, rfl, ?_⟩
    refine hQ _ _ (old_upd hO (.inl rfl)) ⟨hne, ns, x / many, c, d, upd_same, by rw [upd_ne (Ne.symm hne)]; exact h2, h3, Int.ediv_nonneg h4 (by omega), h5, by omega, h7, h8⟩ (Int.emod_nonneg _ (by omega)) (Int.emod_lt_of_pos _ (by omega))
end
end K17

set_option Elab.async false
set_option linter.all false
set_option maxRecDepth 100000
set_option maxHeartbeats 0
namespace K17
open PySem PySem.Spec PyProof.Rows L2 RC
section
variable {P : Program} {w : World} {K : PySem.W.Frag} {mg : Str → Option Value} {base : Heap}
/-- all but p is as it was -/
def SameBut (p : Addr) (H H' : Hp) : Prop := ∀ b o, b ≠ p → H b = some o → H' b = some o
theorem SameBut.trans {p : Addr} {H H1 H2 : Hp} (a : SameBut p H H1) (b : SameBut p H1 H2) : SameBut p H H2 := fun c o h e => b c o h (a c o h e)
theorem SameBut.of {p : Addr} {H H' : Hp} (a : Same H H') : SameBut p H H' := fun c o _ e => a c o e
theorem SameBut.put {p : Addr} {H : Hp} {o : HO} : SameBut p H (upd H p o) := fun c u h e => by rw [upd_ne h]; exact e
theorem made_same {H H' : Hp} {x dx C : Addr} {o : HO} {fs : List (Str × V)} (hx : H x = none) (hd : H dx = none) (b : SameBut x (upd (upd H dx o) x (.ins C dx fs)) H') : Same H H' := fun c u e => by
  have h1 : c ≠ x := ne_of_none e hx
  have h2 : c ≠ dx := ne_of_none e hd
  exact b c u h1 (by rw [upd_ne h1, upd_ne h2]; exact e)
def spFiltererInit (K : PySem.W.Frag) : Sp := fun vs H Q _ => ∃ (C p dx : Addr) (fs : List (Str × V)), vs = [.ref p] ∧ H p = some (.ins C dx fs) ∧ Cls K C ∧ NoAttr K C "filters" ∧ fs.length < 100 ∧ ∀ l, H l = none → Q .non (upd (upd H l (.lst [])) p (.ins C dx (putF "filters" (.ref l) fs)))
theorem ok_filterer_init {f : Addr} (T : Txt P w K mg) (F : Stands K "__init__" "Filterer.__init__" s_Filterer_init [] f) : Callable P w K mg base 1 f ["self"] [] (spFiltererInit K) := by
  refine F.call0 sc_Filterer_init (fun vs H Q E h => ?_) (fun cdv A outer s H vs Q E hr h => ?_) (fun _ _ _ _ _ _ us hl => match us, hl with | [_], _ => rfl)
  · obtain ⟨C, p, dx, fs, rfl, _⟩ := h; rfl
  obtain ⟨C, p, dx, fs, rfl, hp, c, n, hl, hQ⟩ := h
  refine ⟨_, (pss_one (ps_fld (pv 0) (pe_lst pa_nil) rfl)), ?_⟩
  refine ⟨(by show 0 ≤ sizeLine; decide), fun l hl' => ?_⟩
  exact ⟨_, rfl, p, C, dx, fs, rfl, (by rw [upd_ne (ne_of_none hp hl')]; exact hp), c, n, (by omega), hQ l hl'⟩
end
end K17

set_option Elab.async false
set_option linter.all false
set_option maxRecDepth 100000
set_option maxHeartbeats 0
namespace K17
open PySem PySem.Spec PyProof.Rows L2 RC
section
variable {P : Program} {w : World} {K : PySem.W.Frag} {mg : Str → Option Value} {base : Heap}
/-! ### what is made -/
abbrev CY (K : PySem.W.Frag) : Addr := He.ga K "Yard"
abbrev CL (K : PySem.W.Frag) : Addr := He.ga K "Logger"
def spEnrol (K : PySem.W.Frag) : Sp := fun vs H Q _ => ∃ (y h dy m : Addr) (fs : List (Str × V)) (xs : List V), vs = [.ref y, .ref h] ∧ H y = some (.ins (CY K) dy fs) ∧ fs.lookup ("made" : Str) = some (.ref m) ∧ H m = some (.lst xs) ∧ xs.length ≤ 1000 ∧ Q .non (upd H m (.lst (xs ++ [.ref h])))
theorem ok_enrol {f : Addr} (T : Txt P w K mg) (F : Stands K "enrol" "Yard.enrol" s_Yard_enrol [] f) : Callable P w K mg base 1 f ["self", "handler"] [] (spEnrol K) := by
  refine F.call0 sc_Yard_enrol (fun vs H Q E h => ?_) (fun cdv A outer s H vs Q E hr h => ?_) (fun _ _ _ _ _ _ us hl => match us, hl with | [_, _], _ => rfl)
  · obtain ⟨y, h, dy, m, fs, xs, rfl, _⟩ := h; rfl
  obtain ⟨y, h, dy, m, fs, xs, rfl, h1, h2, h3, h4, hQ⟩ := h
  refine ⟨_, (pss_one (ps_expr (pe_bm PySem.F.plainAttrs_list PySem.F.slot_list_append PySem.F.type_list_append mt_append (pe_fld (pv 0) rfl) (pa_cons (pv 1) pa_nil)))), ?_⟩
  exact ⟨_, rfl, y, _, dy, fs, _, rfl, h1, T.c_Yard, T.n_Yard_made, h2, .inl ⟨rfl, _, SqL.of h3⟩, _, rfl, m, _, _, rfl, rfl, h3, (by rw [sizeLine_eq]; omega), hQ⟩
/-- what the text says of a class of handlers -/
structure HCls (K : PySem.W.Frag) (C : Addr) : Prop where
  c : Cls K C
  n1 : NoAttr K C "filters"
  n2 : NoAttr K C "yard"
  n3 : NoAttr K C "level"
  n4 : NoAttr K C "formatter"
  n5 : NoAttr K C "name"
  n6 : NoAttr K C "terminator"
  n7 : NoAttr K C "closed"
def hF (l y : Addr) : List (Str × V) := [("filters", .ref l), ("yard", .ref y), ("level", .int 0), ("formatter", .non), ("name", .non), ("terminator", .str "\n"), ("closed", .bl false)]
/-- a handler at p was made: its filters at l; the yard's list of what was made, at m, has it at its end -/
def HMade (K : PySem.W.Frag) (H : Hp) (p C dx y m : Addr) (xs : List V) (H' : Hp) : Prop := ∃ l, (∀ b o, b ≠ p → b ≠ m → H b = some o → H' b = some o) ∧ H l = none ∧ H' p = some (.ins C dx (hF l y)) ∧ H' l = some (.lst []) ∧ H' m = some (.lst (xs ++ [.ref p]))
def spHandlerInit (K : PySem.W.Frag) : Sp := fun vs H Q _ => ∃ (p C dx y dy m : Addr) (fs : List (Str × V)) (xs : List V), vs = [.ref p, .ref y] ∧ H p = some (.ins C dx []) ∧ HCls K C ∧ p ≠ y ∧ H y = some (.ins (CY K) dy fs) ∧ fs.lookup ("made" : Str) = some (.ref m) ∧ fs.lookup ("enrol" : Str) = none ∧ H m = some (.lst xs) ∧ xs.length ≤ 1000 ∧
  ∀ H', HMade K H p C dx y m xs H' → Q .non H'
theorem ok_handler_init {f : Addr} (T : Txt P w K mg) (F : Stands K "__init__" "Handler.__init__" s_Handler_init [] f) (c_Filterer_init : Callable P w K mg base 1 (He.ma K (He.ga K "Filterer") "__init__") ["self"] [] (spFiltererInit K))
    (c_Yard_enrol : Callable P w K mg base 1 (He.ma K (He.ga K "Yard") "enrol") ["self", "handler"] [] (spEnrol K)) : Callable P w K mg base 2 f ["self", "yard"] [] (spHandlerInit K) := by
  refine F.call0 sc_Handler_init (fun vs H Q E h => ?_) (fun cdv A outer s H vs Q E hr h => ?_) (fun _ _ _ _ _ _ us hl => match us, hl with | [_, _], _ => rfl)
  · obtain ⟨p, C, dx, y, dy, m, fs, xs, rfl, _⟩ := h; rfl
  obtain ⟨p, C, dx, y, dy, m, fs, xs, rfl, hp, c, npy, hy, hm, he, hmm, hxs, hQ⟩ := h
  refine ⟨_, (pss_cons (ps_expr (pe_cf T.cf_Filterer_init c_Filterer_init (hr.mono (by decide)) (pe_glob (v := .ref _) (by rfl) T.g_Filterer rfl) (pa_cons (pv 0) pa_nil)))
      (pss_cons (ps_fld (pv 0) (pv 1) rfl)
      (pss_cons (ps_fld (pv 0) pe_int rfl)
      (pss_cons (ps_fld (pv 0) pe_non rfl)
      (pss_cons (ps_fld (pv 0) pe_non rfl)
      (pss_cons (ps_fld (pv 0) pe_str rfl)
      (pss_cons (ps_fld (pv 0) pe_bl rfl)
      (pss_one (ps_expr (pe_mt T.c_Yard T.m_Yard_enrol c_Yard_enrol (hr.mono (by decide)) (pv 1) (pa_cons (pv 0) pa_nil))))))))))), ?_⟩
  refine ⟨rfl, _, rfl, C, p, dx, [], rfl, hp, c.c, c.n1, (by decide), fun l hl => ?_⟩
  refine ⟨_, rfl, _, rfl, p, C, dx, _, rfl, upd_same, c.c, c.n2, (by show 1 < 1000; decide), ?_⟩
  rw [upd_upd]
  refine ⟨_, rfl, p, C, dx, _, rfl, upd_same, c.c, c.n3, (by show 2 < 1000; decide), ?_⟩
  rw [upd_upd]
  refine ⟨_, rfl, p, C, dx, _, rfl, upd_same, c.c, c.n4, (by show 3 < 1000; decide), ?_⟩
  rw [upd_upd]
  refine ⟨_, rfl, p, C, dx, _, rfl, upd_same, c.c, c.n5, (by show 4 < 1000; decide), ?_⟩
  rw [upd_upd]
  refine ⟨_, rfl, p, C, dx, _, rfl, upd_same, c.c, c.n6, (by show 5 < 1000; decide), ?_⟩
  rw [upd_upd]
  refine ⟨_, rfl, p, C, dx, _, rfl, upd_same, c.c, c.n7, (by show 6 < 1000; decide), ?_⟩
  rw [upd_upd]
  generalize e1 : upd (upd H l (.lst [])) p _ = H1
  have nlp : l ≠ p := fun z => by rw [z, hp] at hl; cases hl
  have npm : p ≠ m := fun z => by rw [z, hmm] at hp; cases hp
  have nlm : l ≠ m := fun z => by rw [z, hmm] at hl; cases hl
  have q1 : H1 p = some (.ins C dx (hF l y)) := by rw [← e1]; exact upd_same
  have q2 : H1 l = some (.lst []) := by rw [← e1, upd_ne nlp]; exact upd_same
  have q3 : ∀ b o, b ≠ p → H b = some o → H1 b = some o := fun b o h1 h2 => by rw [← e1, upd_ne h1]; exact same_new hl _ b o h2
  clear e1
  refine ⟨_, rfl, y, dy, fs, rfl, q3 _ _ (Ne.symm npy) hy, he, _, rfl, y, p, dy, m, fs, xs, rfl, q3 _ _ (Ne.symm npy) hy, hm, q3 _ _ (Ne.symm npm) hmm, hxs, ?_⟩
  exact hQ _ ⟨l, fun b o h1 h2 h3 => by rw [upd_ne h2]; exact q3 b o h1 h3, hl, by rw [upd_ne npm]; exact q1, by rw [upd_ne nlm]; exact q2, upd_same⟩
def spStreamInit (K : PySem.W.Frag) : Sp := fun vs H Q _ => ∃ (p dx y dy m : Addr) (st : Str) (fs : List (Str × V)) (xs : List V), vs = [.ref p, .ref y, .str st] ∧ H p = some (.ins (He.ga K "StreamHandler") dx []) ∧ p ≠ y ∧ H y = some (.ins (CY K) dy fs) ∧ fs.lookup ("made" : Str) = some (.ref m) ∧ fs.lookup ("enrol" : Str) = none ∧ H m = some (.lst xs) ∧ xs.length ≤ 1000 ∧
  ∀ (H' : Hp) (l : Addr), (∀ b o, b ≠ p → b ≠ m → H b = some o → H' b = some o) → H l = none → H' p = some (.ins (He.ga K "StreamHandler") dx (hF l y ++ ([("stream", .str st)] : List (Str × V)))) → H' l = some (.lst []) → H' m = some (.lst (xs ++ [.ref p])) → Q .non H'
theorem ok_stream_init {f : Addr} (T : Txt P w K mg) (F : Stands K "__init__" "StreamHandler.__init__" s_StreamHandler_init [.str "stderr"] f) (c_Handler_init : Callable P w K mg base 2 (He.ma K (He.ga K "Handler") "__init__") ["self", "yard"] [] (spHandlerInit K)) :
    Callable P w K mg base 3 f ["self", "yard", "stream"] [.str "stderr"] (spStreamInit K) := by
  refine F.call sc_StreamHandler_init 2 0 (fun vs H Q E h => ?_) (fun cdv A outer s H vs Q E hr h => ?_) (fun z => nomatch z) fun _ => ⟨rfl, fun _ _ _ _ _ _ _ us its hl hi => match us, hl, its, hi with | [_, _], _, [_], _ => ⟨_, rfl, rfl⟩⟩
  · obtain ⟨p, dx, y, dy, m, st, fs, xs, rfl, _⟩ := h; rfl
  obtain ⟨p, dx, y, dy, m, st, fs, xs, rfl, hp, npy, hy, hm, he, hmm, hxs, hQ⟩ := h
  refine ⟨_, (pss_cons (ps_expr (pe_cf T.cf_Handler_init c_Handler_init (hr.mono (by decide)) (pe_glob (v := .ref _) (by rfl) T.g_Handler rfl) (pa_cons (pv 0) (pa_cons (pv 1) pa_nil))))
      (pss_one (ps_fld (pv 0) (pv 2) rfl))), ?_⟩
  have c : HCls K (He.ga K "StreamHandler") := ⟨T.c_StreamHandler, T.n_StreamHandler_filters, T.n_StreamHandler_yard, T.n_StreamHandler_level, T.n_StreamHandler_formatter, T.n_StreamHandler_name, T.n_StreamHandler_terminator, T.n_StreamHandler_closed⟩
  refine ⟨rfl, _, rfl, _, rfl, p, _, dx, y, dy, m, fs, xs, rfl, hp, c, npy, hy, hm, he, hmm, hxs, fun H1 hM => ?_⟩
  obtain ⟨l, k1, k2, k3, k4, k5⟩ := hM
  have nlp : l ≠ p := fun z => by rw [z, hp] at k2; cases k2
  have npm : m ≠ p := fun z => by rw [z, hp] at hmm; cases hmm
  refine ⟨_, rfl, _, rfl, p, _, dx, _, rfl, k3, T.c_StreamHandler, T.n_StreamHandler_stream, (by show 7 < 1000; decide), ?_⟩
  exact hQ _ l (fun b o h1 h2 h3 => by rw [upd_ne h1]; exact k1 b o h1 h2 h3) k2 upd_same (by rw [upd_ne nlp]; exact k4) (by rw [upd_ne npm]; exact k5)
def lF (l y : Addr) (name : Str) (lev : Int) (h : Addr) (par : V) : List (Str × V) := [("filters", .ref l), ("yard", .ref y), ("name", .str name), ("level", .int lev), ("propagate", .bl true), ("disabled", .bl false), ("handlers", .ref h), ("parent", par)]
def spLoggerInit (K : PySem.W.Frag) : Sp := fun vs H Q _ => ∃ (p dx y : Addr) (name : Str) (lev : Int), vs = [.ref p, .ref y, .str name, .int lev] ∧ H p = some (.ins (CL K) dx []) ∧
  ∀ (H' : Hp) (l h : Addr), SameBut p H H' → H l = none → H h = none → l ≠ h → H' p = some (.ins (CL K) dx (lF l y name lev h .non)) → H' l = some (.lst []) → H' h = some (.lst []) → Q .non H'
theorem ok_logger_init {f : Addr} (T : Txt P w K mg) (F : Stands K "__init__" "Logger.__init__" s_Logger_init [] f) (c_Filterer_init : Callable P w K mg base 1 (He.ma K (He.ga K "Filterer") "__init__") ["self"] [] (spFiltererInit K)) :
    Callable P w K mg base 2 f ["self", "yard", "name", "level"] [] (spLoggerInit K) := by
  refine F.call0 sc_Logger_init (fun vs H Q E h => ?_) (fun cdv A outer s H vs Q E hr h => ?_) (fun _ _ _ _ _ _ us hl => match us, hl with | [_, _, _, _], _ => rfl)
  · obtain ⟨p, dx, y, name, lev, rfl, _⟩ := h; rfl
  obtain ⟨p, dx, y, name, lev, rfl, hp, hQ⟩ := h
  refine ⟨_, (pss_cons (ps_expr (pe_cf T.cf_Filterer_init c_Filterer_init (hr.mono (by decide)) (pe_glob (v := .ref _) (by rfl) T.g_Filterer rfl) (pa_cons (pv 0) pa_nil)))
      (pss_cons (ps_fld (pv 0) (pv 1) rfl)
      (pss_cons (ps_fld (pv 0) (pv 2) rfl)
      (pss_cons (ps_fld (pv 0) (pv 3) rfl)
      (pss_cons (ps_fld (pv 0) pe_bl rfl)
      (pss_cons (ps_fld (pv 0) pe_bl rfl)
      (pss_cons (ps_fld (pv 0) (pe_lst pa_nil) rfl)
      (pss_one (ps_fld (pv 0) pe_non rfl))))))))), ?_⟩
  refine ⟨rfl, _, rfl, _, p, dx, [], rfl, hp, T.c_Logger, T.n_Logger_filters, (by decide), fun l hl => ?_⟩
  refine ⟨_, rfl, _, rfl, p, _, dx, _, rfl, upd_same, T.c_Logger, T.n_Logger_yard, (by show 1 < 1000; decide), ?_⟩
  rw [upd_upd]
  refine ⟨_, rfl, _, rfl, p, _, dx, _, rfl, upd_same, T.c_Logger, T.n_Logger_name, (by show 2 < 1000; decide), ?_⟩
  rw [upd_upd]
  refine ⟨_, rfl, _, rfl, p, _, dx, _, rfl, upd_same, T.c_Logger, T.n_Logger_level, (by show 3 < 1000; decide), ?_⟩
  rw [upd_upd]
  refine ⟨_, rfl, p, _, dx, _, rfl, upd_same, T.c_Logger, T.n_Logger_propagate, (by show 4 < 1000; decide), ?_⟩
  rw [upd_upd]
  refine ⟨_, rfl, p, _, dx, _, rfl, upd_same, T.c_Logger, T.n_Logger_disabled, (by show 5 < 1000; decide), ?_⟩
  rw [upd_upd]
  refine ⟨(by show 0 ≤ sizeLine; decide), fun h hh => ?_⟩
  obtain ⟨nhp, hh1⟩ := upd_none hh
  obtain ⟨nhl, hh2⟩ := upd_none hh1
  refine ⟨_, rfl, p, _, dx, _, rfl, (by rw [upd_ne (Ne.symm nhp)]; exact upd_same), T.c_Logger, T.n_Logger_handlers, (by show 6 < 1000; decide), ?_⟩
  refine ⟨_, rfl, p, _, dx, _, rfl, upd_same, T.c_Logger, T.n_Logger_parent, (by show 7 < 1000; decide), ?_⟩
  rw [upd_upd]
  have nlp : l ≠ p := fun z => by rw [z, hp] at hl; cases hl
  refine hQ _ l h (fun b o h1 h2 => ?_) hl hh2 (Ne.symm nhl) upd_same ?_ ?_
  · have n1 : b ≠ h := ne_of_none h2 hh2
    have n2 : b ≠ l := ne_of_none h2 hl
    rw [upd_ne h1, upd_ne n1, upd_ne h1, upd_ne n2]; exact h2
  · rw [upd_ne nlp, upd_ne (Ne.symm nhl), upd_ne nlp]; exact upd_same
  · rw [upd_ne nhp]; exact upd_same
end
end K17

set_option Elab.async false
set_option linter.all false
set_option maxRecDepth 100000
set_option maxHeartbeats 0
namespace K17
open PySem PySem.Spec PyProof.Rows L2 RC
section
variable {P : Program} {w : World} {K : PySem.W.Frag} {mg : Str → Option Value} {base : Heap}
/-! ### a yard is made -/
/-- H came from H0; ns: what is still being changed; L: what was laid since -/
structure Fr (H0 : Hp) (p : Addr) (ns : List Addr) (L : List (Addr × HO)) (H : Hp) : Prop where
  kp : ∀ b o, b ≠ p → H0 b = some o → H b = some o
  has : ∀ x ∈ L, x.1 ∉ ns ∧ H0 x.1 = none ∧ H x.1 = some x.2
  live : ∀ n ∈ ns, ∃ o, H n = some o
  old : ∀ n ∈ ns, n = p ∨ H0 n = none
  mem : p ∈ ns
section
variable {H0 H H2 : Hp} {p : Addr} {ns : List Addr} {L : List (Addr × HO)}
theorem Fr.none (F : Fr H0 p ns L H) {q : Addr} (h : H q = none) : H0 q = none := by
  cases e : H0 q with
  | none => rfl
  | some o =>
    by_cases c : q = p
    · subst c; obtain ⟨o', e'⟩ := F.live _ F.mem; rw [e'] at h; cases h
    · rw [F.kp q o c e] at h; cases h
theorem Fr.notin (F : Fr H0 p ns L H) {q : Addr} (h : H q = Option.none) : q ∉ ns := fun z => by obtain ⟨o, e⟩ := F.live q z; rw [e] at h; cases h
theorem Fr.to (F : Fr H0 p ns L H) (k : ∀ b o, b ∉ ns → H b = some o → H2 b = some o) (l : ∀ n ∈ ns, ∃ o, H2 n = some o) : Fr H0 p ns L H2 where
  kp := fun b o hb e => k b o (fun z => by rcases F.old b z with c | c; exact hb c; rw [c] at e; cases e) (F.kp b o hb e)
  has := fun x hx => ⟨(F.has x hx).1, (F.has x hx).2.1, k _ _ (F.has x hx).1 (F.has x hx).2.2⟩
  live := l
  old := F.old
  mem := F.mem
theorem Fr.cons (F : Fr H0 p ns L H) {q : Addr} {o : HO} (h1 : q ∉ ns) (h2 : H0 q = Option.none) (h3 : H q = some o) : Fr H0 p ns ((q, o) :: L) H where
  kp := F.kp
  has := fun x hx => by
    rcases List.mem_cons.mp hx with c | c
    · subst c; exact ⟨h1, h2, h3⟩
    · exact F.has x c
  live := F.live
  old := F.old
  mem := F.mem
theorem Fr.set (F : Fr H0 p ns L H) {o : HO} {q : Addr} (hq : q ∈ ns) (e : upd H q o = H2) : Fr H0 p ns L H2 := by
  subst e
  refine F.to (fun b u h1 h2 => ?_) (fun n hn => ?_)
  · rw [upd_ne (fun z => h1 (by rw [z]; exact hq))]; exact h2
  · by_cases c : n = q
    · subst c; exact ⟨_, upd_same⟩
    · rw [upd_ne c]; exact F.live n hn
theorem Fr.new (F : Fr H0 p ns L H) {o : HO} {q : Addr} (hq : H q = Option.none) (e : upd H q o = H2) : Fr H0 p ns ((q, o) :: L) H2 := by
  subst e
  refine (F.to (H2 := upd H q o) (fun b u h1 h2 => same_new hq _ _ _ h2) (fun n hn => ?_)).cons (F.notin hq) (F.none hq) upd_same
  obtain ⟨u, hu⟩ := F.live n hn
  exact ⟨u, same_new hq _ _ _ hu⟩
/-- one more is being changed -/
theorem Fr.own (F : Fr H0 p ns L H) {o : HO} {q : Addr} (hq : H q = Option.none) (e : upd H q o = H2) : Fr H0 p (q :: ns) L H2 := by
  have G := F.new hq e
  subst e
  refine ⟨G.kp, fun x hx => ?_, fun n hn => ?_, fun n hn => ?_, List.mem_cons_of_mem _ F.mem⟩
  · have g := F.has x hx
    refine ⟨fun z => ?_, g.2.1, (G.has x (List.mem_cons_of_mem _ hx)).2.2⟩
    rcases List.mem_cons.mp z with c | c
    · rw [c, hq] at g; cases g.2.2
    · exact g.1 c
  · rcases List.mem_cons.mp hn with c | c
    · subst c; exact ⟨_, upd_same⟩
    · exact G.live n c
  · rcases List.mem_cons.mp hn with c | c
    · subst c; exact .inr (F.none hq)
    · exact F.old n c
theorem Fr.get (F : Fr H0 p ns L H) {x : Addr × HO} (h : x ∈ L) : H x.1 = some x.2 := (F.has x h).2.2
theorem Fr.putf (F : Fr H0 p ns L H) {o o' : HO} {q : Addr} (hq : H q = Option.none) (e : upd (upd H q o) p o' = H2) : Fr H0 p ns ((q, o) :: L) H2 := (F.new hq rfl).set F.mem e
theorem Fr.ownf (F : Fr H0 p ns L H) {o o' : HO} {q : Addr} (hq : H q = Option.none) (e : upd (upd H q o) p o' = H2) : Fr H0 p (q :: ns) L H2 ∧ H2 q = some o := by
  have G := F.own hq (o := o) rfl
  refine ⟨G.set (List.mem_cons_of_mem _ F.mem) e, ?_⟩
  have n : q ≠ p := fun z => F.notin hq (by rw [z]; exact F.mem)
  rw [← e, upd_ne n]; exact upd_same
theorem Fr.same (F : Fr H0 p ns L H) (s : Same H H2) : Fr H0 p ns L H2 := F.to (fun b o _ e => s b o e) (fun n hn => let ⟨o, e⟩ := F.live n hn; ⟨o, s _ _ e⟩)
theorem Fr.start {o : HO} (h : H0 p = some o) : Fr H0 p [p] [] H0 where
  kp := fun _ _ _ e => e
  has := fun _ h => nomatch h
  live := fun n hn => by cases List.mem_singleton.mp hn; exact ⟨o, h⟩
  old := fun n hn => .inl (List.mem_singleton.mp hn)
  mem := List.mem_singleton.mpr rfl
end
def yF (clk : Int) (st fi na nu lm md hn fr rt lr : Addr) : List (Str × V) := [("clock", .int clk), ("stream_texts", .ref st), ("file_rows", .ref fi), ("names_of", .ref na), ("numbers_of", .ref nu), ("bar_level", .int 0), ("logger_map", .ref lm), ("made", .ref md), ("handler_names", .ref hn), ("failure_rows", .ref fr), ("root", .ref rt), ("last_resort", .ref lr)]
/-- where the parts of a yard lie -/
structure YParts where
  (st fi na nu lm md hn fr rt lr rl rh ll : Addr)
def YParts.L (K : PySem.W.Frag) (y : Addr) (q : YParts) (rd ld : Addr) : List (Addr × HO) := [(q.ll, .lst []), (q.lr, .ins (He.ga K "StreamHandler") ld (hF q.ll y ++ ([("stream", .str "stderr")] : List (Str × V)))), (q.rh, .lst []), (q.rl, .lst []), (q.rt, .ins (CL K) rd (lF q.rl y "root" 30 q.rh .non)), (q.fr, .lst []), (q.hn, .dK []), (q.lm, .dK []), (q.nu, .dK (kv_FIRST_NUMBERS.map fun q => (q.1, q.2.v K))), (q.na, .dK (kv_FIRST_NAMES.map fun q => (q.1, q.2.v K))), (q.fi, .dK []), (q.st, .dK [])]
structure YNew (K : PySem.W.Frag) (H0 H : Hp) (y dy : Addr) (clk : Int) (q : YParts) : Prop where
  fr : ∃ rd ld, Fr H0 y [q.md, y] (q.L K y rd ld) H
  y : H y = some (.ins (CY K) dy (yF clk q.st q.fi q.na q.nu q.lm q.md q.hn q.fr q.rt q.lr))
  md : H q.md = some (.lst [])
def spYardInit (K : PySem.W.Frag) : Sp := fun vs H Q _ => ∃ (p dx : Addr) (clk : Int), vs = [.ref p, .int clk] ∧ H p = some (.ins (CY K) dx []) ∧ ∀ (H' : Hp) (q : YParts), YNew K H H' p dx clk q → Q .non H'
theorem ok_yard_init {f : Addr} (T : Txt P w K mg) (F : Stands K "__init__" "Yard.__init__" s_Yard_init [.int 0] f)
    (c_Logger_init : Callable P w K mg base 2 (He.ma K (He.ga K "Logger") "__init__") ["self", "yard", "name", "level"] [] (spLoggerInit K))
    (c_StreamHandler_init_d1 : Callable P w K mg base 3 (He.ma K (He.ga K "StreamHandler") "__init__") ["self", "yard", "stream"] [.str "stderr"] (spStreamInit K)) :
    Callable P w K mg base 5 f ["self", "now"] [.int 0] (spYardInit K) := by
  refine F.call sc_Yard_init 1 0 (fun vs H Q E h => ?_) (fun cdv A outer s H vs Q E hr h => ?_) (fun z => nomatch z) fun _ => ⟨rfl, fun _ _ _ _ _ _ _ us its hl hi => match us, hl, its, hi with | [_], _, [_], _ => ⟨_, rfl, rfl⟩⟩
  · obtain ⟨p, dx, clk, rfl, _⟩ := h; rfl
  obtain ⟨p, dx, clk, rfl, hp, hQ⟩ := h
  refine ⟨_, (pss_cons (ps_fld (pv 0) (pv 1) rfl)
      (pss_cons (ps_fld (pv 0) pe_dnewK rfl)
      (pss_cons (ps_fld (pv 0) pe_dnewK rfl)
      (pss_cons (ps_fld (pv 0) (pe_callTy (RB.call_dictK T.t_FIRST_NAMES) (by rfl) T.b_dict (by decide +kernel) (pa_cons (pe_glob (v := .ref _) (by rfl) T.g_FIRST_NAMES rfl) pa_nil)) rfl)
      (pss_cons (ps_fld (pv 0) (pe_callTy (RB.call_dictK T.t_FIRST_NUMBERS) (by rfl) T.b_dict (by decide +kernel) (pa_cons (pe_glob (v := .ref _) (by rfl) T.g_FIRST_NUMBERS rfl) pa_nil)) rfl)
      (pss_cons (ps_fld (pv 0) pe_int rfl)
      (pss_cons (ps_fld (pv 0) pe_dnewK rfl)
      (pss_cons (ps_fld (pv 0) (pe_lst pa_nil) rfl)
      (pss_cons (ps_fld (pv 0) pe_dnewK rfl)
      (pss_cons (ps_fld (pv 0) (pe_lst pa_nil) rfl)
      (pss_cons (ps_fld (pv 0) (pe_mk T.k_Logger T.g_Logger c_Logger_init (hr.mono (by decide)) (by rfl) (pa_cons (pv 0) (pa_cons pe_str (pa_cons (pe_gi (by rfl) T.g_WARNING) pa_nil)))) rfl)
      (pss_cons (ps_fld (pv 0) (pe_mk T.k_StreamHandler T.g_StreamHandler c_StreamHandler_init_d1 (hr.mono (by decide)) (by rfl) (pa_cons (pv 0) pa_nil)) rfl)
      (pss_one (ps_expr (pe_bm0 PySem.F.plainAttrs_list PySem.F.slot_list_pop PySem.F.type_list_pop mt_pop (pe_fld (pv 0) rfl)))))))))))))))), ?_⟩
  have F0 := Fr.start hp
  refine ⟨_, rfl, _, rfl, p, _, dx, _, rfl, hp, T.c_Yard, T.n_Yard_clock, (by show 0 < 1000; decide), ?_⟩
  generalize e1 : upd H p _ = H1
  have F1 := F0.set List.mem_cons_self e1
  have p1 := congrFun e1.symm p; rw [upd_same] at p1
  clear e1
  intro st h_st
  refine ⟨_, rfl, p, _, dx, _, rfl, same_new h_st _ _ _ p1, T.c_Yard, T.n_Yard_stream_texts, (by show 1 < 1000; decide), ?_⟩
  generalize e : upd (upd H1 st _) p _ = H2
  have F2 := F1.putf h_st e
  have p2 := congrFun e.symm p; rw [upd_same] at p2
  clear e
  intro fi h_fi
  refine ⟨_, rfl, p, _, dx, _, rfl, same_new h_fi _ _ _ p2, T.c_Yard, T.n_Yard_file_rows, (by show 2 < 1000; decide), ?_⟩
  generalize e : upd (upd H2 fi _) p _ = H3
  have F3 := F2.putf h_fi e
  have p3 := congrFun e.symm p; rw [upd_same] at p3
  clear e
  refine ⟨rfl, fun na h_na => ?_⟩
  refine ⟨_, rfl, p, _, dx, _, rfl, same_new h_na _ _ _ p3, T.c_Yard, T.n_Yard_names_of, (by show 3 < 1000; decide), ?_⟩
  generalize e : upd (upd H3 na _) p _ = H4
  have F4 := F3.putf h_na e
  have p4 := congrFun e.symm p; rw [upd_same] at p4
  clear e
  refine ⟨rfl, fun nu h_nu => ?_⟩
  refine ⟨_, rfl, p, _, dx, _, rfl, same_new h_nu _ _ _ p4, T.c_Yard, T.n_Yard_numbers_of, (by show 4 < 1000; decide), ?_⟩
  generalize e : upd (upd H4 nu _) p _ = H5
  have F5 := F4.putf h_nu e
  have p5 := congrFun e.symm p; rw [upd_same] at p5
  clear e
  refine ⟨_, rfl, p, _, dx, _, rfl, p5, T.c_Yard, T.n_Yard_bar_level, (by show 5 < 1000; decide), ?_⟩
  generalize e : upd H5 p _ = H6
  have F6 := F5.set F5.mem e
  have p6 := congrFun e.symm p; rw [upd_same] at p6
  clear e
  intro lm h_lm
  refine ⟨_, rfl, p, _, dx, _, rfl, same_new h_lm _ _ _ p6, T.c_Yard, T.n_Yard_logger_map, (by show 6 < 1000; decide), ?_⟩
  generalize e : upd (upd H6 lm _) p _ = H7
  have F7 := F6.putf h_lm e
  have p7 := congrFun e.symm p; rw [upd_same] at p7
  clear e
  refine ⟨(by show 0 ≤ sizeLine; decide), fun md h_md => ?_⟩
  refine ⟨_, rfl, p, _, dx, _, rfl, same_new h_md _ _ _ p7, T.c_Yard, T.n_Yard_made, (by show 7 < 1000; decide), ?_⟩
  generalize e : upd (upd H7 md _) p _ = H8
  obtain ⟨F8, m8⟩ := F7.ownf h_md e
  have p8 := congrFun e.symm p; rw [upd_same] at p8
  have nmp : md ≠ p := fun z => F7.notin h_md (by rw [z]; exact F7.mem)
  clear e
  intro hn h_hn
  refine ⟨_, rfl, p, _, dx, _, rfl, same_new h_hn _ _ _ p8, T.c_Yard, T.n_Yard_handler_names, (by show 8 < 1000; decide), ?_⟩
  generalize e : upd (upd H8 hn _) p _ = H9
  have F9 := F8.putf h_hn e
  have p9 := congrFun e.symm p; rw [upd_same] at p9
  have m9 : H9 md = some (.lst []) := by rw [← e, upd_ne nmp]; exact same_new h_hn _ _ _ m8
  clear e
  refine ⟨(by show 0 ≤ sizeLine; decide), fun fr h_fr => ?_⟩
  refine ⟨_, rfl, p, _, dx, _, rfl, same_new h_fr _ _ _ p9, T.c_Yard, T.n_Yard_failure_rows, (by show 9 < 1000; decide), ?_⟩
  generalize e : upd (upd H9 fr _) p _ = H10
  have F10 := F9.putf h_fr e
  have p10 := congrFun e.symm p; rw [upd_same] at p10
  have m10 : H10 md = some (.lst []) := by rw [← e, upd_ne nmp]; exact same_new h_fr _ _ _ m9
  clear e
  -- root
  refine ⟨_, rfl, fun rt rd h_rt h_rd hne => ?_⟩
  refine ⟨rt, rd, p, "root", 30, rfl, upd_same, fun Hr rl rh k1 k2 k3 k4 k5 k6 k7 => ⟨rfl, ?_⟩⟩
  have sr : Same H10 Hr := made_same h_rt h_rd k1
  obtain ⟨k2a, k2⟩ := upd_none k2
  obtain ⟨k3a, k3⟩ := upd_none k3
  have k2 := (upd_none k2).2
  have k3 := (upd_none k3).2
  have Fr1 := (((F10.same sr).cons (F10.notin h_rt) (F10.none h_rt) k5).cons (F10.notin k2) (F10.none k2) k6).cons (F10.notin k3) (F10.none k3) k7
  have pr := sr _ _ p10
  have mr := sr _ _ m10
  refine ⟨_, rfl, p, _, dx, _, rfl, pr, T.c_Yard, T.n_Yard_root, (by show 10 < 1000; decide), ?_⟩
  generalize e : upd Hr p _ = H11
  have F11 := Fr1.set Fr1.mem e
  have p11 := congrFun e.symm p; rw [upd_same] at p11
  have m11 : H11 md = some (.lst []) := by rw [← e, upd_ne nmp]; exact mr
  clear e
  -- last_resort
  refine ⟨_, rfl, fun lr ld h_lr h_ld hne2 => ?_⟩
  have npl : lr ≠ p := fun z => by rw [z, p11] at h_lr; cases h_lr
  have nml : lr ≠ md := fun z => by rw [z, m11] at h_lr; cases h_lr
  have t1 : ∀ C fs, Same H11 (upd (upd H11 ld (.own lr)) lr (.ins C ld fs)) := fun C fs => made_same h_lr h_ld (fun _ _ _ e => e)
  refine ⟨lr, ld, p, dx, md, "stderr", _, [], rfl, upd_same, npl, t1 _ _ _ _ p11, rfl, rfl, t1 _ _ _ _ m11, (by decide), fun Hl ll l1 l2 l3 l4 l5 => ⟨rfl, ?_⟩⟩
  have l2b : H11 ll = none := (upd_none (upd_none l2).2).2
  have f12 : ∀ b o, b ∉ [md, p] → H11 b = some o → Hl b = some o := fun b o hb e => l1 b o (ne_of_none e h_lr) (fun z => hb (by rw [z]; exact List.mem_cons_self)) (t1 _ _ _ _ e)
  have p12 := l1 p _ (Ne.symm npl) (Ne.symm nmp) (t1 _ _ _ _ p11)
  have F12 := ((F11.to f12 (fun n hn => by
    rcases List.mem_cons.mp hn with c | c
    · subst c; exact ⟨_, l5⟩
    · cases List.mem_singleton.mp c; exact ⟨_, p12⟩)).cons (F11.notin h_lr) (F11.none h_lr) l3).cons (F11.notin l2b) (F11.none l2b) l4
  refine ⟨_, rfl, p, _, dx, _, rfl, p12, T.c_Yard, T.n_Yard_last_resort, (by show 11 < 1000; decide), ?_⟩
  generalize e : upd Hl p _ = H13
  have F13 := F12.set F12.mem e
  have p13 := congrFun e.symm p; rw [upd_same] at p13
  have m13 : H13 md = some (.lst [.ref lr]) := by rw [← e, upd_ne nmp]; exact l5
  clear e
  refine ⟨_, rfl, p, _, dx, _, _, rfl, p13, T.c_Yard, T.n_Yard_made, rfl, .inl ⟨rfl, _, SqL.of m13⟩, md, _, _, rfl, rfl, m13, rfl, ?_⟩
  have F14 := F13.set (o := .lst []) List.mem_cons_self rfl
  refine hQ _ ⟨st, fi, na, nu, lm, md, hn, fr, rt, lr, rl, rh, ll⟩ ⟨⟨rd, ld, F14⟩, ?_, upd_same⟩
  rw [upd_ne (Ne.symm nmp)]; exact p13
end
end K17

set_option Elab.async false
set_option linter.all false
set_option maxRecDepth 100000
set_option maxHeartbeats 0
namespace K17
open PySem PySem.Spec PyProof.Rows L2 RC
section
variable {P : Program} {w : World} {K : PySem.W.Frag} {mg : Str → Option Value} {base : Heap}
/-! ### names of loggers -/
def signs : Str := "abcdefghijklmnopqrstuvwxyzABCDEFGHIJKLMNOPQRSTUVWXYZ0123456789_"
def partB (t : Str) : Bool := decide (t ≠ "") && t.cps.toList.all fun c => decide (c ∈ signs.cps.toList)
theorem take_more {α : Type} {l : List α} {i : Nat} {c : α} (h : l[i]? = some c) : l.take (i + 1) = l.take i ++ [c] := by
  rw [List.take_add_one, h]; rfl
theorem yes_if {σ : L2.St} {H : Hp} {A B : Hp → Prop} (h : A H) : tYes σ H (fun b H3 => if b = true then A H3 else B H3) := by
  show (if true = true then A H else B H)
  rw [if_pos rfl]; exact h
def spIsPart : Sp := fun vs H Q _ => ∃ t : Str, vs = [.str t] ∧ t.cps.size ≤ 1000000 ∧ ∀ H', Same H H' → Q (.bl (partB t)) H'
theorem ok_is_part {f : Addr} (T : Txt P w K mg) (F : Stands K "is_part" "is_part" s_is_part [] f) : Callable P w K mg base 1 f ["text"] [] spIsPart := by
  refine F.call0 sc_is_part (fun vs H Q E h => ?_) (fun cdv A outer s H vs Q E hr h => ?_) (fun _ _ _ _ _ _ us hl => match us, hl with | [_], _ => rfl)
  · obtain ⟨t, rfl, _⟩ := h; rfl
  obtain ⟨t, rfl, ht, hQ⟩ := h
  refine ⟨_, (pss_one (ps_ret (pe_and (pe_cmpR op_ne (pv 0) pe_str (nomark _)) (pe_one (pe_callB (cr_all rfl) (by rfl) T.b_all (by decide +kernel) (pa_cons (pe_lc (own := [("sign", 1)]) (by rfl) sc_is_part.nd (pi_str (pv 0)) (blkOk_by (own := [("sign", 1)]) (N := nm_is_part) (sc := defScope s_is_part) (by decide +kernel)) (fun _ _ _ _ _ => (pg_name (i := 1) sc_is_part.nd rfl (by first | exact Or.inl rfl | exact Or.inr rfl))) (fun _ _ _ _ _ => pts_nil) (fun _ _ _ _ _ => (pe_cmpR op_inS (pv 1) (pe_gs (by rfl) T.g_SIGNS) (by rfl)))) pa_nil)))))), ?_⟩
  refine ⟨_, rfl, rfl, _, rfl, ?_⟩
  by_cases e : t = ""
  · subst e
    exact iteF' (by decide +kernel) (hQ H (Same.refl H))
  refine iteT' (by simp [e]) ?_
  refine ⟨_, rfl, t, rfl, fun D hD => ?_⟩
  refine lc_it walk_str (fun i H' => H' = upd H D (.lst ((t.cps.toList.take i).map fun c => V.bl (decide (c ∈ signs.cps.toList))))) rfl (fun _ _ _ _ => trivial) (fun i x H1 H2 hi hp hy => ?_) (fun H1 hp => ?_)
  · obtain ⟨rfl, c, hc, rfl⟩ := hy
    subst hp
    have hc' : t.cps.toList[i]? = some c := by simpa using hc
    refine ⟨rfl, yes_if ?_⟩
    refine ⟨_, rfl, c, signs, rfl, rfl, _, upd_same, ?_, ?_⟩
    · rw [List.length_map, List.length_take]; rw [sizeLine_eq]; omega
    · rw [upd_upd, take_more hc', List.map_append]; rfl
  · subst hp
    refine ⟨D, t.cps.toList.map fun c => decide (c ∈ signs.cps.toList), rfl, SqL.of ?_, ?_⟩
    · rw [upd_same, List.map_map, ← Array.length_toList, List.take_length]; rfl
    · have e2 : ((t.cps.toList.map fun c => decide (c ∈ signs.cps.toList)).all id) = partB t := by
        unfold partB; rw [List.all_map, decide_eq_true e]; rfl
      rw [e2]
      exact hQ _ (same_new hD _)
def spAreParts : Sp := fun vs H Q _ => ∃ t : Str, vs = [.str t] ∧ t.cps.size ≤ 1000000 ∧ (Txt.split t ".").length ≤ 1000000 ∧ (∀ u ∈ Txt.split t ".", u.cps.size ≤ 1000000) ∧ ∀ H', Same H H' → Q (.bl ((Txt.split t ".").all partB)) H'
theorem ok_are_parts {f : Addr} (T : Txt P w K mg) (F : Stands K "are_parts" "are_parts" s_are_parts [] f) (c_is_part : Callable P w K mg base 1 (He.ga K "is_part") ["text"] [] spIsPart) : Callable P w K mg base 2 f ["thing"] [] spAreParts := by
  refine F.call0 sc_are_parts (fun vs H Q E h => ?_) (fun cdv A outer s H vs Q E hr h => ?_) (fun _ _ _ _ _ _ us hl => match us, hl with | [_], _ => rfl)
  · obtain ⟨t, rfl, _⟩ := h; rfl
  obtain ⟨t, rfl, ht, hN, hP, hQ⟩ := h
  refine ⟨_, (pss_one (ps_ret (pe_and (pe_callB call_isi (by rfl) T.b_isinstance (by decide +kernel) (pa_cons (pv 0) (pa_cons (pe_bltn (v := .ty "str") (u := .type "str") (by rfl) T.b_str (by decide +kernel) rfl) pa_nil))) (pe_one (pe_callB (cr_all rfl) (by rfl) T.b_all (by decide +kernel) (pa_cons (pe_lc (own := [("part", 1)]) (by rfl) sc_are_parts.nd (pi_list (pe_split (pv 0) pe_str)) (blkOk_by (own := [("part", 1)]) (N := nm_are_parts) (sc := defScope s_are_parts) (by decide +kernel)) (fun _ _ _ _ _ => (pg_name (i := 1) sc_are_parts.nd rfl (by first | exact Or.inl rfl | exact Or.inr rfl))) (fun _ _ _ _ _ => pts_nil) (fun _ _ _ _ _ => (pe_fn T.g_is_part c_is_part (hr.mono (by decide)) (by rfl) (pa_cons (pv 1) pa_nil)))) pa_nil)))))), ?_⟩
  refine ⟨_, rfl, _, _, _, _, _, rfl, .ty _, .base (.str _), kit_ty (b := "str") (by decide +kernel), _, rfl, iteT ?_⟩
  refine ⟨_, rfl, ⟨t, rfl⟩, t, ".", rfl, rfl, (by decide), (by rw [sizeLine_eq]; exact Nat.le_trans (Nat.add_le_add_right ht 2) (by decide)), fun p hp => ?_⟩
  refine ⟨p, rfl, ⟨_, SqL.of upd_same⟩, fun D hD => ?_⟩
  have npD : p ≠ D := ne_of_none upd_same hD
  refine lc_it walk_list (fun i H' => Same (upd H p (.lst ((Txt.split t ".").map V.str))) H' ∧ H' D = some (.lst (((Txt.split t ".").take i).map fun u => V.bl (partB u)))) ⟨same_new hD _, upd_same⟩ (fun i H' _ h => SqL.of (h.1 _ _ upd_same)) (fun i x H1 H2 hi hp hy => ?_) (fun H1 h1 => ?_)
  · obtain ⟨rfl, hx⟩ := hy
    obtain ⟨h1, h2⟩ := hp
    rw [List.getElem?_map] at hx
    obtain ⟨u, hu, rfl⟩ := Option.map_eq_some_iff.mp hx
    rw [List.length_map] at hi
    refine ⟨rfl, yes_if ?_⟩
    refine ⟨_, rfl, u, rfl, hP u (List.mem_of_getElem? hu), fun H3 h3 => ⟨_, h3 _ _ h2, ?_, ?_, ?_⟩⟩
    · rw [List.length_map, List.length_take, sizeLine_eq]; omega
    · intro b o hb
      rw [upd_ne (ne_of_none hb hD)]; exact h3 _ _ (h1 _ _ hb)
    · rw [upd_same, take_more hu, List.map_append]; rfl
  · rw [List.length_map, List.take_length] at h1
    refine ⟨D, (Txt.split t ".").map partB, rfl, SqL.of ?_, ?_⟩
    · rw [h1.2, List.map_map]; rfl
    · rw [List.all_map]
      exact hQ _ ((same_new hp _).trans h1.1)
end
end K17

set_option Elab.async false
set_option linter.all false
set_option maxRecDepth 100000
set_option maxHeartbeats 0
namespace K17
open PySem PySem.Spec PyProof.Rows L2 RC
section
variable {P : Program} {w : World} {K : PySem.W.Frag} {mg : Str → Option Value} {base : Heap}
/-! ### the tree of loggers -/
abbrev Es : Type := List (Str × Addr)
def lmK (es : Es) : List (Key × V) := es.map fun e => (Sum.inr e.1, V.ref e.2)
theorem valV_lmK (x : Str) : ∀ es : Es, valV (lmK es) (Sum.inr x) = (es.lookup x).map V.ref
  | [] => rfl
  | e :: es => by
    by_cases h : e.1 = x
    · have h1 : valV (lmK (e :: es)) (Sum.inr x) = some (V.ref e.2) := valV_pos (p := ((Sum.inr e.1 : Key), V.ref e.2)) (r := lmK es) (congrArg Sum.inr h)
      rw [h1, List.lookup_cons, beq_iff_eq.mpr h.symm]; rfl
    · have h1 : valV (lmK (e :: es)) (Sum.inr x) = valV (lmK es) (Sum.inr x) := by
        show valV (((Sum.inr e.1 : Key), V.ref e.2) :: lmK es) (Sum.inr x) = _
        unfold valV
        rw [List.find?_cons, show decide ((Sum.inr e.1 : Key) = Sum.inr x) = false from decide_eq_false fun z => h (Sum.inr.inj z)]
      rw [h1, List.lookup_cons, show (x == e.1) = false from by simpa using fun z : x = e.1 => h z.symm, valV_lmK x es]
/-- the first many parts of a name -/
def pre (parts : List Str) (k : Nat) : Str := Txt.join "." (parts.take k)
/-- the logger of the longest beginning of at most k parts -/
def parIx (es : Es) (parts : List Str) : Nat → Option Addr
  | 0 => none
  | k + 1 => match es.lookup (pre parts (k + 1)) with
    | some a => some a
    | none => parIx es parts k
def parA (es : Es) (rt : Addr) (nm : Str) : Addr := (parIx es (Txt.split nm ".") ((Txt.split nm ".").length - 1)).getD rt
/-- a name whose parts are not too many and not too long -/
structure Sized (nm : Str) : Prop where
  all : nm.cps.size ≤ 1000000
  few : (Txt.split nm ".").length ≤ 1000
  short : ∀ u ∈ Txt.split nm ".", u.cps.size ≤ 1000
theorem sum_take (k : Nat) : ∀ parts : List Str, (∀ u ∈ parts, u.cps.size ≤ 1000) → ((parts.take k).map (·.length)).sum ≤ parts.length * 1000 := by
  induction k with
  | zero => intro parts _; simp
  | succ k ih =>
    intro parts h
    cases parts with
    | nil => simp
    | cons p r =>
      have i1 := ih r (fun u hu => h u (List.mem_cons_of_mem _ hu))
      have i2 : p.length ≤ 1000 := h p List.mem_cons_self
      simp only [List.take_succ_cons, List.map_cons, List.sum_cons, List.length_cons]
      omega
theorem cutV_take (xs : List V) (k : Nat) (h : k ≤ xs.length) : cutV xs none (some (k : Int)) = xs.take k := by
  unfold cutV
  rw [HT.sIx_none, HT.sIx_nat, Nat.min_eq_left h, List.drop_zero, Nat.sub_zero]
def spParent (K : PySem.W.Frag) : Sp := fun vs H Q _ => ∃ (y dy lm rt : Addr) (fs : List (Str × V)) (es : Es) (t : Str), vs = [.ref y, .str t] ∧ H y = some (.ins (CY K) dy fs) ∧ fs.lookup ("root" : Str) = some (.ref rt) ∧ fs.lookup ("logger_map" : Str) = some (.ref lm) ∧ H lm = some (.dK (lmK es)) ∧ Sized t ∧ ∀ H', Same H H' → Q (.ref (parA es rt t)) H'
theorem ok_parent {f : Addr} (T : Txt P w K mg) (F : Stands K "parent_of" "parent_of" s_parent_of [] f) : Callable P w K mg base 1 f ["yard", "name"] [] (spParent K) := by
  refine F.call0 sc_parent_of (fun vs H Q E h => ?_) (fun cdv A outer s H vs Q E hr h => ?_) (fun _ _ _ _ _ _ us hl => match us, hl with | [_, _], _ => rfl)
  · obtain ⟨y, dy, lm, rt, fs, es, t, rfl, _⟩ := h; rfl
  obtain ⟨y, dy, lm, rt, fs, es, t, rfl, hy, hroot, hmap, hlm, hz, hQ⟩ := h
  refine ⟨_, (pss_cons (ps_set (i := 2) sc_parent_of.nd rfl (by first | exact Or.inl rfl | exact Or.inr rfl) (pe_split (pv 1) pe_str))
      (pss_cons (ps_for PassesOwn.never rfl (pi_range3 (by rfl) T.b_range (pa_cons (pe_op op_sub (pe_callB call_len (by rfl) T.b_len (by decide +kernel) (pa_cons (pv 2) pa_nil)) pe_int) (pa_cons pe_int (pa_cons (pe_un un_neg pe_int) pa_nil)))) (pg_name (i := 3) sc_parent_of.nd rfl (by first | exact Or.inl rfl | exact Or.inr rfl)) (pss_cons (ps_set (i := 4) sc_parent_of.nd rfl (by first | exact Or.inl rfl | exact Or.inr rfl) (pe_dget1 (hu_of hr) (pe_fld (pv 0) rfl) (pe_join pe_str (pe_slice sl_list (pv 2) po_none (po_some (pv 3)))) ⟨rfl, rfl, rfl, rfl⟩))
      (pss_one (ps_if (pt_cmpR op_notN (pv 4) pe_non (nomark _)) (pss_one (ps_ret (pv 4))) pss_nil))))
      (pss_one (ps_ret (pe_fld (pv 0) rfl))))), ?_⟩
  refine ⟨_, rfl, ⟨t, rfl⟩, t, ".", rfl, rfl, (by decide), (by rw [sizeLine_eq]; exact Nat.le_trans (Nat.add_le_add_right hz.all 2) (by decide)), fun p hp => ?_⟩
  have q1 : upd H p (.lst ((Txt.split t ".").map V.str)) p = some (.lst ((Txt.split t ".").map V.str)) := upd_same
  have s1 : Same H (upd H p (.lst ((Txt.split t ".").map V.str))) := same_new hp _
  generalize upd H p (.lst ((Txt.split t ".").map V.str)) = H1 at q1 s1
  unfold parA at hQ
  have hfew := hz.few
  have hshort := hz.short
  generalize Txt.split t "." = parts at hQ q1 hfew hshort
  have hl : ((parts.map V.str).length : Int) - 1 - 0 = (parts.length : Int) - 1 := by rw [List.length_map]; omega
  refine ⟨_, rfl, .ref p, parts.length, rfl, .inl ⟨_, SqL.of q1, by rw [List.length_map]⟩, _, 1, rfl, rfl, 1, rfl, _, 0, -1, _, rfl, RgC.neg (by omega) (by omega) (by decide) (by decide), ?_⟩
  have en : ((parts.length : Int) - 1 - 0).toNat = parts.length - 1 := by omega
  rw [en]
  refine for_it walk_rangeC (fun i σ H' => Same H1 H' ∧ parIx es parts (parts.length - 1) = parIx es parts (parts.length - 1 - i) ∧ ∃ o3 o4, σ = [some (.ref y), some (.str t), some (.ref p), o3, o4]) ⟨Same.refl H1, rfl, _, _, rfl⟩ (fun _ _ _ _ _ => trivial) (fun i x σ H2 H3 hi hP hx => ?_) (fun σ H2 hP => ?_)
  · obtain ⟨rfl, rfl⟩ := hx
    obtain ⟨s2, e2, o3, o4, rfl⟩ := hP
    obtain ⟨k, hk⟩ : ∃ k, parts.length - 1 - i = k + 1 := ⟨parts.length - 1 - i - 1, by omega⟩
    have ek : (parts.length : Int) - 1 + (i : Nat) * (-1) = ((k + 1 : Nat) : Int) := by omega
    dsimp only
    rw [ek]
    have s12 := s1.trans s2
    refine ⟨_, rfl, y, _, dy, fs, _, rfl, s12 _ _ hy, T.c_Yard, T.n_Yard_logger_map, hmap, lm, rfl, .inl ⟨_, .inl (s12 _ _ hlm)⟩, ⟨".", rfl⟩, _, rfl, _, rfl, _, rfl, p, _, rfl, SqL.of (s2 _ _ q1), fun q hq => ?_⟩
    rw [cutV_take _ _ (by rw [List.length_map]; omega), ← List.map_take]
    have s3 := s2.trans (same_new hq (.lst ((parts.take (k + 1)).map V.str)))
    refine ⟨".", q, parts.take (k + 1), rfl, rfl, .inl (SqL.of upd_same), ?_, _, DGet.k (k := Sum.inr (pre parts (k + 1))) (same_new hq _ _ _ (s12 _ _ hlm)), ?_⟩
    · have a := sum_take (k + 1) parts hshort
      have b : (parts.take (k + 1)).length ≤ parts.length := by rw [List.length_take]; omega
      have c : (("." : Str)).length = 1 := rfl
      rw [c]; omega
    rw [valV_lmK]
    rw [hk] at e2
    cases hL : es.lookup (pre parts (k + 1)) with
    | some a =>
      have e3 : parIx es parts (parts.length - 1) = some a := by rw [e2]; show (match es.lookup (pre parts (k + 1)) with | some a => some a | none => parIx es parts k) = _; rw [hL]
      refine ⟨_, rfl, rfl, _, rfl, iteT' (by rfl) ⟨_, rfl, ?_⟩⟩
      have q := hQ _ (s1.trans s3)
      rw [e3] at q; exact q
    | none =>
      have e3 : parIx es parts (parts.length - 1) = parIx es parts (parts.length - 1 - (i + 1)) := by
        rw [e2, show parts.length - 1 - (i + 1) = k by omega]; show (match es.lookup (pre parts (k + 1)) with | some a => some a | none => parIx es parts k) = _; rw [hL]
      exact ⟨_, rfl, rfl, _, rfl, iteF' (by rfl) ⟨s3, e3, _, _, rfl⟩⟩
  · obtain ⟨s2, e2, o3, o4, rfl⟩ := hP
    rw [show parts.length - 1 - (parts.length - 1) = 0 by omega] at e2
    have s12 := s1.trans s2
    refine ⟨_, rfl, y, _, dy, fs, _, rfl, s12 _ _ hy, T.c_Yard, T.n_Yard_root, hroot, ?_⟩
    have q := hQ _ s12
    rw [e2] at q; exact q
end
end K17

set_option Elab.async false
set_option linter.all false
set_option maxRecDepth 100000
set_option maxHeartbeats 0
namespace K17
open PySem PySem.Spec PyProof.Rows L2 RC
section
variable {P : Program} {w : World} {K : PySem.W.Frag} {mg : Str → Option Value} {base : Heap}
/-! ### what the law draws -/
def spPick (K : PySem.W.Frag) : Sp := fun vs H Q _ => ∃ (s l p : Addr) (n : Nat) (xs : List V), vs = [.ref s, .ref p] ∧ Stm H s l n ∧ n ≤ 1000000 ∧ p ≠ s ∧ p ≠ l ∧ H p = some (.lst xs) ∧ 1 ≤ xs.length ∧ xs.length ≤ 1000 ∧ ∀ (H' : Hp) (x : V), Old s l H H' → Stm H' s l (n + 1) → x ∈ xs → Q x H'
theorem ok_pick {f : Addr} (T : Txt P w K mg) (F : Stands K "_law_pick" "_law_pick" s__law_pick [] f) (c__law_draw : Callable P w K mg base 1 (He.ga K "_law_draw") ["_law_s", "_law_many"] [] spDraw) : Callable P w K mg base 2 f ["_law_s", "_law_some"] [] (spPick K) := by
  refine F.call0 sc__law_pick (fun vs H Q E h => ?_) (fun cdv A outer s H vs Q E hr h => ?_) (fun _ _ _ _ _ _ us hl => match us, hl with | [_, _], _ => rfl)
  · obtain ⟨s, l, p, n, xs, rfl, _⟩ := h; rfl
  obtain ⟨s, l, p, n, xs, rfl, hs, hn, nps, npl, hp, hx1, hx2, hQ⟩ := h
  refine ⟨_, (pss_one (ps_ret (pe_ix ix_list (pv 1) (pe_fn T.g__law_draw c__law_draw (hr.mono (by decide)) (by rfl) (pa_cons (pv 0) (pa_cons (pe_callB call_len (by rfl) T.b_len (by decide +kernel) (pa_cons (pv 1) pa_nil)) pa_nil))) (fun _ _ => rfl)))), ?_⟩
  refine ⟨_, rfl, _, rfl, _, rfl, _, xs.length, rfl, .inl ⟨xs, SqL.of hp, rfl⟩, s, l, n, xs.length, rfl, hs, hn, by omega, by omega, fun H' d h1 h2 h3 h4 => ?_⟩
  obtain ⟨j, rfl⟩ := Int.eq_ofNat_of_zero_le h3
  have hj : j < xs.length := by omega
  refine ⟨p, xs, j, xs[j], rfl, rfl, SqL.of (h1 _ _ nps npl hp), atI_nat (by simp [hj]), ?_⟩
  exact hQ H' _ h1 h2 (List.getElem_mem hj)
theorem join_size (y : Str) : ∀ ps : List Str, (Txt.join y ps).length ≤ (ps.map (·.length)).sum + ps.length * y.length := by
  intro ps
  rw [TL.join_eq, TL.len_tl, TL.tl_join]
  induction ps with
  | nil => exact Nat.zero_le _
  | cons p r ih =>
    cases r with
    | nil => show (TL.tl p).length ≤ _; rw [← TL.len_tl]; simp
    | cons q t =>
      show (TL.tl p ++ (TL.tl y ++ TL.joinL (TL.tl y) ((q :: t).map TL.tl))).length ≤ _
      rw [List.length_append, List.length_append, ← TL.len_tl, ← TL.len_tl]
      simp only [List.map_cons, List.sum_cons, List.length_cons] at ih ⊢
      rw [Nat.succ_mul]
      omega
theorem old_new {s l D : Addr} {H H' : Hp} {o : HO} (h : Old s l H H') (hD : H D = none) : Old s l H (upd H' D o) := fun b u h1 h2 e => by rw [upd_ne (ne_of_none e hD)]; exact h b u h1 h2 e
theorem _root_.RC.Stm.put {H : Hp} {s l D : Addr} {n : Nat} {o : HO} (h : Stm H s l n) (h1 : D ≠ s) (h2 : D ≠ l) : Stm (upd H D o) s l n := by
  obtain ⟨ne, ns, x, c, d, g1, g2, g3⟩ := h
  exact ⟨ne, ns, x, c, d, by rw [upd_ne (Ne.symm h1)]; exact g1, by rw [upd_ne (Ne.symm h2)]; exact g2, g3⟩
def parts5 : List Str := ["a", "b", "ab", "A", "_1"]
theorem len_add (a b : Str) : (a ++ b).length = a.length + b.length := by
  rw [TL.len_tl, TL.tl_append, List.length_append, ← TL.len_tl, ← TL.len_tl]
theorem sum_parts : ∀ ps : List Str, (∀ p ∈ ps, p ∈ parts5) → (ps.map (·.length)).sum ≤ ps.length * 2
  | [], _ => Nat.le_refl _
  | p :: r, h => by
    have a : ∀ z ∈ parts5, z.length ≤ 2 := by decide
    have i1 := sum_parts r (fun z hz => h z (List.mem_cons_of_mem _ hz))
    have i2 := a p (h p List.mem_cons_self)
    simp only [List.map_cons, List.sum_cons, List.length_cons]
    omega
/-- a name of one to most parts -/
def spName : Sp := fun vs H Q _ => ∃ (s l : Addr) (n : Nat) (most : Int), vs = [.ref s, .int most] ∧ Stm H s l n ∧ n ≤ 900000 ∧ 1 ≤ most ∧ most ≤ 50 ∧
  ∀ (H' : Hp) (ps : List Str), Old s l H H' → Stm H' s l (n + 100) → 1 ≤ ps.length → (ps.length : Int) ≤ most → (∀ p ∈ ps, p ∈ parts5) → Q (.str (Txt.join "." ps)) H'
theorem ok_name {f : Addr} (T : Txt P w K mg) (F : Stands K "_law_name" "_law_name" s__law_name [] f) (c__law_draw : Callable P w K mg base 1 (He.ga K "_law_draw") ["_law_s", "_law_many"] [] spDraw)
    (c__law_pick : Callable P w K mg base 2 (He.ga K "_law_pick") ["_law_s", "_law_some"] [] (spPick K)) : Callable P w K mg base 3 f ["_law_s", "_law_most"] [] spName := by
  refine F.call0 sc__law_name (fun vs H Q E h => ?_) (fun cdv A outer s H vs Q E hr h => ?_) (fun _ _ _ _ _ _ us hl => match us, hl with | [_, _], _ => rfl)
  · obtain ⟨s, l, n, most, rfl, _⟩ := h; rfl
  obtain ⟨s, l, n, most, rfl, hs, hn, hm1, hm2, hQ⟩ := h
  refine ⟨_, (pss_one (ps_ret (pe_join pe_str (pe_lc (own := [("_law_k", 2)]) (by rfl) sc__law_name.nd (pi_range1 (by rfl) T.b_range (pa_cons (pe_op op_add pe_int (pe_fn T.g__law_draw c__law_draw (hr.mono (by decide)) (by rfl) (pa_cons (pv 0) (pa_cons (pv 1) pa_nil)))) pa_nil)) (blkOk_by (own := [("_law_k", 2)]) (N := nm__law_name) (sc := defScope s__law_name) (by decide +kernel)) (fun _ _ _ _ _ => (pg_name (i := 2) sc__law_name.nd rfl (by first | exact Or.inl rfl | exact Or.inr rfl))) (fun _ _ _ _ _ => pts_nil) (fun _ _ _ _ _ => (pe_fn T.g__law_pick c__law_pick (hr.mono (by decide)) (by rfl) (pa_cons (pv 0) (pa_cons (pe_lst (pa_cons pe_str (pa_cons pe_str (pa_cons pe_str (pa_cons pe_str (pa_cons pe_str pa_nil)))))) pa_nil)))))))), ?_⟩
  refine ⟨⟨_, rfl⟩, _, rfl, _, rfl, s, l, n, most, rfl, hs, by omega, hm1, by omega, fun H1 d h1 h2 h3 h4 => ?_⟩
  refine ⟨1, d, rfl, rfl, 1 + d, rfl, by omega, by omega, fun D hD => ?_⟩
  obtain ⟨k, rfl⟩ := Int.eq_ofNat_of_zero_le h3
  have en : (1 + (k : Int)).toNat = 1 + k := by omega
  rw [en]
  have nDs : D ≠ s := fun z => by obtain ⟨_, _, _, _, _, z1, _⟩ := h2; rw [z, z1] at hD; cases hD
  have nDl : D ≠ l := fun z => by obtain ⟨_, _, _, _, _, _, z1, _⟩ := h2; rw [z, z1] at hD; cases hD
  refine lc_it (n := 1 + k) walk_range (fun i H' => Old s l H1 H' ∧ Stm H' s l (n + 1 + i) ∧ ∃ ps : List Str, ps.length = i ∧ (∀ p ∈ ps, p ∈ parts5) ∧ H' D = some (.lst (ps.map V.str))) ⟨Old.of_same (same_new hD _), h2.same (same_new hD _), [], rfl, (fun _ h => nomatch h), upd_same⟩ (fun _ _ _ _ => trivial) (fun i x H2 H3 hi hp hy => ?_) (fun H2 h => ?_)
  · obtain ⟨rfl, rfl⟩ := hy
    obtain ⟨g1, g2, ps, g3, g4, g5⟩ := hp
    refine ⟨rfl, yes_if ?_⟩
    refine ⟨_, rfl, (by show 5 ≤ sizeLine; decide), fun q hq => ?_⟩
    have nqs : q ≠ s := fun z => by obtain ⟨_, _, _, _, _, z1, _⟩ := g2; rw [z, z1] at hq; cases hq
    have nql : q ≠ l := fun z => by obtain ⟨_, _, _, _, _, _, z1, _⟩ := g2; rw [z, z1] at hq; cases hq
    have sq := same_new hq (.lst [.str "a", .str "b", .str "ab", .str "A", .str "_1"])
    refine ⟨s, l, q, n + 1 + i, _, rfl, g2.same sq, by omega, nqs, nql, upd_same, by decide, by decide, fun H4 x k1 k2 k3 => ?_⟩
    have hx : ∃ p : Str, p ∈ parts5 ∧ x = V.str p := by
      have e : x ∈ parts5.map V.str := k3
      obtain ⟨p, hp, rfl⟩ := List.mem_map.mp e
      exact ⟨p, hp, rfl⟩
    obtain ⟨p, hp5, rfl⟩ := hx
    have gD := k1 _ _ nDs nDl (sq _ _ g5)
    refine ⟨_, gD, by rw [List.length_map, sizeLine_eq]; omega, ?_, ?_, ps ++ [p], by simp [g3], ?_, by rw [upd_same, List.map_append]; rfl⟩
    · exact old_new (g1.trans ((Old.of_same sq).trans k1)) hD
    · exact k2.put nDs nDl
    · intro z hz
      rcases List.mem_append.mp hz with c | c
      · exact g4 z c
      · cases List.mem_singleton.mp c; exact hp5
  · obtain ⟨g1, g2, ps, g3, g4, g5⟩ := h
    have hsum := sum_parts ps g4
    refine ⟨".", D, ps, rfl, rfl, .inl (SqL.of g5), ?_, hQ _ ps (h1.trans g1) (g2.mono (by omega)) (by omega) (by omega) g4⟩
    have e1 : (("." : Str)).length = 1 := rfl
    rw [e1]; omega
end
end K17

set_option Elab.async false
set_option linter.all false
set_option maxRecDepth 100000
set_option maxHeartbeats 0
namespace K17
open PySem PySem.Spec PyProof.Rows L2 RC
section
variable {P : Program} {w : World} {K : PySem.W.Frag} {mg : Str → Option Value} {base : Heap}
/-! ### placing the loggers -/
structure LG where
  (d l hl : Addr) (lev : Int) (prop dis : Bool)
def lG (q : LG) (y : Addr) (name : Str) (par : V) : List (Str × V) := [("filters", .ref q.l), ("yard", .ref y), ("name", .str name), ("level", .int q.lev), ("propagate", .bl q.prop), ("disabled", .bl q.dis), ("handlers", .ref q.hl), ("parent", par)]
theorem lG_name {q q' : LG} {y y' : Addr} {n n' : Str} {p p' : V} (h : lG q y n p = lG q' y' n' p') : n = n' := by
  have e := congrArg (fun l : List (Str × V) => l.lookup ("name" : Str)) h
  exact V.str.inj (Option.some.inj e)
/-- the loggers of es stand, with the parents par -/
def Logs (K : PySem.W.Frag) (H : Hp) (y : Addr) (es : Es) (g : Addr → LG) (par : Str → V) : Prop := ∀ e ∈ es, H e.2 = some (.ins (CL K) (g e.2).d (lG (g e.2) y e.1 (par e.1)))
theorem lookup_nd : ∀ {es : Es} {e : Str × Addr}, e ∈ es → (es.map (·.1)).Nodup → es.lookup e.1 = some e.2
  | [], _, h, _ => nomatch h
  | a :: es, e, h, nd => by
    rw [List.lookup_cons]
    rcases List.mem_cons.mp h with rfl | h
    · rw [beq_self_eq_true]
    · rw [List.map_cons, List.nodup_cons] at nd
      have hne : e.1 ≠ a.1 := fun z => nd.1 (by rw [← z]; exact List.mem_map_of_mem h)
      rw [show (e.1 == a.1) = false from by simpa using hne]
      exact lookup_nd h nd.2
theorem Logs.inj {K : PySem.W.Frag} {H : Hp} {y : Addr} {es : Es} {g : Addr → LG} {par : Str → V} (L : Logs K H y es g par) {e e' : Str × Addr} (h : e ∈ es) (h' : e' ∈ es) (z : e.2 = e'.2) : e.1 = e'.1 := by
  have a := L e h
  have b := L e' h'
  rw [z, b] at a
  exact lG_name (HO.ins.inj (Option.some.inj a)).2.2.symm
theorem Logs.notY {K : PySem.W.Frag} {H : Hp} {y : Addr} {es : Es} {g : Addr → LG} {par : Str → V} (L : Logs K H y es g par) {a C d : Addr} {fs : List (Str × V)} {v : V} (hy : H a = some (.ins C d fs)) (hm : fs.lookup ("logger_map" : Str) = some v) : a ∉ es.map (·.2) := fun z => by
  obtain ⟨e, he, rfl⟩ := List.mem_map.mp z
  have b := L e he
  rw [hy] at b
  rw [(HO.ins.inj (Option.some.inj b)).2.2] at hm
  exact absurd hm (by show (none : Option V) ≠ some v; exact fun z => nomatch z)
theorem Logs.notIns {K : PySem.W.Frag} {H : Hp} {y : Addr} {es : Es} {g : Addr → LG} {par : Str → V} (L : Logs K H y es g par) {a : Addr} {o : HO} (h : H a = some o) (ho : ∀ C d fs, o ≠ .ins C d fs) : a ∉ es.map (·.2) := fun z => by
  obtain ⟨e, he, rfl⟩ := List.mem_map.mp z
  have b := L e he
  rw [h] at b
  exact ho _ _ _ (Option.some.inj b)
/-- but the loggers of es all stays -/
def ButL (es : Es) (H H' : Hp) : Prop := ∀ b o, b ∉ es.map (·.2) → H b = some o → H' b = some o
def spPlaceAll (K : PySem.W.Frag) : Sp := fun vs H Q _ => ∃ (y dy lm rt : Addr) (fs : List (Str × V)) (es : Es) (g : Addr → LG) (p0 : Str → V), vs = [.ref y] ∧ H y = some (.ins (CY K) dy fs) ∧ fs.lookup ("root" : Str) = some (.ref rt) ∧ fs.lookup ("logger_map" : Str) = some (.ref lm) ∧ H lm = some (.dK (lmK es)) ∧
  (es.map (·.1)).Nodup ∧ (∀ e ∈ es, Sized e.1) ∧ es.length ≤ 1000 ∧ Logs K H y es g p0 ∧ ∀ H', ButL es H H' → Logs K H' y es g (fun n => .ref (parA es rt n)) → Q .non H'
theorem ok_placeAll {f : Addr} (T : Txt P w K mg) (F : Stands K "place_loggers" "place_loggers" s_place_loggers [] f) (c_parent_of : Callable P w K mg base 1 (He.ga K "parent_of") ["yard", "name"] [] (spParent K)) : Callable P w K mg base 2 f ["yard"] [] (spPlaceAll K) := by
  refine F.call0 sc_place_loggers (fun vs H Q E h => ?_) (fun cdv A outer s H vs Q E hr h => ?_) (fun _ _ _ _ _ _ us hl => match us, hl with | [_], _ => rfl)
  · obtain ⟨y, dy, lm, rt, fs, es, g, p0, rfl, _⟩ := h; rfl
  obtain ⟨y, dy, lm, rt, fs, es, g, p0, rfl, hy, hroot, hmap, hlm, hnd, hsz, hlen, hL, hQ⟩ := h
  refine ⟨_, (pss_one (ps_for PassesOwn.never rfl (pi_list (pe_callTy (call_list_dK rfl) (by rfl) T.b_list (by decide +kernel) (pa_cons (pe_fld (pv 0) rfl) pa_nil))) (pg_name (i := 1) sc_place_loggers.nd rfl (by first | exact Or.inl rfl | exact Or.inr rfl)) (pss_one (ps_fld (pe_dget (hu_of hr) (pe_fld (pv 0) rfl) (pv 1) (fun _ _ => rfl)) (pe_fn T.g_parent_of c_parent_of (hr.mono (by decide)) (by rfl) (pa_cons (pv 0) (pa_cons (pv 1) pa_nil))) rfl)))), ?_⟩
  refine ⟨_, rfl, y, _, dy, fs, _, rfl, hy, T.c_Yard, T.n_Yard_logger_map, hmap, lm, _, rfl, hlm, fun q hq => ?_⟩
  have ek : (lmK es).map (fun kv => kV kv.1) = es.map fun e => V.str e.1 := by rw [lmK, List.map_map]; rfl
  rw [ek]
  have q1 : upd H q (.lst (es.map fun e => V.str e.1)) q = some (.lst (es.map fun e => V.str e.1)) := upd_same
  have s1 : Same H (upd H q (.lst (es.map fun e => V.str e.1))) := same_new hq _
  generalize upd H q (.lst (es.map fun e => V.str e.1)) = H1 at q1 s1
  have L1 : Logs K H1 y es g p0 := fun e he => s1 _ _ (hL e he)
  have ny := L1.notY (s1 _ _ hy) hmap
  have nlm := L1.notIns (s1 _ _ hlm) (fun _ _ _ z => nomatch z)
  have nq := L1.notIns q1 (fun _ _ _ z => nomatch z)
  refine ⟨q, rfl, ⟨_, SqL.of q1⟩, ?_⟩
  refine for_it walk_list (fun i σ H' => ButL es H1 H' ∧ (∀ (j : Nat) (e : Str × Addr), es[j]? = some e → H' e.2 = some (.ins (CL K) (g e.2).d (lG (g e.2) y e.1 (if j < i then .ref (parA es rt e.1) else p0 e.1)))) ∧ ∃ o1, σ = [some (.ref y), o1])
    ⟨fun _ _ _ e => e, fun j e he => L1 e (List.mem_of_getElem? he), _, rfl⟩ (fun i σ H' _ h => SqL.of (h.1 _ _ nq q1)) (fun i x σ H2 H3 hi hP hx => ?_) (fun σ H2 hP => ?_)
  · obtain ⟨rfl, hx⟩ := hx
    obtain ⟨b2, l2, o1, rfl⟩ := hP
    rw [List.getElem?_map] at hx
    obtain ⟨e, he, rfl⟩ := Option.map_eq_some_iff.mp hx
    have hm := List.mem_of_getElem? he
    refine ⟨_, rfl, _, rfl, y, dy, lm, rt, fs, es, e.1, rfl, b2 _ _ ny (s1 _ _ hy), hroot, hmap, b2 _ _ nlm (s1 _ _ hlm), hsz e hm, fun H4 s4 => ?_⟩
    refine ⟨_, rfl, y, _, dy, fs, _, rfl, s4 _ _ (b2 _ _ ny (s1 _ _ hy)), T.c_Yard, T.n_Yard_logger_map, hmap, _, rfl, lm, .ref e.2, rfl, ?_, e.2, _, _, _, rfl, s4 _ _ (l2 i e he), T.c_Logger, T.n_Logger_parent, (by show 8 < 1000; decide), ?_⟩
    · have g := DGet.k (k := Sum.inr e.1) (s4 _ _ (b2 _ _ nlm (s1 _ _ hlm)))
      rw [valV_lmK, lookup_nd hm hnd] at g; exact g
    · refine ⟨fun b o hb hbo => ?_, fun j e' he' => ?_, _, rfl⟩
      · rw [upd_ne (fun z => hb (by rw [z]; exact List.mem_map_of_mem hm))]; exact s4 _ _ (b2 b o hb hbo)
      · have hm' := List.mem_of_getElem? he'
        by_cases c : e'.2 = e.2
        · have en : e' = e := Prod.ext (L1.inj hm' hm c) c
          subst en
          have ej : j = i := by
            have n1 : (es.map (·.1))[j]? = some e'.1 := by rw [List.getElem?_map, he']; rfl
            have n2 : (es.map (·.1))[i]? = some e'.1 := by rw [List.getElem?_map, he]; rfl
            have hj := (List.getElem?_eq_some_iff.mp n1).1
            exact (List.getElem?_inj hj hnd).mp (n1.trans n2.symm)
          subst ej
          rw [upd_same, if_pos (Nat.lt_succ_self _)]; rfl
        · rw [upd_ne c, s4 _ _ (l2 j e' he')]
          have nij : j ≠ i := fun z => by rw [z, he] at he'; exact c (by rw [Option.some.inj he'])
          by_cases d : j < i
          · rw [if_pos d, if_pos (by omega)]
          · rw [if_neg d, if_neg (by omega)]
  · obtain ⟨b2, l2, o1, rfl⟩ := hP
    refine hQ _ (fun b o hb e => b2 b o hb (s1 _ _ e)) (fun e he => ?_)
    obtain ⟨j, hj⟩ := List.getElem?_of_mem he
    have h := l2 j e hj
    rw [if_pos (by rw [List.length_map]; exact (List.getElem?_eq_some_iff.mp hj).1)] at h
    exact h
end
end K17

set_option Elab.async false
set_option linter.all false
set_option maxRecDepth 100000
set_option maxHeartbeats 0
namespace K17
open PySem PySem.Spec PyProof.Rows L2 RC
section
variable {P : Program} {w : World} {K : PySem.W.Frag} {mg : Str → Option Value} {base : Heap}
/-! ### getLogger -/
structure Tree (K : PySem.W.Frag) (H : Hp) (y dy lm rt : Addr) (fs : List (Str × V)) (es : Es) (g : Addr → LG) : Prop where
  yd : H y = some (.ins (CY K) dy fs)
  root : fs.lookup ("root" : Str) = some (.ref rt)
  map : fs.lookup ("logger_map" : Str) = some (.ref lm)
  ms : fs.lookup ("getLogger" : Str) = none
  lmo : H lm = some (.dK (lmK es))
  nd : (es.map (·.1)).Nodup
  sz : ∀ e ∈ es, Sized e.1
  lg : Logs K H y es g (fun n => .ref (parA es rt n))
/-- a new logger a was put behind es -/
structure NewLog (K : PySem.W.Frag) (H H' : Hp) (lm : Addr) (es : Es) (a : Addr) (q : LG) : Prop where
  kp : ∀ b o, b ≠ lm → b ∉ es.map (·.2) → H b = some o → H' b = some o
  a0 : H a = none
  l0 : H q.l = none
  h0 : H q.hl = none
  ne : q.l ≠ q.hl
  l1 : H' q.l = some (.lst [])
  h1 : H' q.hl = some (.lst [])
  fl : q.lev = 0 ∧ q.prop = true ∧ q.dis = false
def updG (g : Addr → LG) (a : Addr) (q : LG) : Addr → LG := fun b => if b = a then q else g b
def spGetLog (K : PySem.W.Frag) : Sp := fun vs H Q _ => ∃ (y dy lm rt : Addr) (fs : List (Str × V)) (es : Es) (g : Addr → LG) (t : Str), vs = [.ref y, .str t] ∧ Tree K H y dy lm rt fs es g ∧ es.length ≤ 500 ∧ t ≠ "" ∧ t ≠ "root" ∧ Sized t ∧ (Txt.split t ".").all partB = true ∧
  ((∃ a, es.lookup t = some a ∧ ∀ H', Same H H' → Q (.ref a) H') ∨ (es.lookup t = none ∧ ∀ H' a q, NewLog K H H' lm es a q → Tree K H' y dy lm rt fs (es ++ [(t, a)]) (updG g a q) → Q (.ref a) H'))
theorem lookup_none : ∀ {es : Es} {t : Str}, es.lookup t = none → t ∉ es.map (·.1)
  | [], _, _ => List.not_mem_nil
  | a :: es, t, h => by
    rw [List.lookup_cons] at h
    by_cases c : t = a.1
    · rw [beq_iff_eq.mpr c] at h; cases h
    · rw [show (t == a.1) = false from by simpa using c] at h
      rw [List.map_cons, List.mem_cons]
      rintro (z | z)
      · exact c z
      · exact lookup_none h z
theorem ok_getLog {f : Addr} (T : Txt P w K mg) (F : Stands K "getLogger" "Yard.getLogger" s_Yard_getLogger [.str ""] f) (c_are_parts : Callable P w K mg base 2 (He.ga K "are_parts") ["thing"] [] spAreParts)
    (c_Logger_init : Callable P w K mg base 2 (He.ma K (He.ga K "Logger") "__init__") ["self", "yard", "name", "level"] [] (spLoggerInit K)) (c_place_loggers : Callable P w K mg base 2 (He.ga K "place_loggers") ["yard"] [] (spPlaceAll K)) :
    Callable P w K mg base 4 f ["self", "name"] [] (spGetLog K) := by
  refine F.call sc_Yard_getLogger 2 1 (fun vs H Q E h => ?_) (fun cdv A outer s H vs Q E hr h => ?_) (fun z => nomatch z) fun _ => ⟨rfl, fun _ _ _ _ _ _ _ us its hl hi => match us, hl, its, hi with | [_, _], _, [_], _ => ⟨_, rfl, rfl⟩⟩
  · obtain ⟨y, dy, lm, rt, fs, es, g, t, rfl, _⟩ := h; rfl
  obtain ⟨y, dy, lm, rt, fs, es, g, t, rfl, TR, hlen, n1, n2, hs, hp, hQ⟩ := h
  have hy := TR.yd
  have hroot := TR.root
  have hmap := TR.map
  have hlm := TR.lmo
  refine ⟨_, (pss_cons (ps_if (PW.pt (pw_or (pt_cmpR op_eq (pv 1) pe_str (nomark _)) (pw_or1 (pt_cmpR op_eq (pv 1) pe_str (nomark _))))) (pss_one (ps_ret (pe_fld (pv 0) rfl))) pss_nil)
      (pss_cons (ps_if (pt_not (pt_val (pe_fn T.g_are_parts c_are_parts (hr.mono (by decide)) (by rfl) (pa_cons (pv 1) pa_nil)))) (pss_one ps_never) pss_nil)
      (pss_cons (ps_if (pt_cmp (pc_dnotin (hu_of hr) (pv 1) (pe_fld (pv 0) rfl))) (pss_cons (ps_dput (hu_of hr) (pe_fld (pv 0) rfl) (pv 1) (pe_mk T.k_Logger T.g_Logger c_Logger_init (hr.mono (by decide)) (by rfl) (pa_cons (pv 0) (pa_cons (pv 1) (pa_cons (pe_gi (by rfl) T.g_NOTSET) pa_nil)))) rfl)
      (pss_one (ps_expr (pe_fn T.g_place_loggers c_place_loggers (hr.mono (by decide)) (by rfl) (pa_cons (pv 0) pa_nil))))) pss_nil)
      (pss_one (ps_ret (pe_dget (hu_of hr) (pe_fld (pv 0) rfl) (pv 1) (fun _ _ => rfl))))))), ?_⟩
  refine ⟨_, rfl, rfl, _, rfl, iteF' (by simp [n1]) ⟨_, rfl, rfl, _, rfl, iteF' (by simp [n2]) ?_⟩⟩
  refine ⟨_, rfl, t, rfl, hs.all, Nat.le_trans hs.few (by decide), (fun u hu => Nat.le_trans (hs.short u hu) (by decide)), fun H1 s1 => ?_⟩
  refine ⟨_, rfl, iteF' (by rw [hp]; rfl) ?_⟩
  have ge := DGet.k (k := Sum.inr t) (s1 _ _ hlm)
  rw [valV_lmK] at ge
  rcases hQ with ⟨a, ha, hQ⟩ | ⟨ha, hQ⟩
  · rw [ha] at ge
    refine ⟨_, rfl, _, rfl, y, _, dy, fs, _, rfl, s1 _ _ hy, T.c_Yard, T.n_Yard_logger_map, hmap, lm, _, rfl, ge, _, rfl, iteF' (by rfl) ?_⟩
    exact ⟨_, rfl, y, _, dy, fs, _, rfl, s1 _ _ hy, T.c_Yard, T.n_Yard_logger_map, hmap, _, rfl, lm, .ref a, rfl, ge, hQ _ s1⟩
  rw [ha] at ge
  refine ⟨_, rfl, _, rfl, y, _, dy, fs, _, rfl, s1 _ _ hy, T.c_Yard, T.n_Yard_logger_map, hmap, lm, _, rfl, ge, _, rfl, iteT' (by rfl) ?_⟩
  refine ⟨_, rfl, _, rfl, fun lg dl hlg hdl hne => ?_⟩
  refine ⟨lg, dl, y, t, 0, rfl, upd_same, fun H2 l h k1 k2 k3 k4 k5 k6 k7 => ⟨rfl, ?_⟩⟩
  have s2 : Same H1 H2 := made_same hlg hdl k1
  have s12 := s1.trans s2
  have k2 := (upd_none (upd_none k2).2).2
  have k3 := (upd_none (upd_none k3).2).2
  have hput : putK (lmK es) (Sum.inr t) (V.ref lg) = lmK (es ++ [(t, lg)]) := by
    unfold putK
    rw [if_neg ?_]
    · unfold lmK; rw [List.map_append]; rfl
    · intro z
      obtain ⟨kv, h1, h2⟩ := List.any_eq_true.mp z
      obtain ⟨e, he, rfl⟩ := List.mem_map.mp h1
      exact lookup_none ha (by rw [← Sum.inr.inj (of_decide_eq_true h2)]; exact List.mem_map_of_mem he)
  refine ⟨_, rfl, y, _, dy, fs, _, rfl, s12 _ _ hy, T.c_Yard, T.n_Yard_logger_map, hmap, _, rfl, lm, _, rfl, DPut.k (k := Sum.inr t) (s12 _ _ hlm) (by unfold lmK; rw [List.length_map, sizeLine_eq]; omega), ?_⟩
  rw [hput]
  have q1 := s12 _ _ hlm
  have nlm : lg ≠ lm := fun z => by rw [z, q1] at k5; cases k5
  have nly : y ≠ lg := fun z => by rw [← z, s1 _ _ hy] at hlg; cases hlg
  have nym : y ≠ lm := fun z => by rw [z, hlm] at hy; cases hy
  have nll : l ≠ lm := fun z => by rw [z, s1 _ _ hlm] at k2; cases k2
  have nhl : h ≠ lm := fun z => by rw [z, s1 _ _ hlm] at k3; cases k3
  have L0 := TR.lg
  have nlg0 : lg ∉ es.map (·.2) := fun z => by
    obtain ⟨e, he, z⟩ := List.mem_map.mp z
    have b := s1 _ _ (L0 e he)
    rw [z, hlg] at b; cases b
  have nlm0 := L0.notIns hlm (fun _ _ _ z => nomatch z)
  generalize e : upd H2 lm _ = H3
  have m3 : H3 lm = some (.dK (lmK (es ++ [(t, lg)]))) := by rw [← e]; exact upd_same
  have b3 : SameBut lm H2 H3 := by rw [← e]; exact SameBut.put
  clear e
  have L3 : Logs K H3 y (es ++ [(t, lg)]) (updG g lg ⟨dl, l, h, 0, true, false⟩) (fun n => if n = t then .non else .ref (parA es rt n)) := fun e he => by
    rcases List.mem_append.mp he with he | he
    · have c1 : e.2 ≠ lg := fun z => nlg0 (by rw [← z]; exact List.mem_map_of_mem he)
      have c2 : e.1 ≠ t := fun z => lookup_none ha (by rw [← z]; exact List.mem_map_of_mem he)
      have c3 : e.2 ≠ lm := fun z => nlm0 (by rw [← z]; exact List.mem_map_of_mem he)
      show H3 e.2 = some (.ins (CL K) (updG g lg ⟨dl, l, h, 0, true, false⟩ e.2).d (lG (updG g lg ⟨dl, l, h, 0, true, false⟩ e.2) y e.1 (if e.1 = t then .non else .ref (parA es rt e.1))))
      unfold updG
      rw [if_neg c1, if_neg c2]
      exact b3 _ _ c3 (s12 _ _ (L0 e he))
    · cases List.mem_singleton.mp he
      show H3 lg = some (.ins (CL K) (updG g lg ⟨dl, l, h, 0, true, false⟩ lg).d (lG (updG g lg ⟨dl, l, h, 0, true, false⟩ lg) y t (if t = t then .non else .ref (parA es rt t))))
      unfold updG
      rw [if_pos rfl, if_pos rfl]
      exact b3 _ _ nlm k5
  have nd' : ((es ++ [(t, lg)]).map (·.1)).Nodup := by
    rw [List.map_append, List.nodup_append]
    refine ⟨TR.nd, by simp, fun a ha' b hb z => ?_⟩
    have hb : b = t := by simpa using hb
    subst hb; subst z
    exact lookup_none ha ha'
  have sz' : ∀ e ∈ es ++ [(t, lg)], Sized e.1 := fun e he => by
    rcases List.mem_append.mp he with he | he
    · exact TR.sz e he
    · cases List.mem_singleton.mp he; exact hs
  refine ⟨_, rfl, y, dy, lm, rt, fs, es ++ [(t, lg)], updG g lg ⟨dl, l, h, 0, true, false⟩, _, rfl, b3 _ _ nym (s12 _ _ hy), hroot, hmap, m3, nd', sz', (by rw [List.length_append, List.length_singleton]; omega), L3, fun H4 b4 L4 => ?_⟩
  have ny4 := L3.notY (b3 _ _ nym (s12 _ _ hy)) hmap
  have nm4 := L3.notIns m3 (fun _ _ _ z => nomatch z)
  have hy4 := b4 _ _ ny4 (b3 _ _ nym (s12 _ _ hy))
  have m4 := b4 _ _ nm4 m3
  refine ⟨_, rfl, y, _, dy, fs, _, rfl, hy4, T.c_Yard, T.n_Yard_logger_map, hmap, _, rfl, lm, .ref lg, rfl, ?_, hQ H4 lg ⟨dl, l, h, 0, true, false⟩ ⟨fun b o hb hb2 he => ?_, s1.free hlg, s1.free k2, s1.free k3, k4, ?_, ?_, rfl, rfl, rfl⟩ ⟨hy4, hroot, hmap, TR.ms, m4, nd', sz', L4⟩⟩
  · have g := DGet.k (k := Sum.inr t) m4
    rw [valV_lmK, lookup_nd (e := (t, lg)) (by simp) nd'] at g; exact g
  · refine b4 _ _ (fun z => ?_) (b3 _ _ hb (s12 _ _ he))
    rw [List.map_append] at z
    rcases List.mem_append.mp z with z | z
    · exact hb2 z
    · have z : b = lg := by simpa using z
      rw [z] at he
      rw [s1 _ _ he] at hlg; cases hlg
  · exact b4 _ _ (L3.notIns (b3 _ _ nll k6) (fun _ _ _ z => nomatch z)) (b3 _ _ nll k6)
  · exact b4 _ _ (L3.notIns (b3 _ _ nhl k7) (fun _ _ _ z => nomatch z)) (b3 _ _ nhl k7)
end
end K17

set_option Elab.async false
set_option linter.all false
set_option maxRecDepth 100000
set_option maxHeartbeats 0
namespace K17
open PySem PySem.Spec PyProof.Rows L2 RC
section
variable {P : Program} {w : World} {K : PySem.W.Frag} {mg : Str → Option Value} {base : Heap}
/-! ### children -/
/-- the root of the yard -/
def RootAt (K : PySem.W.Frag) (H : Hp) (y rt : Addr) (g : Addr → LG) : Prop := H rt = some (.ins (CL K) (g rt).d (lG (g rt) y "root" .non))
theorem lookup_mem : ∀ {es : Es} {t : Str} {a : Addr}, es.lookup t = some a → (t, a) ∈ es
  | [], _, _, h => nomatch h
  | e :: es, t, a, h => by
    rw [List.lookup_cons] at h
    by_cases c : t = e.1
    · rw [beq_iff_eq.mpr c] at h
      have h2 : e.2 = a := Option.some.inj h
      rw [c, ← h2]
      exact List.mem_cons_self
    · rw [show (t == e.1) = false from by simpa using c] at h
      exact List.mem_cons_of_mem _ (lookup_mem h)
theorem parIx_mem {es : Es} {parts : List Str} : ∀ {k : Nat} {a : Addr}, parIx es parts k = some a → ∃ t, (t, a) ∈ es
  | 0, _, h => nomatch h
  | k + 1, a, h => by
    have h : (match es.lookup (pre parts (k + 1)) with | some a => some a | none => parIx es parts k) = some a := h
    cases e : es.lookup (pre parts (k + 1)) with
    | some b =>
      rw [e] at h
      have h2 : b = a := Option.some.inj h
      rw [← h2]
      exact ⟨_, lookup_mem e⟩
    | none => rw [e] at h; exact parIx_mem h
theorem parA_cases (es : Es) (rt : Addr) (n : Str) : parA es rt n = rt ∨ ∃ t, (t, parA es rt n) ∈ es := by
  unfold parA
  cases e : parIx es (Txt.split n ".") ((Txt.split n ".").length - 1) with
  | none => exact .inl rfl
  | some a => exact .inr (parIx_mem e)
theorem par_ins {H : Hp} {y dy lm rt : Addr} {fs : List (Str × V)} {es : Es} {g : Addr → LG} (TR : Tree K H y dy lm rt fs es g) (R : RootAt K H y rt g) (n : Str) : ∃ d fs', H (parA es rt n) = some (.ins (CL K) d fs') := by
  rcases parA_cases es rt n with h | ⟨t, h⟩
  · rw [h]; exact ⟨_, _, R⟩
  · exact ⟨_, _, TR.lg _ h⟩
def cnt (x : Str) : Int := Txt.count x "."
def kidB (a rt : Addr) (nm n : Str) (p : Addr) : Bool := decide (cnt n = if a = rt then 0 else cnt nm + 1) && decide (p = a)
def spIsParent (K : PySem.W.Frag) : Sp := fun vs H Q _ => ∃ (a b y dy rt p d' : Addr) (fs fs' : List (Str × V)) (g : Addr → LG) (nm n : Str) (par : V), vs = [.ref a, .ref b] ∧ H y = some (.ins (CY K) dy fs) ∧ fs.lookup ("root" : Str) = some (.ref rt) ∧ RootAt K H y rt g ∧
  H a = some (.ins (CL K) (g a).d (lG (g a) y nm par)) ∧ H b = some (.ins (CL K) (g b).d (lG (g b) y n (.ref p))) ∧ H p = some (.ins (CL K) d' fs') ∧ Q (.bl (kidB a rt nm n p)) H
theorem ok_is_parent {f : Addr} (T : Txt P w K mg) (F : Stands K "is_parent_of" "Logger.is_parent_of" s_Logger_is_parent_of [] f) : Callable P w K mg base 1 f ["self", "other"] [] (spIsParent K) := by
  refine F.call0 sc_Logger_is_parent_of (fun vs H Q E h => ?_) (fun cdv A outer s H vs Q E hr h => ?_) (fun _ _ _ _ _ _ us hl => match us, hl with | [_, _], _ => rfl)
  · obtain ⟨a, b, y, dy, rt, p, d', fs, fs', g, nm, n, par, rfl, _⟩ := h; rfl
  obtain ⟨a, b, y, dy, rt, p, d', fs, fs', g, nm, n, par, rfl, hy, hroot, hR, ha, hb, hp, hQ⟩ := h
  refine ⟨_, (pss_cons (ps_set (i := 2) sc_Logger_is_parent_of.nd rfl (by first | exact Or.inl rfl | exact Or.inr rfl) (pe_ifExp (pt_cmpR (RA.op_eqP (Nat.lt_of_succ_lt (hu_of hr))) (pv 0) (pe_fld (pe_fld (pv 0) rfl) rfl) (nomark _)) pe_int (pe_op op_add (pe_m1 PySem.F.slot_str_count PySem.F.type_str_count mt_count (pe_fld (pv 0) rfl) pe_str) pe_int)))
      (pss_one (ps_ret (pe_and (pe_cmpR op_eq (pe_m1 PySem.F.slot_str_count PySem.F.type_str_count mt_count (pe_fld (pv 1) rfl) pe_str) (pv 2) (nomark _)) (pe_one (pe_cmpR (RA.op_eqP (Nat.lt_of_succ_lt (hu_of hr))) (pe_fld (pv 1) rfl) (pv 0) (nomark _))))))), ?_⟩
  have ia : RA.InsP K H a (CL K) := ⟨⟨_, _, ha⟩, T.p_Logger⟩
  have ir : RA.InsP K H rt (CL K) := ⟨⟨_, _, hR⟩, T.p_Logger⟩
  have ip : RA.InsP K H p (CL K) := ⟨⟨_, _, hp⟩, T.p_Logger⟩
  have tail : ∀ m : Int, (m = if a = rt then 0 else cnt nm + 1) → (if decide (V.int (cnt n) = V.int m) = true then Q (.bl (decide (p = a))) H else Q (.bl false) H) := fun m hm => by
    unfold kidB at hQ
    rw [← hm] at hQ
    by_cases c : cnt n = m
    · rw [decide_eq_true c, Bool.true_and] at hQ
      exact iteT' (decide_eq_true (congrArg V.int c)) hQ
    · rw [decide_eq_false c, Bool.false_and] at hQ
      exact iteF' (decide_eq_false fun z => c (V.int.inj z)) hQ
  refine ⟨_, rfl, _, rfl, a, _, _, _, _, rfl, ha, T.c_Logger, T.n_Logger_yard, rfl, y, _, dy, fs, _, rfl, hy, T.c_Yard, T.n_Yard_root, hroot, a, _, rfl, ia, .inr ⟨rt, _, rfl, ir, T.sub_Logger_Logger, _, rfl, ?_⟩⟩
  by_cases c : a = rt
  · refine iteT' (decide_eq_true c) ?_
    refine ⟨_, rfl, b, _, _, _, _, rfl, hb, T.c_Logger, T.n_Logger_name, rfl, ⟨_, rfl⟩, _, _, rfl, rfl, _, rfl, rfl, _, rfl, ?_⟩
    have t := tail 0 (by rw [if_pos c])
    by_cases cc : decide (V.int (cnt n) = V.int 0) = true
    · rw [if_pos cc] at t
      refine iteT' cc ?_
      exact ⟨_, rfl, b, _, _, _, _, rfl, hb, T.c_Logger, T.n_Logger_parent, rfl, _, rfl, p, _, rfl, ip, .inr ⟨a, _, rfl, ia, T.sub_Logger_Logger, t⟩⟩
    · rw [if_neg cc] at t
      exact iteF' (eq_false_of_ne_true cc) t
  · refine iteF' (decide_eq_false c) ?_
    refine ⟨_, rfl, a, _, _, _, _, rfl, ha, T.c_Logger, T.n_Logger_name, rfl, ⟨_, rfl⟩, _, _, rfl, rfl, _, 1, rfl, rfl, ?_⟩
    refine ⟨_, rfl, b, _, _, _, _, rfl, hb, T.c_Logger, T.n_Logger_name, rfl, ⟨_, rfl⟩, _, _, rfl, rfl, _, rfl, rfl, _, rfl, ?_⟩
    have t := tail (cnt nm + 1) (by rw [if_neg c])
    by_cases cc : decide (V.int (cnt n) = V.int (cnt nm + 1)) = true
    · rw [if_pos cc] at t
      refine iteT' cc ?_
      exact ⟨_, rfl, b, _, _, _, _, rfl, hb, T.c_Logger, T.n_Logger_parent, rfl, _, rfl, p, _, rfl, ip, .inr ⟨a, _, rfl, ia, T.sub_Logger_Logger, t⟩⟩
    · rw [if_neg cc] at t
      exact iteF' (eq_false_of_ne_true cc) t
end
end K17

set_option Elab.async false
set_option linter.all false
set_option maxRecDepth 100000
set_option maxHeartbeats 0
namespace K17
open PySem PySem.Spec PyProof.Rows L2 RC
section
variable {P : Program} {w : World} {K : PySem.W.Frag} {mg : Str → Option Value} {base : Heap}
/-! ### getChild, getChildren -/
def spGetChild (K : PySem.W.Frag) : Sp := fun vs H Q _ => ∃ (a y dy lm rt : Addr) (fs : List (Str × V)) (es : Es) (g : Addr → LG) (nm suf : Str) (par : V), vs = [.ref a, .str suf] ∧ Tree K H y dy lm rt fs es g ∧ RootAt K H y rt g ∧ H a = some (.ins (CL K) (g a).d (lG (g a) y nm par)) ∧
  ((a = rt ∧ spGetLog K [.ref y, .str suf] H Q E0) ∨ (a ≠ rt ∧ suf.cps.size ≤ 1000000 ∧ (Txt.split suf ".").length ≤ 1000000 ∧ (∀ u ∈ Txt.split suf ".", u.cps.size ≤ 1000000) ∧ (Txt.split suf ".").all partB = true ∧ nm.length + 1 + suf.length ≤ sizeLine ∧ ∀ H1, Same H H1 → spGetLog K [.ref y, .str (nm ++ "." ++ suf)] H1 Q E0))
theorem ok_getChild {f : Addr} (T : Txt P w K mg) (F : Stands K "getChild" "Logger.getChild" s_Logger_getChild [] f) (c_are_parts : Callable P w K mg base 2 (He.ga K "are_parts") ["thing"] [] spAreParts)
    (c_Yard_getLogger : Callable P w K mg base 4 (He.ma K (He.ga K "Yard") "getLogger") ["self", "name"] [] (spGetLog K)) : Callable P w K mg base 5 f ["self", "suffix"] [] (spGetChild K) := by
  refine F.call0 sc_Logger_getChild (fun vs H Q E h => ?_) (fun cdv A outer s H vs Q E hr h => ?_) (fun _ _ _ _ _ _ us hl => match us, hl with | [_, _], _ => rfl)
  · obtain ⟨a, y, dy, lm, rt, fs, es, g, nm, suf, par, rfl, _⟩ := h; rfl
  obtain ⟨a, y, dy, lm, rt, fs, es, g, nm, suf, par, rfl, TR, R, ha, h⟩ := h
  refine ⟨_, (pss_cons (ps_if (pt_cmpR (RA.op_eqP (Nat.lt_of_succ_lt (hu_of hr))) (pv 0) (pe_fld (pe_fld (pv 0) rfl) rfl) (nomark _)) (pss_one (ps_ret (pe_mt T.c_Yard T.m_Yard_getLogger c_Yard_getLogger (hr.mono (by decide)) (pe_fld (pv 0) rfl) (pa_cons (pv 1) pa_nil)))) pss_nil)
      (pss_cons (ps_if (pt_not (pt_val (pe_fn T.g_are_parts c_are_parts (hr.mono (by decide)) (by rfl) (pa_cons (pv 1) pa_nil)))) (pss_one ps_never) pss_nil)
      (pss_one (ps_ret (pe_mt T.c_Yard T.m_Yard_getLogger c_Yard_getLogger (hr.mono (by decide)) (pe_fld (pv 0) rfl) (pa_cons (pe_op op_add_str (pe_op op_add_str (pe_fld (pv 0) rfl) pe_str) (pv 1)) pa_nil)))))), ?_⟩
  have ia : RA.InsP K H a (CL K) := ⟨⟨_, _, ha⟩, T.p_Logger⟩
  have ir : RA.InsP K H rt (CL K) := ⟨⟨_, _, R⟩, T.p_Logger⟩
  refine ⟨_, rfl, _, rfl, a, _, _, _, _, rfl, ha, T.c_Logger, T.n_Logger_yard, rfl, y, _, dy, fs, _, rfl, TR.yd, T.c_Yard, T.n_Yard_root, TR.root, a, _, rfl, ia, .inr ⟨rt, _, rfl, ir, T.sub_Logger_Logger, _, rfl, ?_⟩⟩
  rcases h with ⟨c, h⟩ | ⟨c, z1, z2, z3, z4, z5, h⟩
  · refine iteT' (decide_eq_true c) ?_
    exact ⟨_, rfl, a, _, _, _, _, rfl, ha, T.c_Logger, T.n_Logger_yard, rfl, y, dy, fs, rfl, TR.yd, TR.ms, _, rfl, h⟩
  · refine iteF' (decide_eq_false c) ?_
    refine ⟨_, rfl, suf, rfl, z1, z2, z3, fun H1 s1 => ⟨_, rfl, iteF' (by rw [z4]; rfl) ?_⟩⟩
    have ha1 := s1 _ _ ha
    have e1 : (("." : Str)).length = 1 := rfl
    exact ⟨_, rfl, a, _, _, _, _, rfl, ha1, T.c_Logger, T.n_Logger_yard, rfl, y, dy, fs, rfl, s1 _ _ TR.yd, TR.ms, _, rfl, a, _, _, _, _, rfl, ha1, T.c_Logger, T.n_Logger_name, rfl, nm, ".", rfl, rfl, (by rw [e1]; omega), _, rfl, _, suf, rfl, rfl, (by rw [TL.len_tl (nm ++ "."), TL.tl_append, List.length_append, ← TL.len_tl, ← TL.len_tl, e1]; exact z5), h H1 s1⟩
def adr (es : Es) (n : Str) : Addr := (es.lookup n).getD 0
def kids (es : Es) (a rt : Addr) (nm : Str) (ys : List Str) : List Addr := (ys.filter fun n => kidB a rt nm n (parA es rt n)).map (adr es)
def spKids (K : PySem.W.Frag) : Sp := fun vs H Q _ => ∃ (a y dy lm rt : Addr) (fs : List (Str × V)) (es : Es) (g : Addr → LG) (nm : Str) (par : V), vs = [.ref a] ∧ Tree K H y dy lm rt fs es g ∧ RootAt K H y rt g ∧ H a = some (.ins (CL K) (g a).d (lG (g a) y nm par)) ∧ es.length < 64 ∧
  ∀ (H' : Hp) (l : Addr) (ys : List Str), Same H H' → ys.Perm (es.map (·.1)) → sortedS ys = true → H l = none → H' l = some (.lst ((kids es a rt nm ys).map V.ref)) → Q (.ref l) H'
theorem adr_mem {es : Es} {n : Str} (h : n ∈ es.map (·.1)) (nd : (es.map (·.1)).Nodup) : (n, adr es n) ∈ es ∧ es.lookup n = some (adr es n) := by
  obtain ⟨e, he, rfl⟩ := List.mem_map.mp h
  have l := lookup_nd he nd
  have e2 : adr es e.1 = e.2 := by unfold adr; rw [l]; rfl
  rw [e2]; exact ⟨he, l⟩
theorem ok_kids {f : Addr} (T : Txt P w K mg) (F : Stands K "getChildren" "Logger.getChildren" s_Logger_getChildren [] f) (c_Logger_is_parent_of : Callable P w K mg base 1 (He.ma K (He.ga K "Logger") "is_parent_of") ["self", "other"] [] (spIsParent K)) : Callable P w K mg base 2 f ["self"] [] (spKids K) := by
  refine F.call0 sc_Logger_getChildren (fun vs H Q E h => ?_) (fun cdv A outer s H vs Q E hr h => ?_) (fun _ _ _ _ _ _ us hl => match us, hl with | [_], _ => rfl)
  · obtain ⟨a, y, dy, lm, rt, fs, es, g, nm, par, rfl, _⟩ := h; rfl
  obtain ⟨a, y, dy, lm, rt, fs, es, g, nm, par, rfl, TR, R, ha, h64, hQ⟩ := h
  refine ⟨_, (pss_cons (ps_setLc (i := 1) (own := [("name", 2)]) (by rfl) sc_Logger_getChildren.nd rfl rfl (sw_true rfl rfl rfl (by decide +kernel)) (pi_list (pe_callB (call_sortedD rfl) (by rfl) T.b_sorted (by decide +kernel) (pa_cons (pe_fld (pe_fld (pv 0) rfl) rfl) pa_nil))) (blkOk_by (own := [("name", 2)]) (N := nm_Logger_getChildren) (sc := defScope s_Logger_getChildren) (by decide +kernel)) (fun _ _ _ _ _ => (pg_name (i := 2) sc_Logger_getChildren.nd rfl (by first | exact Or.inl rfl | exact Or.inr rfl))) (fun _ _ _ _ _ => pts_nil) (fun _ _ _ _ _ => (pe_dget (hu_of hr) (pe_fldK (K := K) (pe_fldK (K := K) (pv 0) rfl) rfl) (pv 2) (fun _ _ => rfl))))
      (pss_one (ps_ret (pe_lc (own := [("logger", 3)]) (by rfl) sc_Logger_getChildren.nd (pi_list (pv 1)) (blkOk_by (own := [("logger", 3)]) (N := nm_Logger_getChildren) (sc := defScope s_Logger_getChildren) (by decide +kernel)) (fun _ _ _ _ _ => (pg_name (i := 3) sc_Logger_getChildren.nd rfl (by first | exact Or.inl rfl | exact Or.inr rfl))) (fun _ _ _ _ _ => (pts_one (pt_val (pe_mt T.c_Logger T.m_Logger_is_parent_of c_Logger_is_parent_of (hr.mono (by decide)) (pv 0) (pa_cons (pv 3) pa_nil))))) (fun _ _ _ _ _ => (pv 3)))))), ?_⟩
  have ek : (lmK es).map (·.1) = (es.map (·.1)).map Sum.inr := by unfold lmK; rw [List.map_map, List.map_map]; rfl
  refine ⟨_, rfl, a, _, _, _, _, rfl, ha, T.c_Logger, T.n_Logger_yard, rfl, y, _, dy, fs, _, rfl, TR.yd, T.c_Yard, T.n_Yard_logger_map, TR.map, lm, _, es.map (·.1), rfl, .inl TR.lmo, ek, (by rw [List.length_map]; exact h64), fun ys p hperm hsort hp => ?_⟩
  have s1 : Same H (upd H p (.lst (ys.map V.str))) := same_new hp _
  have q1 : upd H p (.lst (ys.map V.str)) p = some (.lst (ys.map V.str)) := upd_same
  generalize upd H p (.lst (ys.map V.str)) = H1 at s1 q1
  have hlen : ys.length < 64 := by rw [hperm.length_eq, List.length_map]; exact h64
  refine ⟨p, rfl, ⟨_, SqL.of q1⟩, fun D hD => ?_⟩
  refine lc_it walk_list (fun i H' => Same H1 H' ∧ H' D = some (.lst ((ys.take i).map fun n => V.ref (adr es n)))) ⟨same_new hD _, upd_same⟩ (fun i H' _ h => SqL.of (h.1 _ _ q1)) (fun i x H2 H3 hi hP hx => ?_) (fun H2 hP => ?_)
  · obtain ⟨rfl, hx⟩ := hx
    obtain ⟨s2, d2⟩ := hP
    rw [List.getElem?_map] at hx
    obtain ⟨n, hn, rfl⟩ := Option.map_eq_some_iff.mp hx
    have hm := hperm.mem_iff.mp (List.mem_of_getElem? hn)
    have hl := (adr_mem hm TR.nd).2
    have s12 := s1.trans s2
    have ge := DGet.k (k := Sum.inr n) (s12 _ _ TR.lmo)
    rw [valV_lmK, hl] at ge
    refine ⟨rfl, yes_if ?_⟩
    refine ⟨_, rfl, a, _, _, _, _, rfl, s12 _ _ ha, T.c_Logger, T.n_Logger_yard, rfl, y, _, dy, fs, _, rfl, s12 _ _ TR.yd, T.c_Yard, T.n_Yard_logger_map, TR.map, _, rfl, lm, _, rfl, ge, _, d2, ?_, ?_, ?_⟩
    · rw [List.length_map, List.length_take, sizeLine_eq]; omega
    · intro b o hb
      rw [upd_ne (ne_of_none hb hD)]; exact s2 _ _ hb
    · rw [upd_same, take_more hn, List.map_append]; rfl
  · obtain ⟨s2, d2⟩ := hP
    rw [List.length_map, List.take_length] at d2
    have s12 := s1.trans s2
    refine ⟨_, rfl, D, rfl, ⟨_, SqL.of d2⟩, fun D2 hD2 => ?_⟩
    refine lc_it (walk_list (xs := ys.map fun n => V.ref (adr es n))) (fun i H' => Same H2 H' ∧ H' D2 = some (.lst (((ys.take i).filter fun n => kidB a rt nm n (parA es rt n)).map fun n => V.ref (adr es n)))) ⟨same_new hD2 _, upd_same⟩ (fun i H' _ h => SqL.of (h.1 _ _ d2)) (fun i x H3 H4 hi hP hx => ?_) (fun H3 hP => ?_)
    · obtain ⟨rfl, hx⟩ := hx
      obtain ⟨s3, d3⟩ := hP
      rw [List.getElem?_map] at hx
      obtain ⟨n, hn, rfl⟩ := Option.map_eq_some_iff.mp hx
      have hm := hperm.mem_iff.mp (List.mem_of_getElem? hn)
      have he := (adr_mem hm TR.nd).1
      have s13 := s12.trans s3
      obtain ⟨dp, fp, hpar⟩ := par_ins TR R n
      refine ⟨rfl, ?_⟩
      refine ⟨_, rfl, a, _, _, rfl, s13 _ _ ha, rfl, _, rfl, a, adr es n, y, dy, rt, _, _, fs, _, g, nm, n, par, rfl, s13 _ _ TR.yd, TR.root, s13 _ _ R, s13 _ _ ha, s13 _ _ (TR.lg _ he), s13 _ _ hpar, _, rfl, ?_⟩
      have et := take_more hn
      by_cases c : kidB a rt nm n (parA es rt n) = true
      · refine iteT' c ⟨_, rfl, _, d3, ?_, ?_, ?_⟩
        · have l1 : ((ys.take i).filter fun n => kidB a rt nm n (parA es rt n)).length ≤ (ys.take i).length := List.length_filter_le _ _
          rw [List.length_take] at l1
          rw [List.length_map, sizeLine_eq]; omega
        · intro b o hb
          rw [upd_ne (ne_of_none hb hD2)]; exact s3 _ _ hb
        · rw [upd_same, et, List.filter_append, List.map_append]
          simp [c]
      · refine iteF' (eq_false_of_ne_true c) ⟨s3, ?_⟩
        rw [d3, et, List.filter_append]
        simp [c]
    · obtain ⟨s3, d3⟩ := hP
      rw [List.length_map, List.take_length] at d3
      refine hQ _ D2 ys (s12.trans s3) hperm hsort (s12.free hD2) ?_
      rw [d3]; unfold kids; rw [List.map_map]; rfl
end
end K17

set_option Elab.async false
set_option linter.all false
set_option maxRecDepth 100000
set_option maxHeartbeats 0
namespace K17
open PySem PySem.Spec PyProof.Rows L2 RC
section
variable {P : Program} {w : World} {K : PySem.W.Frag} {mg : Str → Option Value} {base : Heap}
/-! ### one value, whichever way it came -/
theorem st_cont {te : TE} {g : TG} {rest : TS} {D : Ends} {σ : L2.St} {H : Hp} (R : V → Hp → Prop) (h : ∀ Q' : VK, (∀ v H', R v H' → Q' v H') → te σ H Q') (k : ∀ v H', R v H' → g v σ H' (rest D)) : tSeq (tAsg te g) rest D σ H := h _ k
theorem ne_self {K : PySem.W.Frag} {v : V} {H : Hp} {R : VK} (h : v = .non ∨ ∃ a C, v = .ref a ∧ RA.InsP K H a C) (q : R (.bl false) H) : rNe v v H R ∨ RA.rNeP K v v H R := by
  rcases h with rfl | ⟨a, C, rfl, i⟩
  · exact .inl ⟨rfl, q⟩
  · exact .inr ⟨a, C, a, C, rfl, i, rfl, i, .inl rfl, by rw [decide_eq_true rfl]; exact q⟩
theorem _root_.RC.Stm.ins {H : Hp} {s l : Addr} {n : Nat} (h : Stm H s l n) {a C d : Addr} {fs : List (Str × V)} (e : H a = some (.ins C d fs)) : a ≠ s ∧ a ≠ l := by
  obtain ⟨_, _, _, _, _, g1, g2, _⟩ := h
  exact ⟨fun z => (by rw [z, g1] at e; cases e), fun z => (by rw [z, g2] at e; cases e)⟩
theorem _root_.RC.Stm.dk {H : Hp} {s l : Addr} {n : Nat} (h : Stm H s l n) {a : Addr} {kvs : List (Key × V)} (e : H a = some (.dK kvs)) : a ≠ s ∧ a ≠ l := by
  obtain ⟨_, _, _, _, _, g1, g2, _⟩ := h
  exact ⟨fun z => (by rw [z, g1] at e; cases e), fun z => (by rw [z, g2] at e; cases e)⟩
end
end K17

set_option Elab.async false
set_option linter.all false
set_option maxRecDepth 100000
set_option maxHeartbeats 0
namespace K17
open PySem PySem.Spec PyProof.Rows L2 RC
section
variable {P : Program} {w : World} {K : PySem.W.Frag} {mg : Str → Option Value} {base : Heap}
/-! ### the law's own parent -/
theorem rd_same {H H' : Hp} {a : Addr} {o : HO} (h : Rd H a o) (s : Same H H') : Rd H' a o := by
  rcases h with h | ⟨u, h⟩
  · exact .inl (s _ _ h)
  · exact .inr ⟨u, s _ _ h⟩
theorem dget_rd {H : Hp} {a : Addr} {es : Es} {x : Str} (h : Rd H a (.dK (lmK es))) : DGet H a (.str x) ((es.lookup x).map V.ref) := .inl ⟨lmK es, Sum.inr x, h, rfl, (valV_lmK x es).symm⟩
def lawIx (es : Es) (parts : List Str) : Nat → Str
  | 0 => ""
  | k + 1 => if (es.lookup (pre parts (k + 1))).isSome = true then pre parts (k + 1) else lawIx es parts k
def lawPar (es : Es) (t : Str) : Str := lawIx es (Txt.split t ".") ((Txt.split t ".").length - 1)
def spLawParent : Sp := fun vs H Q _ => ∃ (k : Addr) (es : Es) (t : Str), vs = [.ref k, .str t] ∧ Rd H k (.dK (lmK es)) ∧ Sized t ∧ ∀ H', Same H H' → Q (.str (lawPar es t)) H'
theorem ok_law_parent {f : Addr} (T : Txt P w K mg) (F : Stands K "_law_parent" "_law_parent" s__law_parent [] f) : Callable P w K mg base 1 f ["_law_names", "_law_name_here"] [] spLawParent := by
  refine F.call0 sc__law_parent (fun vs H Q E h => ?_) (fun cdv A outer s H vs Q E hr h => ?_) (fun _ _ _ _ _ _ us hl => match us, hl with | [_, _], _ => rfl)
  · obtain ⟨k, es, t, rfl, _⟩ := h; rfl
  obtain ⟨k, es, t, rfl, hk, hz, hQ⟩ := h
  refine ⟨_, (pss_cons (ps_par (by rfl) sc__law_parent.nd (i := 2) (j := 3) rfl rfl (by decide) rfl rfl (pa_cons (pe_split (pv 1) pe_str) (pa_cons pe_str pa_nil)) (by rfl))
      (pss_cons (ps_for PassesOwn.never rfl (pi_range2 (by rfl) T.b_range (pa_cons pe_int (pa_cons (pe_callB call_len (by rfl) T.b_len (by decide +kernel) (pa_cons (pv 2) pa_nil)) pa_nil))) (pg_name (i := 4) sc__law_parent.nd rfl (by first | exact Or.inl rfl | exact Or.inr rfl)) (pss_cons (ps_set (i := 5) sc__law_parent.nd rfl (by first | exact Or.inl rfl | exact Or.inr rfl) (pe_join pe_str (pe_slice sl_list (pv 2) po_none (po_some (pv 4)))))
      (pss_one (ps_set (i := 3) sc__law_parent.nd rfl (by first | exact Or.inl rfl | exact Or.inr rfl) (pe_ifExp (pt_cmp (pc_din (hu_of hr) (pv 5) (pv 0))) (pv 5) (pv 3))))))
      (pss_one (ps_ret (pv 3))))), ?_⟩
  refine ⟨_, rfl, ⟨t, rfl⟩, t, ".", rfl, rfl, (by decide), (by rw [sizeLine_eq]; exact Nat.le_trans (Nat.add_le_add_right hz.all 2) (by decide)), fun p hp => ?_⟩
  have q1 : upd H p (.lst ((Txt.split t ".").map V.str)) p = some (.lst ((Txt.split t ".").map V.str)) := upd_same
  have s1 : Same H (upd H p (.lst ((Txt.split t ".").map V.str))) := same_new hp _
  generalize upd H p (.lst ((Txt.split t ".").map V.str)) = H1 at q1 s1
  unfold lawPar at hQ
  have hfew := hz.few
  have hshort := hz.short
  generalize Txt.split t "." = parts at hQ q1 hfew hshort
  refine ⟨_, _, rfl, ?_⟩
  refine ⟨_, rfl, .ref p, parts.length, rfl, .inl ⟨_, SqL.of q1, by rw [List.length_map]⟩, 1, _, rfl, ⟨by decide, by decide, by omega, by omega⟩, ?_⟩
  have en : ((parts.length : Int) - 1).toNat = parts.length - 1 := by omega
  rw [en]
  refine for_it walk_range (fun i σ H' => Same H1 H' ∧ ∃ o4 o5, σ = [some (.ref k), some (.str t), some (.ref p), some (.str (lawIx es parts i)), o4, o5]) ⟨Same.refl H1, _, _, rfl⟩ (fun _ _ _ _ _ => trivial) (fun i x σ H2 H3 hi hP hx => ?_) (fun σ H2 hP => ?_)
  · obtain ⟨rfl, rfl⟩ := hx
    obtain ⟨s2, o4, o5, rfl⟩ := hP
    have ek : (1 : Int) + (i : Nat) = ((i + 1 : Nat) : Int) := by omega
    dsimp only
    rw [ek]
    have s12 := s1.trans s2
    refine ⟨⟨".", rfl⟩, _, rfl, _, rfl, _, rfl, p, _, rfl, SqL.of (s2 _ _ q1), fun q hq => ?_⟩
    rw [cutV_take _ _ (by rw [List.length_map]; omega), ← List.map_take]
    have s3 := s2.trans (same_new hq (.lst ((parts.take (i + 1)).map V.str)))
    refine ⟨".", q, parts.take (i + 1), rfl, rfl, .inl (SqL.of upd_same), ?_, ?_⟩
    · have a := sum_take (i + 1) parts hshort
      have b : (parts.take (i + 1)).length ≤ parts.length := by rw [List.length_take]; omega
      have c : (("." : Str)).length = 1 := rfl
      rw [c]; omega
    refine ⟨_, rfl, _, rfl, k, _, rfl, dget_rd (x := pre parts (i + 1)) (rd_same hk (s1.trans s3)), _, rfl, ?_⟩
    by_cases c : (es.lookup (pre parts (i + 1))).isSome = true
    · have e : lawIx es parts (i + 1) = pre parts (i + 1) := by show (if _ then _ else _) = _; rw [if_pos c]
      exact iteT' (by rw [Option.isSome_map]; exact c) ⟨_, rfl, s3, some (.int ((i + 1 : Nat) : Int)), some (.str (pre parts (i + 1))), by rw [e]; rfl⟩
    · have e : lawIx es parts (i + 1) = lawIx es parts i := by show (if _ then _ else _) = _; rw [if_neg c]
      exact iteF' (by rw [Option.isSome_map]; exact eq_false_of_ne_true c) ⟨_, rfl, s3, some (.int ((i + 1 : Nat) : Int)), some (.str (pre parts (i + 1))), by rw [e]; rfl⟩
  · obtain ⟨s2, o4, o5, rfl⟩ := hP
    exact ⟨_, rfl, hQ _ (s1.trans s2)⟩
/-- a name of good parts -/
structure Good (t : Str) : Prop where
  sz : Sized t
  ps : (Txt.split t ".").all partB = true
theorem pre_ne {t : Str} (g : Good t) (k : Nat) (h : k + 1 ≤ (Txt.split t ".").length) : pre (Txt.split t ".") (k + 1) ≠ "" := by
  have hp := g.ps
  generalize Txt.split t "." = parts at hp h
  cases parts with
  | nil => exact absurd h (by simp)
  | cons p r =>
    have h1 : partB p = true := by rw [List.all_cons] at hp; exact (Bool.and_eq_true_iff.mp hp).1
    have h2 : p ≠ "" := by
      unfold partB at h1
      exact of_decide_eq_true (Bool.and_eq_true_iff.mp h1).1
    intro z
    have e : ((p :: r).take (k + 1)).map (·.length) = p.length :: (r.take k).map (·.length) := rfl
    have a := PyProof.Rows.len_join_ge_sum "." ((p :: r).take (k + 1))
    rw [e, List.sum_cons] at a
    unfold pre at z
    rw [z] at a
    have c : (("" : Str)).length = 0 := rfl
    rw [c] at a
    have l : p.length = 0 := by omega
    refine h2 (TL.ext_tl ?_)
    have b : (TL.tl p).length = 0 := by rw [← TL.len_tl]; exact l
    exact List.length_eq_zero_iff.mp b
/-- THE PLAIN LAW of parents: the law's own parent stands where the program's parent does -/
theorem lawPar_parA {es : Es} {rt : Addr} {t : Str} (g : Good t) (hn : ("" : Str) ∉ es.map (·.1)) : (("", rt) :: es : Es).lookup (lawPar (("", rt) :: es) t) = some (parA es rt t) := by
  unfold lawPar parA
  have key : ∀ k, k ≤ (Txt.split t ".").length → (("", rt) :: es : Es).lookup (lawIx (("", rt) :: es) (Txt.split t ".") k) = some ((parIx es (Txt.split t ".") k).getD rt) := by
    intro k
    induction k with
    | zero => intro _; show (("", rt) :: es : Es).lookup ("" : Str) = some rt; rw [List.lookup_cons, beq_self_eq_true]
    | succ k ih =>
      intro hk
      have hne := pre_ne g k hk
      have e1 : (("", rt) :: es : Es).lookup (pre (Txt.split t ".") (k + 1)) = es.lookup (pre (Txt.split t ".") (k + 1)) := by
        rw [List.lookup_cons, show (pre (Txt.split t ".") (k + 1) == ("" : Str)) = false from by simpa using hne]
      show (("", rt) :: es : Es).lookup (if ((("", rt) :: es : Es).lookup (pre (Txt.split t ".") (k + 1))).isSome = true then _ else _) = some ((match es.lookup (pre (Txt.split t ".") (k + 1)) with | some a => some a | none => parIx es (Txt.split t ".") k).getD rt)
      rw [e1]
      cases e : es.lookup (pre (Txt.split t ".") (k + 1)) with
      | some a => rw [if_pos (show (some a).isSome = true from rfl), e1, e]; rfl
      | none => rw [if_neg (by simp)]; exact ih (Nat.le_of_succ_le hk)
  exact key _ (Nat.sub_le _ _)
end
end K17

set_option Elab.async false
set_option linter.all false
set_option maxRecDepth 100000
set_option maxHeartbeats 0
namespace K17
open PySem PySem.Spec PyProof.Rows L2 RC
section
variable {P : Program} {w : World} {K : PySem.W.Frag} {mg : Str → Option Value} {base : Heap}
/-! ### the tree is right -/
/-- the names that the law knows: the root's, and those made -/
def kn (es : Es) (rt : Addr) : Es := (("" : Str), rt) :: es
def rn (n : Str) : Str := if n = "" then "root" else n
def parV (es : Es) (rt : Addr) (n : Str) : V := if n = "" then .non else .ref (parA es rt n)
structure Known (K : PySem.W.Frag) (H : Hp) (y dy lm rt : Addr) (fs : List (Str × V)) (es : Es) (g : Addr → LG) : Prop where
  tr : Tree K H y dy lm rt fs es g
  rt_ : RootAt K H y rt g
  good : ∀ e ∈ es, Good e.1
  ne : ∀ e ∈ es, e.1 ≠ "" ∧ e.1 ≠ "root"
  few : es.length ≤ 50
section
variable {H H' : Hp} {y dy lm rt k : Addr} {fs : List (Str × V)} {es : Es} {g : Addr → LG}
theorem Known.same (N : Known K H y dy lm rt fs es g) (s : Same H H') : Known K H' y dy lm rt fs es g where
  tr := ⟨s _ _ N.tr.yd, N.tr.root, N.tr.map, N.tr.ms, s _ _ N.tr.lmo, N.tr.nd, N.tr.sz, fun e he => s _ _ (N.tr.lg e he)⟩
  rt_ := s _ _ N.rt_
  good := N.good
  ne := N.ne
  few := N.few
theorem Known.but (N : Known K H y dy lm rt fs es g) {kvs : List (Key × V)} (hk : H k = some (.dK kvs)) (hl : lm ≠ k) (s : ∀ b o, b ≠ k → H b = some o → H' b = some o) : Known K H' y dy lm rt fs es g := by
  have ins : ∀ {a C d : Addr} {fs : List (Str × V)}, H a = some (.ins C d fs) → a ≠ k := fun e z => by rw [z, hk] at e; cases e
  exact ⟨⟨s _ _ (ins N.tr.yd) N.tr.yd, N.tr.root, N.tr.map, N.tr.ms, s _ _ hl N.tr.lmo, N.tr.nd, N.tr.sz, fun e he => s _ _ (ins (N.tr.lg e he)) (N.tr.lg e he)⟩, s _ _ (ins N.rt_) N.rt_, N.good, N.ne, N.few⟩
theorem Known.nonil (N : Known K H y dy lm rt fs es g) : ("" : Str) ∉ es.map (·.1) := fun z => by
  obtain ⟨e, he, z⟩ := List.mem_map.mp z
  exact (N.ne e he).1 z
theorem Known.nd (N : Known K H y dy lm rt fs es g) : ((kn es rt).map (·.1)).Nodup := List.nodup_cons.mpr ⟨N.nonil, N.tr.nd⟩
theorem Known.at_ (N : Known K H y dy lm rt fs es g) {e : Str × Addr} (he : e ∈ kn es rt) : H e.2 = some (.ins (CL K) (g e.2).d (lG (g e.2) y (rn e.1) (parV es rt e.1))) := by
  rcases List.mem_cons.mp he with rfl | he
  · exact N.rt_
  · have h := N.tr.lg e he
    unfold rn parV
    rw [if_neg (N.ne e he).1, if_neg (N.ne e he).1]; exact h
theorem Known.inj (N : Known K H y dy lm rt fs es g) {e e' : Str × Addr} (he : e ∈ kn es rt) (he' : e' ∈ kn es rt) (z : e.2 = e'.2) : e.1 = e'.1 := by
  have a := N.at_ he
  have b := N.at_ he'
  rw [z, b] at a
  have c : rn e'.1 = rn e.1 := lG_name (HO.ins.inj (Option.some.inj a)).2.2
  unfold rn at c
  rcases List.mem_cons.mp he with rfl | h1
  · rcases List.mem_cons.mp he' with rfl | h2
    · rfl
    · rw [if_neg (N.ne e' h2).1, if_pos rfl] at c
      exact absurd c (N.ne e' h2).2
  · rcases List.mem_cons.mp he' with rfl | h2
    · rw [if_neg (N.ne e h1).1, if_pos rfl] at c
      exact absurd c.symm (N.ne e h1).2
    · rw [if_neg (N.ne e h1).1, if_neg (N.ne e' h2).1] at c
      exact c.symm
theorem Known.root_iff (N : Known K H y dy lm rt fs es g) {e : Str × Addr} (he : e ∈ kn es rt) : e.2 = rt ↔ e.1 = "" := by
  constructor
  · intro z; exact N.inj he (e' := (("" : Str), rt)) List.mem_cons_self z
  · intro z
    rcases List.mem_cons.mp he with rfl | h
    · rfl
    · exact absurd z (N.ne e h).1
/-- the law's own parent is e just where the program's is -/
theorem Known.par_iff (N : Known K H y dy lm rt fs es g) {e : Str × Addr} (he : e ∈ kn es rt) {n : Str} (hn : n ∈ es.map (·.1)) : lawPar (kn es rt) n = e.1 ↔ parA es rt n = e.2 := by
  obtain ⟨e', he', rfl⟩ := List.mem_map.mp hn
  have h := lawPar_parA (rt := rt) (N.good e' he') N.nonil
  have m := lookup_mem h
  constructor
  · intro z
    rw [show (("", rt) :: es : Es) = kn es rt from rfl, z, lookup_nd he N.nd] at h
    exact (Option.some.inj h).symm
  · intro z; exact N.inj (e := (lawPar (kn es rt) e'.1, parA es rt e'.1)) m he z
end
def dep (n : Str) : Int := if n = "" then 0 else cnt n + 1
/-- the children by the law are those of the program -/
theorem kids_eq {H : Hp} {y dy lm rt : Addr} {fs : List (Str × V)} {es : Es} {g : Addr → LG} (N : Known K H y dy lm rt fs es g) {e : Str × Addr} (he : e ∈ kn es rt) {ys zs : List Str} (h1 : ys.Perm (es.map (·.1))) (h2 : sortedS ys = true)
    (h3 : zs.Perm (((kn es rt).map (·.1)).filter fun n => decide (n ≠ ("" : Str)) && decide (cnt n = dep e.1))) (h4 : sortedS zs = true) :
    kids es e.2 rt (rn e.1) ys = (zs.filter fun n => decide (lawPar (kn es rt) n = e.1)).map (adr (kn es rt)) := by
  have e0 : ((kn es rt).map (·.1)).filter (fun n => decide (n ≠ ("" : Str)) && decide (cnt n = dep e.1)) = (es.map (·.1)).filter fun n => decide (cnt n = dep e.1) := by
    show ((("" : Str) :: es.map (·.1)).filter _) = _
    rw [List.filter_cons, if_neg (by simp)]
    refine List.filter_congr fun n hn => ?_
    obtain ⟨e', he', rfl⟩ := List.mem_map.mp hn
    rw [decide_eq_true (N.ne e' he').1, Bool.true_and]
  rw [e0] at h3
  rw [RE.sorted_filter h1 h2 h3 h4, List.filter_filter]
  unfold kids
  have e1 : ys.filter (fun n => kidB e.2 rt (rn e.1) n (parA es rt n)) = ys.filter fun n => decide (lawPar (kn es rt) n = e.1) && decide (cnt n = dep e.1) := by
    refine List.filter_congr fun n hn => ?_
    have hm := h1.mem_iff.mp hn
    have i := N.par_iff he hm
    have e2 : (if e.2 = rt then 0 else cnt (rn e.1) + 1) = dep e.1 := by
      unfold dep rn
      by_cases c : e.1 = ""
      · rw [if_pos ((N.root_iff he).mpr c), if_pos c]
      · rw [if_neg (fun z => c ((N.root_iff he).mp z)), if_neg c, if_neg c]
    unfold kidB
    rw [e2, Bool.and_comm]
    congr 1
    rw [Bool.eq_iff_iff, decide_eq_true_eq, decide_eq_true_eq]
    exact i.symm
  rw [e1]
  refine List.map_congr_left fun n hn => ?_
  have hm := h1.mem_iff.mp (List.mem_filter.mp hn).1
  have h5 : n ≠ "" := by
    obtain ⟨e', he', rfl⟩ := List.mem_map.mp hm
    exact (N.ne e' he').1
  unfold adr kn
  rw [List.lookup_cons, show (n == ("" : Str)) = false from by simpa using h5]
end
end K17

set_option Elab.async false
set_option linter.all false
set_option maxRecDepth 100000
set_option maxHeartbeats 0
namespace K17
open PySem PySem.Spec PyProof.Rows L2 RC
section
variable {P : Program} {w : World} {K : PySem.W.Frag} {mg : Str → Option Value} {base : Heap}
def spRight (K : PySem.W.Frag) : Sp := fun vs H Q _ => ∃ (y k dy lm rt : Addr) (fs : List (Str × V)) (es : Es) (g : Addr → LG), vs = [.ref y, .ref k] ∧ Known K H y dy lm rt fs es g ∧ H k = some (.dK (lmK (kn es rt))) ∧ lm ≠ k ∧ ∀ H', Same H H' → Q (.bl true) H'
theorem ok_right {f : Addr} (T : Txt P w K mg) (F : Stands K "_law_are_right" "_law_are_right" s__law_are_right [] f) (c__law_parent : Callable P w K mg base 1 (He.ga K "_law_parent") ["_law_names", "_law_name_here"] [] spLawParent)
    (c_Logger_getChildren : Callable P w K mg base 2 (He.ma K (He.ga K "Logger") "getChildren") ["self"] [] (spKids K)) : Callable P w K mg base 3 f ["_law_yard", "_law_known"] [] (spRight K) := by
  refine F.call0 sc__law_are_right (fun vs H Q E h => ?_) (fun cdv A outer s H vs Q E hr h => ?_) (fun _ _ _ _ _ _ us hl => match us, hl with | [_, _], _ => rfl)
  · obtain ⟨y, k, dy, lm, rt, fs, es, g, rfl, _⟩ := h; rfl
  obtain ⟨y, k, dy, lm, rt, fs, es, g, rfl, N, hk, hlk, hQ⟩ := h
  refine ⟨_, (pss_cons (ps_lock (ps_for PassesOwn.never rfl (pi_keys (pv 1)) (pg_name (i := 2) sc__law_are_right.nd rfl (by first | exact Or.inl rfl | exact Or.inr rfl)) (pss_cons (ps_set (i := 3) sc__law_are_right.nd rfl (by first | exact Or.inl rfl | exact Or.inr rfl) (pe_ifExp (pt_cmpR op_eq (pv 2) pe_str (nomark _)) pe_non (pe_dget (hu_of hr) (pv 1) (pe_fn T.g__law_parent c__law_parent (hr.mono (by decide)) (by rfl) (pa_cons (pv 1) (pa_cons (pv 2) pa_nil))) (fun _ _ => rfl))))
      (pss_cons (ps_if (pt_cmpR (op_ne.or (RA.op_neP (hu_of hr))) (pe_fld (pe_dget (hu_of hr) (pv 1) (pv 2) (fun _ _ => rfl)) rfl) (pv 3) (nomark _)) (pss_one (ps_ret pe_bl)) pss_nil)
      (pss_cons (ps_set (i := 4) sc__law_are_right.nd rfl (by first | exact Or.inl rfl | exact Or.inr rfl) (pe_ifExp (pt_cmpR op_eq (pv 2) pe_str (nomark _)) pe_int (pe_op op_add (pe_m1 PySem.F.slot_str_count PySem.F.type_str_count mt_count (pv 2) pe_str) pe_int)))
      (pss_cons (ps_set (i := 5) sc__law_are_right.nd rfl (by first | exact Or.inl rfl | exact Or.inr rfl) (pe_callB cr_sortedS (by rfl) T.b_sorted (by decide +kernel) (pa_cons (pe_lc (own := [("_law_one", 6)]) (by rfl) sc__law_are_right.nd (pi_keys (pv 1)) (blkOk_by (own := [("_law_one", 6)]) (N := nm__law_are_right) (sc := defScope s__law_are_right) (by decide +kernel)) (fun _ _ _ _ _ => (pg_name (i := 6) sc__law_are_right.nd rfl (by first | exact Or.inl rfl | exact Or.inr rfl))) (fun _ _ _ _ _ => (pts_one (PW.pt (pw_and (pt_cmpR op_ne (pv 6) pe_str (nomark _)) (pw_and1 (pt_cmpR op_eq (pe_m1 PySem.F.slot_str_count PySem.F.type_str_count mt_count (pv 6) pe_str) (pv 4) (nomark _))))))) (fun _ _ _ _ _ => (pv 6))) pa_nil)))
      (pss_cons (ps_setLc (i := 7) (own := [("_law_one", 6)]) (by rfl) sc__law_are_right.nd rfl rfl (sw_true rfl rfl rfl (by decide +kernel)) (pi_list (pv 5)) (blkOk_by (own := [("_law_one", 6)]) (N := nm__law_are_right) (sc := defScope s__law_are_right) (by decide +kernel)) (fun _ _ _ _ _ => (pg_name (i := 6) sc__law_are_right.nd rfl (by first | exact Or.inl rfl | exact Or.inr rfl))) (fun _ _ _ _ _ => (pts_one (pt_cmpR op_eq (pe_fn T.g__law_parent c__law_parent (hr.mono (by decide)) (by rfl) (pa_cons (pv 1) (pa_cons (pv 6) pa_nil))) (pv 2) (nomark _)))) (fun _ _ _ _ _ => (pe_dget (hu_of hr) (pv 1) (pv 6) (fun _ _ => rfl))))
      (pss_cons (ps_set (i := 8) sc__law_are_right.nd rfl (by first | exact Or.inl rfl | exact Or.inr rfl) (pe_mt0 T.c_Logger T.m_Logger_getChildren c_Logger_getChildren (hr.mono (by decide)) (pe_dget (hu_of hr) (pv 1) (pv 2) (fun _ _ => rfl))))
      (pss_cons (ps_if (PW.pt (pw_or (pt_not (pt_val (pe_callB call_isi (by rfl) T.b_isinstance (by decide +kernel) (pa_cons (pv 8) (pa_cons (pe_bltn (v := .ty "list") (u := .type "list") (by rfl) T.b_list (by decide +kernel) rfl) pa_nil))))) (pw_or1 (pt_cmpR (RD.op_neRefs (Nat.lt_of_succ_lt (hu_of hr))) (pv 8) (pv 7) (nomark _))))) (pss_one (ps_ret pe_bl)) pss_nil)
      (pss_cons (ps_expr (pe_bm PySem.F.plainAttrs_list PySem.F.slot_list_append PySem.F.type_list_append mt_append (pv 8) (pa_cons (pv 0) pa_nil)))
      (pss_one (ps_if (pt_cmpR (RD.op_neRefs (Nat.lt_of_succ_lt (hu_of hr))) (pe_mt0 T.c_Logger T.m_Logger_getChildren c_Logger_getChildren (hr.mono (by decide)) (pe_dget (hu_of hr) (pv 1) (pv 2) (fun _ _ => rfl))) (pv 7) (nomark _)) (pss_one (ps_ret pe_bl)) pss_nil))))))))))))
      (pss_one (ps_ret pe_bl))), ?_⟩
  refine ⟨k, _, hk, trivial, fun od => ?_⟩
  have k0 : upd H k (.frz od (.dK (lmK (kn es rt)))) k = some (.frz od (.dK (lmK (kn es rt)))) := upd_same
  have N0 : Known K (upd H k (.frz od (.dK (lmK (kn es rt))))) y dy lm rt fs es g := N.but hk hlk (fun b o h1 h2 => by rw [upd_ne h1]; exact h2)
  have back : ∀ H', Same (upd H k (.frz od (.dK (lmK (kn es rt))))) H' → Same H (upd H' k (.dK (lmK (kn es rt)))) := fun H' s b o e => by
    by_cases c : b = k
    · subst c; rw [upd_same]; rw [← hk]; exact e
    · rw [upd_ne c]; exact s _ _ (by rw [upd_ne c]; exact e)
  generalize upd H k (.frz od (.dK (lmK (kn es rt)))) = H0 at k0 N0 back
  refine ⟨_, rfl, k, od, rfl, .inl ⟨_, k0, ?_⟩⟩
  refine for_it walk_keys (fun i σ H' => Same H0 H' ∧ ∃ o2 o3 o4 o5 o6 o7 o8, σ = [some (.ref y), some (.ref k), o2, o3, o4, o5, o6, o7, o8]) ⟨Same.refl H0, _, _, _, _, _, _, _, rfl⟩ (fun i σ H' _ h => h.1 _ _ k0) (fun i x σ H9 H1 hi hP hx => ?_) (fun σ H1 hP => ?_)
  · obtain ⟨rfl, kx, vx, hx, rfl⟩ := hx
    obtain ⟨s1, o2, o3, o4, o5, o6, o7, o8, rfl⟩ := hP
    have N1 := N0.same s1
    have k1 := s1 _ _ k0
    have hx' : ((kn es rt)[i]?.map fun e : Str × Addr => ((Sum.inr e.1 : Key), V.ref e.2)) = some (kx, vx) := by rw [← List.getElem?_map]; exact hx
    obtain ⟨e, he0, hee⟩ := Option.map_eq_some_iff.mp hx'
    cases hee
    have he : e ∈ kn es rt := List.mem_of_getElem? he0
    have hE := N1.at_ he
    have lke : (kn es rt).lookup e.1 = some e.2 := lookup_nd he N.nd
    have gete : ∀ {H : Hp}, Same H1 H → DGet H k (.str e.1) (some (.ref e.2)) := fun s => by
      have g := dget_rd (x := e.1) (rd_same (.inr ⟨od, k1⟩ : Rd H1 k (.dK (lmK (kn es rt)))) s)
      rw [lke] at g; exact g
    -- above
    dsimp only
    refine st_cont (fun v H' => v = parV es rt e.1 ∧ Same H1 H') (fun Q' k' => ?_) (fun v H2 r => ?_)
    · refine ⟨_, rfl, rfl, _, rfl, ?_⟩
      by_cases c : e.1 = ""
      · exact iteT' (decide_eq_true (congrArg V.str c)) (k' _ _ ⟨by unfold parV; rw [if_pos c], Same.refl H1⟩)
      · refine iteF' (decide_eq_false fun z => c (V.str.inj z)) ?_
        have he' : e ∈ es := by
          rcases List.mem_cons.mp he with rfl | h
          · exact absurd rfl c
          · exact h
        have gd := N1.good e he'
        refine ⟨_, rfl, _, rfl, _, rfl, k, kn es rt, e.1, rfl, .inr ⟨od, k1⟩, gd.sz, fun H2 s2 => ⟨k, _, rfl, ?_, k' _ _ ⟨by unfold parV; rw [if_neg c], s2⟩⟩⟩
        have g := dget_rd (x := lawPar (kn es rt) e.1) (rd_same (.inr ⟨od, k1⟩ : Rd H1 k (.dK (lmK (kn es rt)))) s2)
        rw [show (kn es rt).lookup (lawPar (kn es rt) e.1) = some (parA es rt e.1) from lawPar_parA gd N1.nonil] at g
        exact g
    obtain ⟨rfl, s2⟩ := r
    have s12 := s1.trans s2
    have N2 := N1.same s2
    have par_i : ∀ {H : Hp}, Known K H y dy lm rt fs es g → (parV es rt e.1 = .non ∨ ∃ a C, parV es rt e.1 = .ref a ∧ RA.InsP K H a C) := fun N => by
      unfold parV
      by_cases c : e.1 = ""
      · rw [if_pos c]; exact .inl rfl
      · rw [if_neg c]
        obtain ⟨d, f2, h⟩ := par_ins N.tr N.rt_ e.1
        exact .inr ⟨_, _, rfl, ⟨_, _, h⟩, T.p_Logger⟩
    dsimp only [gName]
    refine ⟨_, rfl, _, rfl, k, _, rfl, gete s2, e.2, _, _, _, _, rfl, N2.at_ he, T.c_Logger, T.n_Logger_parent, rfl, _, rfl, ne_self (par_i N2) ⟨_, rfl, iteF' rfl ?_⟩⟩
    -- depth
    dsimp only [tNext]
    refine st_cont (fun v H' => v = V.int (dep e.1) ∧ H' = H2) (fun Q' k' => ?_) (fun v H' r => ?_)
    · refine ⟨_, rfl, rfl, _, rfl, ?_⟩
      by_cases c : e.1 = ""
      · exact iteT' (decide_eq_true (congrArg V.str c)) (k' _ _ ⟨by unfold dep; rw [if_pos c], rfl⟩)
      · refine iteF' (decide_eq_false fun z => c (V.str.inj z)) ⟨_, rfl, ⟨_, rfl⟩, _, ".", rfl, rfl, _, 1, rfl, rfl, k' _ _ ⟨by unfold dep; rw [if_neg c]; rfl, rfl⟩⟩
    obtain ⟨rfl, rfl⟩ := r
    -- below
    dsimp only [gName]
    have k2 := s12 _ _ k0
    refine ⟨_, rfl, k, od, rfl, .inl ⟨_, k2, fun D hD => ?_⟩⟩
    have lnk : (lmK (kn es rt)).length = ((kn es rt).map (·.1)).length := by unfold lmK; rw [List.length_map, List.length_map]
    have lk50 : ((kn es rt).map (·.1)).length ≤ 51 := by rw [List.length_map]; show es.length + 1 ≤ 51; have := N.few; omega
    refine lc_it walk_keys (fun j H3 => Same H' H3 ∧ H3 D = some (.lst (((((kn es rt).map (·.1)).take j).filter fun n => decide (n ≠ ("" : Str)) && decide (cnt n = dep e.1)).map V.str))) ⟨same_new hD _, upd_same⟩ (fun j H3 _ h => h.1 _ _ k2) (fun j x H9 H3 hj hP hx => ?_) (fun H3 hP => ?_)
    · obtain ⟨rfl, kx, vx, hx, rfl⟩ := hx
      obtain ⟨s3, d3⟩ := hP
      have hx' : ((kn es rt)[j]?.map fun e : Str × Addr => ((Sum.inr e.1 : Key), V.ref e.2)) = some (kx, vx) := by rw [← List.getElem?_map]; exact hx
      obtain ⟨u, hu, huu⟩ := Option.map_eq_some_iff.mp hx'
      cases huu
      have hu2 : ((kn es rt).map (·.1))[j]? = some u.1 := by rw [List.getElem?_map, hu]; rfl
      have et := take_more hu2
      refine ⟨rfl, _, rfl, rfl, _, rfl, ?_⟩
      by_cases c : u.1 = ""
      · refine iteF' (by show (!decide (V.str u.1 = V.str "")) = false; rw [c]; simp) (iteF' rfl ⟨s3, ?_⟩)
        rw [d3, et, List.filter_append]
        simp [c]
      · refine iteT' (by show (!decide (V.str u.1 = V.str "")) = true; simp [c]) ⟨_, rfl, ⟨_, rfl⟩, _, ".", rfl, rfl, _, rfl, rfl, _, rfl, ?_⟩
        by_cases c2 : cnt u.1 = dep e.1
        · refine iteT' (decide_eq_true (congrArg V.int c2)) ⟨_, rfl, _, d3, ?_, ?_, ?_⟩
          · have l1 : ((((kn es rt).map (·.1)).take j).filter fun n => decide (n ≠ ("" : Str)) && decide (cnt n = dep e.1)).length ≤ (((kn es rt).map (·.1)).take j).length := List.length_filter_le _ _
            rw [List.length_take] at l1
            rw [List.length_map, sizeLine_eq]; omega
          · intro b o hb
            rw [upd_ne (ne_of_none hb hD)]; exact s3 _ _ hb
          · rw [upd_same, et, List.filter_append, List.map_append]
            simp [c, c2]
            rfl
        · refine iteF' (decide_eq_false fun z => c2 (V.int.inj z)) ⟨s3, ?_⟩
          rw [d3, et, List.filter_append]
          simp [c, c2]
    obtain ⟨s3, d3⟩ := hP
    rw [lnk, List.take_length] at d3
    have lf : (((kn es rt).map (·.1)).filter fun n => decide (n ≠ ("" : Str)) && decide (cnt n = dep e.1)).length ≤ 51 := Nat.le_trans (List.length_filter_le _ _) lk50
    refine ⟨D, _, rfl, SqL.of d3, by omega, fun zs p hzp hzs hp => ?_⟩
    have s4 := s3.trans (same_new hp (.lst (zs.map V.str)))
    have p4 : upd H3 p (.lst (zs.map V.str)) p = some (.lst (zs.map V.str)) := upd_same
    generalize upd H3 p (.lst (zs.map V.str)) = H4 at s4 p4
    have zl : zs.length ≤ 51 := by rw [hzp.length_eq]; exact lf
    -- due
    refine ⟨_, rfl, p, rfl, ⟨_, SqL.of p4⟩, fun D2 hD2 => ?_⟩
    refine lc_it (walk_list (xs := zs.map V.str)) (fun j H5 => Same H4 H5 ∧ H5 D2 = some (.lst (((zs.take j).filter fun n => decide (lawPar (kn es rt) n = e.1)).map fun n => V.ref (adr (kn es rt) n)))) ⟨same_new hD2 _, upd_same⟩ (fun j H5 _ h => SqL.of (h.1 _ _ p4)) (fun j x H9 H5 hj hP hx => ?_) (fun H5 hP => ?_)
    · obtain ⟨rfl, hx⟩ := hx
      obtain ⟨s5, d5⟩ := hP
      rw [List.getElem?_map] at hx
      obtain ⟨n, hn, rfl⟩ := Option.map_eq_some_iff.mp hx
      rw [List.length_map] at hj
      have hm := List.mem_filter.mp (hzp.mem_iff.mp (List.mem_of_getElem? hn))
      have hne : n ≠ "" := of_decide_eq_true (Bool.and_eq_true_iff.mp hm.2).1
      have hme : n ∈ es.map (·.1) := by
        rcases List.mem_cons.mp hm.1 with z | z
        · exact absurd z hne
        · exact z
      obtain ⟨w0, hw, hwn⟩ := List.mem_map.mp hme
      have lk := (adr_mem hm.1 N.nd).2
      have et := take_more hn
      have s05 := (s12.trans s4).trans s5
      refine ⟨rfl, _, rfl, _, rfl, k, kn es rt, n, rfl, .inr ⟨od, s05 _ _ k0⟩, hwn ▸ (N.good w0 hw).sz, fun H6 s6 => ⟨_, rfl, rfl, _, rfl, ?_⟩⟩
      by_cases c : lawPar (kn es rt) n = e.1
      · refine iteT' (decide_eq_true (congrArg V.str c)) ⟨_, rfl, _, rfl, k, .ref (adr (kn es rt) n), rfl, ?_, _, s6 _ _ d5, ?_, ?_, ?_⟩
        · have g := dget_rd (x := n) (.inr ⟨od, (s05.trans s6) _ _ k0⟩ : Rd H6 k (.dK (lmK (kn es rt))))
          rw [lk] at g; exact g
        · have l1 : ((zs.take j).filter fun n => decide (lawPar (kn es rt) n = e.1)).length ≤ (zs.take j).length := List.length_filter_le _ _
          rw [List.length_take] at l1
          rw [List.length_map, sizeLine_eq]; omega
        · intro b o hb
          rw [upd_ne (ne_of_none hb hD2)]; exact s6 _ _ (s5 _ _ hb)
        · rw [upd_same, et, List.filter_append, List.map_append]
          simp [c]
      · refine iteF' (decide_eq_false fun z => c (V.str.inj z)) ⟨s5.trans s6, ?_⟩
        rw [s6 _ _ d5, et, List.filter_append]
        simp [c]
    obtain ⟨s5, d5⟩ := hP
    rw [List.length_map, List.take_length] at d5
    have s05 := (s12.trans s4).trans s5
    have N5 := N0.same s05
    have es64 : es.length < 64 := by have := N.few; omega
    have due_kids : ∀ ys : List Str, ys.Perm (es.map (·.1)) → sortedS ys = true → (kids es e.2 rt (rn e.1) ys).map V.ref = ((zs.filter fun n => decide (lawPar (kn es rt) n = e.1)).map (adr (kn es rt))).map V.ref := fun ys h1 h2 => by rw [kids_eq N he h1 h2 hzp hzs]
    have d5' : H5 D2 = some (.lst (((zs.filter fun n => decide (lawPar (kn es rt) n = e.1)).map (adr (kn es rt))).map V.ref)) := by rw [d5, List.map_map]; rfl
    -- found
    refine ⟨_, rfl, _, rfl, k, _, rfl, gete (s2.trans (s4.trans s5)), e.2, _, _, rfl, N5.at_ he, rfl, e.2, y, dy, lm, rt, fs, es, g, _, _, rfl, N5.tr, N5.rt_, N5.at_ he, es64, fun H6 l6 ys s6 hy1 hy2 hl6 h6 => ?_⟩
    rw [due_kids ys hy1 hy2] at h6
    refine ⟨_, rfl, _, _, _, _, true, rfl, .ty _, .base (.lst h6), kit_ty (b := "list") (by decide +kernel), _, rfl, iteF' rfl ?_⟩
    refine ⟨_, rfl, _, rfl, l6, D2, _, rfl, rfl, SqL.of h6, SqL.of (s6 _ _ d5'), _, rfl, iteF' rfl ?_⟩
    -- append
    have lz : ((zs.filter fun n => decide (lawPar (kn es rt) n = e.1)).map (adr (kn es rt))).length ≤ 51 := by rw [List.length_map]; exact Nat.le_trans (List.length_filter_le _ _) zl
    refine ⟨_, rfl, .inl ⟨rfl, _, SqL.of h6⟩, _, rfl, l6, _, _, rfl, rfl, h6, (by rw [List.length_map, sizeLine_eq]; omega), ?_⟩
    have s7 : Same H5 (upd H6 l6 (.lst ((((zs.filter fun n => decide (lawPar (kn es rt) n = e.1)).map (adr (kn es rt))).map V.ref) ++ [.ref y]))) := fun b o hb => by
      rw [upd_ne (ne_of_none hb hl6)]; exact s6 _ _ hb
    generalize upd H6 l6 _ = H7 at s7
    have N7 := N5.same s7
    refine ⟨_, rfl, _, rfl, k, _, rfl, gete (s2.trans (s4.trans (s5.trans s7))), e.2, _, _, rfl, N7.at_ he, rfl, e.2, y, dy, lm, rt, fs, es, g, _, _, rfl, N7.tr, N7.rt_, N7.at_ he, es64, fun H8 l8 ys s8 hy1 hy2 hl8 h8 => ?_⟩
    rw [due_kids ys hy1 hy2] at h8
    exact ⟨_, rfl, l8, D2, _, rfl, rfl, SqL.of h8, SqL.of (s8 _ _ (s7 _ _ d5')), _, rfl, iteF' rfl ⟨s05.trans (s7.trans s8), _, _, _, _, _, _, _, rfl⟩⟩
  · obtain ⟨s1, o2, o3, o4, o5, o6, o7, o8, rfl⟩ := hP
    exact ⟨s1 _ _ k0, hQ _ (back _ s1)⟩
end
end K17

set_option Elab.async false
set_option linter.all false
set_option maxRecDepth 100000
set_option maxHeartbeats 0
namespace K17
open PySem PySem.Spec PyProof.Rows L2 RC
section
variable {P : Program} {w : World} {K : PySem.W.Frag} {mg : Str → Option Value} {base : Heap}
/-! ### the names that the law makes -/
def parts6 : List Str := ["root", "a", "b", "ab", "A", "_1"]
/-- a name as the law makes it, of the parts qs -/
structure Nm (qs : List Str) : Prop where
  in6 : ∀ p ∈ qs, p ∈ parts6
  pos : 1 ≤ qs.length
  few : qs.length ≤ 5
  noroot : qs ≠ (["root"] : List Str)
theorem in6_dot : ∀ p ∈ parts6, (46 : Nat) ∉ TL.tl p := by decide +kernel
theorem in6_part : ∀ p ∈ parts6, partB p = true := by decide +kernel
theorem in6_len : ∀ p ∈ parts6, p.length ≤ 4 := by decide +kernel
theorem in6_ne : ∀ p ∈ parts6, p ≠ "" := by decide +kernel
theorem split_in6 {qs : List Str} (h : ∀ p ∈ qs, p ∈ parts6) (hp : 1 ≤ qs.length) : Txt.split (Txt.join "." qs) "." = qs :=
  TL.split_join (y := ".") (s := 46) (S := []) (by rfl) (by decide +kernel) (fun z => by rw [z] at hp; exact absurd hp (by decide)) (fun p hq => in6_dot p (h p hq))
theorem sum6 : ∀ qs : List Str, (∀ p ∈ qs, p ∈ parts6) → (qs.map (·.length)).sum ≤ qs.length * 4
  | [], _ => Nat.le_refl _
  | p :: r, h => by
    have i1 := sum6 r (fun z hz => h z (List.mem_cons_of_mem _ hz))
    have i2 := in6_len p (h p List.mem_cons_self)
    simp only [List.map_cons, List.sum_cons, List.length_cons]
    omega
theorem len6 {qs : List Str} (h : ∀ p ∈ qs, p ∈ parts6) (hf : qs.length ≤ 5) : (Txt.join "." qs).length ≤ 25 := by
  refine Nat.le_trans (join_size "." qs) ?_
  have e1 : (("." : Str)).length = 1 := rfl
  have e2 := sum6 qs h
  rw [e1]; omega
theorem good6 {qs : List Str} (h : ∀ p ∈ qs, p ∈ parts6) (hp : 1 ≤ qs.length) (hf : qs.length ≤ 5) : Good (Txt.join "." qs) := by
  have hs := split_in6 h hp
  have l := len6 h hf
  refine ⟨⟨Nat.le_trans l (by decide), by rw [hs]; omega, fun u hu => ?_⟩, ?_⟩
  · rw [hs] at hu
    have : u.length ≤ 4 := in6_len u (h u hu)
    exact Nat.le_trans this (by decide)
  · rw [hs, List.all_eq_true]
    exact fun p hp => in6_part p (h p hp)
theorem Nm.good {qs : List Str} (n : Nm qs) : Good (Txt.join "." qs) := good6 n.in6 n.pos n.few
theorem Nm.ne {qs : List Str} (n : Nm qs) : Txt.join "." qs ≠ "" ∧ Txt.join "." qs ≠ "root" := by
  have hs := split_in6 n.in6 n.pos
  constructor
  · intro z
    rw [z] at hs
    have e : Txt.split ("" : Str) "." = ([""] : List Str) := by decide +kernel
    rw [e] at hs
    exact in6_ne "" (n.in6 "" (by rw [← hs]; exact List.mem_cons_self)) rfl
  · intro z
    rw [z] at hs
    have e : Txt.split ("root" : Str) "." = (["root"] : List Str) := by decide +kernel
    rw [e] at hs
    exact n.noroot hs.symm
theorem join_cons (q r : Str) (rs : List Str) : Txt.join "." (q :: r :: rs) = q ++ "." ++ Txt.join "." (r :: rs) := by
  rw [TL.join_eq, TL.join_eq]; rfl
theorem join_one (q : Str) : Txt.join "." [q] = q := by rw [TL.join_eq]; rfl
theorem part_one {q : Str} (h : q ∈ parts6) : Txt.partition (Txt.join "." [q]) "." = (q, Str.empty, Str.empty) := by
  rw [join_one]
  exact TL.partition_none (y := ".") (s := 46) (S := []) (by rfl) (in6_dot q h)
theorem part_more {q r : Str} {rs : List Str} (h : q ∈ parts6) : Txt.partition (Txt.join "." (q :: r :: rs)) "." = (q, ((".": Str), Txt.join "." (r :: rs)) ) := by
  rw [join_cons]
  exact TL.partition_app (y := ".") (s := 46) (S := []) (by rfl) (in6_dot q h)
theorem in56 : ∀ p ∈ parts5, p ∈ parts6 := by decide +kernel
theorem nm_plain {ps : List Str} (h : ∀ p ∈ ps, p ∈ parts5) (h1 : 1 ≤ ps.length) (h2 : ps.length ≤ 4) : Nm ps := by
  refine ⟨fun p hp => in56 p (h p hp), h1, by omega, fun z => ?_⟩
  have := h "root" (by rw [z]; exact List.mem_cons_self)
  exact absurd this (by decide +kernel)
theorem nm_root {ps : List Str} (h : ∀ p ∈ ps, p ∈ parts5) (h1 : 1 ≤ ps.length) (h2 : ps.length ≤ 4) : Nm (("root" : Str) :: ps) := by
  refine ⟨fun p hp => ?_, by simp, by simp only [List.length_cons]; omega, fun z => ?_⟩
  · rcases List.mem_cons.mp hp with rfl | hp
    · exact List.mem_cons_self
    · exact in56 p (h p hp)
  · have := congrArg List.length z
    simp only [List.length_cons, List.length_nil] at this
    omega
theorem join_root {ps : List Str} (h1 : 1 ≤ ps.length) : ("root." : Str) ++ Txt.join "." ps = Txt.join "." (("root" : Str) :: ps) := by
  cases ps with
  | nil => exact absurd h1 (by decide)
  | cons r rs =>
    rw [join_cons]
    refine TL.ext_tl ?_
    rw [TL.tl_append, TL.tl_append, TL.tl_append]
    rfl
theorem mul_root (b : Bool) : Txt.mul ("root." : Str) (if b = true then 1 else 0) = (if b = true then "root." else "") := by
  cases b <;> decide +kernel
theorem mul_ok (b : Bool) : MulOk ("root." : Str) (if b = true then 1 else 0) := by
  cases b
  · refine ⟨by decide, fun h => absurd (show (0 : Int) < 1 by decide) h, fun h => absurd (show (0 : Int) < 1 by decide) h⟩
  · exact ⟨by decide, fun _ h => absurd h (by decide), fun _ h => absurd h (by decide)⟩
theorem nil_app (x : Str) : ("" : Str) ++ x = x := by
  refine TL.ext_tl ?_
  rw [TL.tl_append]; rfl
end
end K17

set_option Elab.async false
set_option linter.all false
set_option maxRecDepth 100000
set_option maxHeartbeats 0
namespace K17
open PySem PySem.Spec PyProof.Rows L2 RC
section
variable {P : Program} {w : World} {K : PySem.W.Frag} {mg : Str → Option Value} {base : Heap}
/-! ### the law's state -/
structure KS (K : PySem.W.Frag) (H : Hp) (s l y k dy lm rt : Addr) (fs : List (Str × V)) (es : Es) (g : Addr → LG) (n : Nat) : Prop where
  stm : Stm H s l n
  kn_ : Known K H y dy lm rt fs es g
  kd : H k = some (.dK (lmK (kn es rt)))
  lk : lm ≠ k
section
variable {H H' : Hp} {s l y k dy lm rt : Addr} {fs : List (Str × V)} {es : Es} {g : Addr → LG} {n m : Nat}
theorem Known.to (N : Known K H y dy lm rt fs es g) (s : ∀ b o, (∀ xs, o ≠ .lst xs) → H b = some o → H' b = some o) : Known K H' y dy lm rt fs es g :=
  ⟨⟨s _ _ (fun _ z => nomatch z) N.tr.yd, N.tr.root, N.tr.map, N.tr.ms, s _ _ (fun _ z => nomatch z) N.tr.lmo, N.tr.nd, N.tr.sz, fun e he => s _ _ (fun _ z => nomatch z) (N.tr.lg e he)⟩, s _ _ (fun _ z => nomatch z) N.rt_, N.good, N.ne, N.few⟩
theorem old_lst (st : Stm H s l n) (o : Old s l H H') : ∀ b u, (∀ xs, u ≠ .lst xs) → H b = some u → H' b = some u := fun b u hu e => by
  obtain ⟨_, _, _, _, _, g1, g2, _⟩ := st
  exact o b u (fun z => by rw [z, g1] at e; exact hu _ (Option.some.inj e).symm) (fun z => by rw [z, g2] at e; exact hu _ (Option.some.inj e).symm) e
theorem KS.old (S : KS K H s l y k dy lm rt fs es g n) (o : Old s l H H') (st : Stm H' s l m) : KS K H' s l y k dy lm rt fs es g m :=
  ⟨st, S.kn_.to (old_lst S.stm o), old_lst S.stm o _ _ (fun _ z => nomatch z) S.kd, S.lk⟩
theorem KS.same (S : KS K H s l y k dy lm rt fs es g n) (o : Same H H') : KS K H' s l y k dy lm rt fs es g n := S.old (Old.of_same o) (S.stm.same o)
theorem KS.mono (S : KS K H s l y k dy lm rt fs es g n) (h : n ≤ m) : KS K H s l y k dy lm rt fs es g m := ⟨S.stm.mono h, S.kn_, S.kd, S.lk⟩
/-- what the law stores behind a logger's making -/
theorem putK_lmK_same : ∀ {es : Es} {t : Str} {a : Addr}, es.lookup t = some a → (es.map (·.1)).Nodup → putK (lmK es) (Sum.inr t) (V.ref a) = lmK es := by
  intro es t a h nd
  unfold putK
  have hm := lookup_mem h
  rw [if_pos]
  · unfold lmK
    rw [List.map_map]
    refine List.map_congr_left fun e he => ?_
    show (if (Sum.inr e.1 : Key) = Sum.inr t then ((Sum.inr e.1 : Key), V.ref a) else ((Sum.inr e.1 : Key), V.ref e.2)) = _
    by_cases c : e.1 = t
    · rw [if_pos (congrArg Sum.inr c)]
      have e2 := lookup_nd he nd
      rw [c, h] at e2
      rw [Option.some.inj e2]
    · rw [if_neg (fun z => c (Sum.inr.inj z))]
  · exact List.any_eq_true.mpr ⟨((Sum.inr t : Key), V.ref a), List.mem_map_of_mem (f := fun e : Str × Addr => ((Sum.inr e.1 : Key), V.ref e.2)) hm, decide_eq_true rfl⟩
theorem putK_lmK_new {es : Es} {t : Str} {a : Addr} (h : es.lookup t = none) : putK (lmK es) (Sum.inr t) (V.ref a) = lmK (es ++ [(t, a)]) := by
  unfold putK
  rw [if_neg ?_]
  · unfold lmK; rw [List.map_append]; rfl
  · intro z
    obtain ⟨kv, h1, h2⟩ := List.any_eq_true.mp z
    obtain ⟨e, he, rfl⟩ := List.mem_map.mp h1
    exact lookup_none h (by rw [← Sum.inr.inj (of_decide_eq_true h2)]; exact List.mem_map_of_mem he)
theorem kn_lookup {t : Str} (h : t ≠ "") : (kn es rt).lookup t = es.lookup t := by
  unfold kn
  rw [List.lookup_cons, show (t == ("" : Str)) = false from by simpa using h]
/-- a logger was got and is to be stored -/
theorem get_step (S : KS K H s l y k dy lm rt fs es g n) (hes : es.length ≤ 40) {t : Str} (gd : Good t) (hne : t ≠ "" ∧ t ≠ "root") {Q : VK}
    (h : ∀ (H' : Hp) (a : Addr) (es' : Es) (g' : Addr → LG), H' k = some (.dK (lmK (kn es rt))) → es'.length ≤ es.length + 1 → KS K (upd H' k (.dK (putK (lmK (kn es rt)) (Sum.inr t) (V.ref a)))) s l y k dy lm rt fs es' g' n → Q (.ref a) H') : spGetLog K [.ref y, .str t] H Q E0 := by
  have N := S.kn_
  refine ⟨y, dy, lm, rt, fs, es, g, t, rfl, N.tr, by omega, hne.1, hne.2, gd.sz, gd.ps, ?_⟩
  have ksd : ∀ {H' : Hp} {o : HO}, Stm H' s l n → H' k = some (.dK (lmK (kn es rt))) → Stm (upd H' k o) s l n := fun st e => by
    have nk := st.dk e
    exact st.put nk.1 nk.2
  cases hl : es.lookup t with
  | some a =>
    refine .inl ⟨a, rfl, fun H' s' => h H' a es g (s' _ _ S.kd) (by omega) ?_⟩
    have S' := S.same s'
    have e : upd H' k (.dK (putK (lmK (kn es rt)) (Sum.inr t) (V.ref a))) = H' := by
      rw [putK_lmK_same (by rw [kn_lookup hne.1]; exact hl) N.nd]
      funext b
      by_cases c : b = k
      · subst c; rw [upd_same]; exact (s' _ _ S.kd).symm
      · rw [upd_ne c]
    rw [e]; exact S'
  | none =>
    refine .inr ⟨rfl, fun H' a q NL T' => h H' a (es ++ [(t, a)]) (updG g a q) ?_ (by simp) ?_⟩
    · exact NL.kp _ _ (Ne.symm S.lk) (N.tr.lg.notIns S.kd (fun _ _ _ z => nomatch z)) S.kd
    · have hk' := NL.kp _ _ (Ne.symm S.lk) (N.tr.lg.notIns S.kd (fun _ _ _ z => nomatch z)) S.kd
      have lst : ∀ b xs, H b = some (.lst xs) → H' b = some (.lst xs) := fun b xs e => NL.kp _ _ (fun z => by rw [z, N.tr.lmo] at e; cases e) (N.tr.lg.notIns e (fun _ _ _ z => nomatch z)) e
      have st' : Stm H' s l n := by
        obtain ⟨ne, ns, x, c, d, g1, g2, g3⟩ := S.stm
        exact ⟨ne, ns, x, c, d, lst _ _ g1, lst _ _ g2, g3⟩
      have nroot : rt ∉ es.map (·.2) := fun z => by
        obtain ⟨e, he, z⟩ := List.mem_map.mp z
        have := N.inj (e := e) (e' := (("" : Str), rt)) (List.mem_cons_of_mem _ he) List.mem_cons_self z
        exact (N.ne e he).1 this
      have nrl : rt ≠ lm := fun z => by have e := N.rt_; unfold RootAt at e; rw [z, N.tr.lmo] at e; cases e
      have nra : rt ≠ a := fun z => by have e := N.rt_; unfold RootAt at e; rw [z, NL.a0] at e; cases e
      have R' : RootAt K H' y rt (updG g a q) := by
        unfold RootAt updG
        rw [if_neg nra]
        exact NL.kp _ _ nrl nroot N.rt_
      have K' : Known K H' y dy lm rt fs (es ++ [(t, a)]) (updG g a q) := by
        refine ⟨T', R', fun e he => ?_, fun e he => ?_, by rw [List.length_append, List.length_singleton]; omega⟩
        · rcases List.mem_append.mp he with he | he
          · exact N.good e he
          · cases List.mem_singleton.mp he; exact gd
        · rcases List.mem_append.mp he with he | he
          · exact N.ne e he
          · cases List.mem_singleton.mp he; exact hne
      refine ⟨ksd st' hk', K'.but hk' S.lk (fun b o h1 h2 => by rw [upd_ne h1]; exact h2), ?_, S.lk⟩
      rw [upd_same, putK_lmK_new (by rw [kn_lookup hne.1]; exact hl)]; rfl
end
theorem st_if {tt : TT} {A B : TS} {rest : TS} {D : Ends} {σ : L2.St} {H : Hp} (R : L2.St → Hp → Prop) (h : ∀ D' : Ends, (∀ σ H', R σ H' → D'.nx σ H') → tIfS tt A B D' σ H) (k : ∀ σ H', R σ H' → rest D σ H') : tSeq (tIfS tt A B) rest D σ H := h _ k
end
end K17

set_option Elab.async false
set_option linter.all false
set_option maxRecDepth 100000
set_option maxHeartbeats 0
namespace K17
open PySem PySem.Spec PyProof.Rows L2 RC
section
variable {P : Program} {w : World} {K : PySem.W.Frag} {mg : Str → Option Value} {base : Heap}
theorem ne6 {qs : List Str} (h : ∀ p ∈ qs, p ∈ parts6) (hp : 1 ≤ qs.length) : Txt.join "." qs ≠ "" := by
  have hs := split_in6 h hp
  intro z
  rw [z] at hs
  have e : Txt.split ("" : Str) "." = ([""] : List Str) := by decide +kernel
  rw [e] at hs
  exact in6_ne "" (h "" (by rw [← hs]; exact List.mem_cons_self)) rfl
abbrev sg (a s y k : Addr) (o4 o5 o6 o7 o8 : Option V) : L2.St := [some (.ref a), some (.ref s), some (.ref y), some (.ref k), o4, o5, o6, o7, o8]
section
variable {H : Hp} {a s l y k dy lm rt : Addr} {fs : List (Str × V)} {es : Es} {g : Addr → LG} {n i : Nat} {o4 o6 o7 o8 : Option V} {t : Str}
/-- what stands behind a turn's store -/
def Aft (K : PySem.W.Frag) (s l y k dy lm rt : Addr) (fs : List (Str × V)) (n m : Nat) (σ0 : L2.St) : L2.St → Hp → Prop := fun σ H => σ = σ0 ∧ ∃ es g, KS K H s l y k dy lm rt fs es g n ∧ es.length ≤ m
theorem law_else (S : KS K H s l y k dy lm rt fs es g n) (hi : es.length ≤ i) (h40 : i ≤ 40) (gd : Good t) (hne : t ≠ "" ∧ t ≠ "root") (D : Ends)
    (h : ∀ σ H', Aft K s l y k dy lm rt fs n (i + 1) (sg a s y k o4 (some (.str t)) o6 o7 o8) σ H' → D.nx σ H') :
    sDPut (tVar 3) (tVar 5) (tMeth (He.ga K "Yard") "getLogger" (spGetLog K) [] E0 (tVar 2) (tCons (tVar 5) tNil)) D (sg a s y k o4 (some (.str t)) o6 o7 o8) H := by
  refine ⟨_, rfl, y, dy, fs, rfl, S.kn_.tr.yd, S.kn_.tr.ms, _, rfl, ?_⟩
  dsimp only [tNil]
  show spGetLog K [.ref y, .str t] H _ E0
  refine get_step S (by omega) gd hne fun H' b es' g' hk hl S' => ?_
  have l1 : (lmK (kn es rt)).length < sizeLine := by unfold lmK; rw [List.length_map]; show es.length + 1 < sizeLine; rw [sizeLine_eq]; omega
  exact ⟨_, rfl, _, rfl, k, _, rfl, DPut.k (k := Sum.inr t) hk l1, h _ _ ⟨rfl, es', g', S', by omega⟩⟩
theorem law_then {q rest : Str} {b : Addr} (S : KS K H s l y k dy lm rt fs es g n) (hi : es.length ≤ i) (h40 : i ≤ 40) (gd : Good t) (hne : t ≠ "" ∧ t ≠ "root") (hq : q ≠ "") (hb : (kn es rt).lookup q = some b) (ht : q ++ "." ++ rest = t) (gr : Good rest) (hlen : q.length + 1 + rest.length ≤ 1000) (D : Ends)
    (h : ∀ σ H', Aft K s l y k dy lm rt fs n (i + 1) (sg a s y k o4 (some (.str t)) (some (.str q)) o7 (some (.str rest))) σ H' → D.nx σ H') :
    sDPut (tVar 3) (tVar 5) (tMeth (He.ga K "Logger") "getChild" (spGetChild K) [] E0 (tDGet (tVar 3) (tVar 6)) (tCons (tVar 8) tNil)) D (sg a s y k o4 (some (.str t)) (some (.str q)) o7 (some (.str rest))) H := by
  have N := S.kn_
  have l1 : (lmK (kn es rt)).length < sizeLine := by unfold lmK; rw [List.length_map]; show es.length + 1 < sizeLine; rw [sizeLine_eq]; omega
  have hm := lookup_mem hb
  have hE := N.at_ hm
  have hnr : b ≠ rt := fun z => hq ((N.root_iff hm).mp z)
  have hrn : rn q = q := by unfold rn; rw [if_neg hq]
  have gk : DGet H k (.str q) (some (.ref b)) := by
    have g := dget_rd (x := q) (.inl S.kd : Rd H k (.dK (lmK (kn es rt))))
    rw [hb] at g; exact g
  refine ⟨_, rfl, _, rfl, k, .ref b, rfl, gk, b, _, _, rfl, hE, rfl, _, rfl, b, y, dy, lm, rt, fs, es, g, rn q, rest, _, rfl, N.tr, N.rt_, hE, .inr ⟨hnr, gr.sz.all, Nat.le_trans gr.sz.few (by decide), (fun u hu => Nat.le_trans (gr.sz.short u hu) (by decide)), gr.ps, (by rw [hrn, sizeLine_eq]; omega), fun H1 s1 => ?_⟩⟩
  rw [hrn, ht]
  have S1 := S.same s1
  refine get_step S1 (by omega) gd hne fun H' c es' g' hk hl S' => ?_
  exact ⟨_, rfl, _, rfl, k, _, rfl, DPut.k (k := Sum.inr t) hk l1, h _ _ ⟨rfl, es', g', S', by omega⟩⟩
end
def spLaw (K : PySem.W.Frag) : Sp := fun vs H Q _ => ∃ (a : Addr) (ns : List Int), vs = [.ref a] ∧ ns.length ≤ 63 ∧ SqL K H a (ns.map V.int) ∧ ∀ H', Q (.bl true) H'
theorem law_body (T : Txt P w K mg) {f : Addr} {cdv : Value} {A : Around} {outer : List Env} {st0 : Shared} {E : XK} {vs : List V} {H : Hp} {Q : VK} (hr : Room 6 (A.deeper (envOfC "law" (defScope s_law) st0.heap.objs.size f cdv))) (hsp : spLaw K vs H Q E)
    (c__law_draw : Callable P w K mg base 1 (He.ga K "_law_draw") ["_law_s", "_law_many"] [] spDraw)
    (c__law_name : Callable P w K mg base 3 (He.ga K "_law_name") ["_law_s", "_law_most"] [] spName)
    (c__law_are_right : Callable P w K mg base 3 (He.ga K "_law_are_right") ["_law_yard", "_law_known"] [] (spRight K))
    (c_Yard_init_d1 : Callable P w K mg base 5 (He.ma K (He.ga K "Yard") "__init__") ["self", "now"] [.int 0] (spYardInit K))
    (c_Yard_getLogger : Callable P w K mg base 4 (He.ma K (He.ga K "Yard") "getLogger") ["self", "name"] [] (spGetLog K))
    (c_Logger_getChild : Callable P w K mg base 5 (He.ma K (He.ga K "Logger") "getChild") ["self", "suffix"] [] (spGetChild K)) :
    ∃ t, PSs (cxOf CX0 P w K mg base nm_law "law" (defScope s_law) f cdv A outer st0 H E).nox (defBody s_law) t ∧ t { nx := fun _ H' => Q .non H', rt := Q } (start nm_law vs) H := by
  obtain ⟨a, ns, rfl, hn, hS, hQ⟩ := hsp
  refine ⟨_, (pss_cons (ps_set (i := 1) sc_law.nd rfl (by first | exact Or.inl rfl | exact Or.inr rfl) (pe_lst (pa_cons (pe_callTy call_list_of (by rfl) T.b_list (by decide +kernel) (pa_cons (pv 0) pa_nil)) (pa_cons pe_int (pa_cons pe_int (pa_cons pe_int pa_nil))))))
      (pss_cons (ps_set (i := 2) sc_law.nd rfl (by first | exact Or.inl rfl | exact Or.inr rfl) (pe_mk0 T.k_Yard T.g_Yard c_Yard_init_d1 (hr.mono (by decide)) (by rfl)))
      (pss_cons (ps_set (i := 3) sc_law.nd rfl (by first | exact Or.inl rfl | exact Or.inr rfl) (pe_disp (pps_cons pe_str (pe_fld (pv 2) rfl) pps_nil) (by rfl) (by rfl) (fun z => by cases z) (by decide)))
      (pss_cons (ps_for PassesOwn.never rfl (pi_range1 (by rfl) T.b_range (pa_cons (pe_op op_add pe_int (pe_fn T.g__law_draw c__law_draw (hr.mono (by decide)) (by rfl) (pa_cons (pv 1) (pa_cons pe_int pa_nil)))) pa_nil)) (pg_name (i := 4) sc_law.nd rfl (by first | exact Or.inl rfl | exact Or.inr rfl)) (pss_cons (ps_set (i := 5) sc_law.nd rfl (by first | exact Or.inl rfl | exact Or.inr rfl) (pe_op op_add_str (pe_op RD.op_mulS pe_str (pe_callTy call_int1 (by rfl) T.b_int (by decide +kernel) (pa_cons (pe_cmpR op_eq (pe_fn T.g__law_draw c__law_draw (hr.mono (by decide)) (by rfl) (pa_cons (pv 1) (pa_cons pe_int pa_nil))) pe_int (nomark _)) pa_nil))) (pe_fn T.g__law_name c__law_name (hr.mono (by decide)) (by rfl) (pa_cons (pv 1) (pa_cons pe_int pa_nil)))))
      (pss_cons (ps_asg (pe_partition (pv 5) pe_str) (pg_tup (by rfl) (pgs_cons (pg_name (i := 6) sc_law.nd rfl (by first | exact Or.inl rfl | exact Or.inr rfl)) (pgs_cons (pg_name (i := 7) sc_law.nd rfl (by first | exact Or.inl rfl | exact Or.inr rfl)) (pgs_cons (pg_name (i := 8) sc_law.nd rfl (by first | exact Or.inl rfl | exact Or.inr rfl)) pgs_nil)))))
      (pss_cons (ps_if (PW.pt (pw_and (pt_cmpR op_ne (pv 8) pe_str (nomark _)) (pw_and (pt_cmpR op_eq (pe_fn T.g__law_draw c__law_draw (hr.mono (by decide)) (by rfl) (pa_cons (pv 1) (pa_cons pe_int pa_nil))) pe_int (nomark _)) (pw_and1 (pt_cmp (pc_din (hu_of hr) (pv 6) (pv 3))))))) (pss_one (ps_dput (hu_of hr) (pv 3) (pv 5) (pe_mt T.c_Logger T.m_Logger_getChild c_Logger_getChild (hr.mono (by decide)) (pe_dget (hu_of hr) (pv 3) (pv 6) (fun _ _ => rfl)) (pa_cons (pv 8) pa_nil)) rfl)) (pss_one (ps_dput (hu_of hr) (pv 3) (pv 5) (pe_mt T.c_Yard T.m_Yard_getLogger c_Yard_getLogger (hr.mono (by decide)) (pv 2) (pa_cons (pv 5) pa_nil)) rfl)))
      (pss_one (ps_if (pt_not (pt_val (pe_fn T.g__law_are_right c__law_are_right (hr.mono (by decide)) (by rfl) (pa_cons (pv 2) (pa_cons (pv 3) pa_nil))))) (pss_one (ps_ret pe_bl)) pss_nil))))))
      (pss_one (ps_ret (pe_cmpR op_isN (pe_fld (pe_fld (pv 2) rfl) rfl) pe_non (nomark _)))))))), ?_⟩
  refine ⟨_, rfl, a, ns.map V.int, rfl, .inl hS, fun l hl => ⟨(by show 4 ≤ sizeLine; decide), fun s hs => ?_⟩⟩
  have st1 : Stm (upd (upd H l (.lst (ns.map V.int))) s (.lst [.ref l, .int 0, .int 0, .int 0])) s l 0 := by
    have n1 := (upd_none hs).1
    exact ⟨n1, ns, 0, 0, 0, upd_same, by rw [upd_ne (Ne.symm n1)]; exact upd_same, hn, by decide, by decide, by decide, by decide, by decide⟩
  generalize upd (upd H l (.lst (ns.map V.int))) s (.lst [.ref l, .int 0, .int 0, .int 0]) = H1 at st1
  -- the yard
  intro y dy hy hdy hne
  refine ⟨y, dy, 0, rfl, upd_same, fun H2 Y N => ⟨rfl, ?_⟩⟩
  obtain ⟨rd, ld, F⟩ := id N.fr
  have S12 : Same H1 H2 := made_same hy hdy F.kp
  have glm := (F.has (Y.lm, .dK []) (by simp [YParts.L])).2.2
  have grt := (F.has (Y.rt, .ins (CL K) rd (lF Y.rl y "root" 30 Y.rh .non)) (by simp [YParts.L])).2.2
  -- what is known
  intro k hk
  have t3 := same_new hk (.dK [])
  refine ⟨_, rfl, y, _, dy, _, _, rfl, t3 _ _ N.y, T.c_Yard, T.n_Yard_root, rfl, upd_same, [((Sum.inr "" : Key), .ref Y.rt)], rfl, (by show 1 ≤ 15; decide), ?_⟩
  rw [upd_upd]
  have S0 : KS K (upd H2 k (.dK (mergeK [] [((Sum.inr "" : Key), V.ref Y.rt)]))) s l y k dy Y.lm Y.rt (yF 0 Y.st Y.fi Y.na Y.nu Y.lm Y.md Y.hn Y.fr Y.rt Y.lr) [] (fun _ => ⟨rd, Y.rl, Y.rh, 30, true, false⟩) 0 := by
    have s4 := same_new hk (.dK (mergeK [] [((Sum.inr "" : Key), V.ref Y.rt)]))
    refine ⟨(st1.same S12).same s4, ⟨⟨s4 _ _ N.y, rfl, rfl, rfl, s4 _ _ glm, List.nodup_nil, (fun _ h => nomatch h), (fun _ h => nomatch h)⟩, s4 _ _ grt, (fun _ h => nomatch h), (fun _ h => nomatch h), by decide⟩, upd_same, fun z => by rw [z, hk] at glm; cases glm⟩
  generalize upd H2 k (.dK (mergeK [] [((Sum.inr "" : Key), V.ref Y.rt)])) = H3 at S0
  -- the turns
  refine ⟨_, rfl, s, l, 0, 12, rfl, S0.stm, by decide, by decide, by decide, fun H4 d q4 st4 d1 d2 => ?_⟩
  refine ⟨1, d, rfl, rfl, 1 + d, rfl, by omega, by omega, ?_⟩
  have S4 := S0.old q4 st4
  obtain ⟨m, rfl⟩ := Int.eq_ofNat_of_zero_le d1
  have en : (1 + (m : Int)).toNat = 1 + m := by omega
  rw [en]
  refine for_it (n := 1 + m) walk_range (fun i σ H' => (∃ es g, KS K H' s l y k dy Y.lm Y.rt (yF 0 Y.st Y.fi Y.na Y.nu Y.lm Y.md Y.hn Y.fr Y.rt Y.lr) es g (1 + 200 * i) ∧ es.length ≤ i) ∧ ∃ o4 o5 o6 o7 o8, σ = sg a s y k o4 o5 o6 o7 o8)
    ⟨⟨[], _, S4, Nat.le_refl _⟩, _, _, _, _, _, rfl⟩ (fun _ _ _ _ _ => trivial) (fun i x σ H9 H5 hi hP hx => ?_) (fun σ H5 hP => ?_)
  · obtain ⟨rfl, rfl⟩ := hx
    obtain ⟨⟨es, g, S5, hes⟩, o4, o5, o6, o7, o8, rfl⟩ := hP
    have hi12 : i ≤ 12 := by omega
    -- the name
    dsimp only [gName]
    refine st_cont (fun v H' => ∃ qs, Nm qs ∧ v = V.str (Txt.join "." qs) ∧ KS K H' s l y k dy Y.lm Y.rt (yF 0 Y.st Y.fi Y.na Y.nu Y.lm Y.md Y.hn Y.fr Y.rt Y.lr) es g (1 + 200 * i + 150)) (fun Q' k' => ?_) (fun v H6 r => ?_)
    · refine ⟨_, rfl, s, l, _, 6, rfl, S5.stm, by omega, by decide, by decide, fun H6 c q6 st6 c1 c2 => ⟨rfl, .inr ⟨_, rfl, _, _, rfl, rfl, mul_ok _, ?_⟩⟩⟩
      have S6 := S5.old q6 st6
      refine ⟨_, rfl, s, l, _, 4, rfl, S6.stm, by omega, by decide, by decide, fun H7 ps q7 st7 p1 p2 p3 => ⟨_, _, rfl, rfl, ?_, ?_⟩⟩
      · rw [mul_root]
        have := len6 (fun p hp => in56 p (p3 p hp)) (by omega)
        rw [sizeLine_eq]
        split
        · show 5 + _ ≤ _; omega
        · show 0 + _ ≤ _; omega
      · rw [mul_root]
        have S7 := (S6.old q7 st7).mono (show 1 + 200 * i + 1 + 100 ≤ 1 + 200 * i + 150 by omega)
        have p4 : ps.length ≤ 4 := by omega
        cases decide (V.int c = V.int 0) with
        | true =>
          refine k' _ _ ⟨("root" : Str) :: ps, nm_root p3 p1 p4, ?_, S7⟩
          rw [if_pos rfl, join_root p1]
        | false =>
          refine k' _ _ ⟨ps, nm_plain p3 p1 p4, ?_, S7⟩
          rw [if_neg (by decide), nil_app]
    obtain ⟨qs, nm, rfl, S6⟩ := r
    dsimp only [gName]
    have gd := nm.good
    have hne := nm.ne
    have hlen := len6 nm.in6 nm.few
    -- its parts
    refine ⟨_, rfl, ⟨_, rfl⟩, _, ".", rfl, rfl, (by decide), (by rw [sizeLine_eq]; omega), fun p hp => ⟨p, _, rfl, .inl (.inl upd_same), rfl, _, _, rfl, _, _, rfl, _, _, rfl, rfl, ?_⟩⟩
    have S7 := S6.same (same_new hp (.tup [.str (Txt.partition (Txt.join "." qs) ".").1, .str (Txt.partition (Txt.join "." qs) ".").2.1, .str (Txt.partition (Txt.join "." qs) ".").2.2]))
    generalize upd H6 p _ = H7 at S7
    dsimp only
    refine st_if (Aft K s l y k dy Y.lm Y.rt (yF 0 Y.st Y.fi Y.na Y.nu Y.lm Y.md Y.hn Y.fr Y.rt Y.lr) (1 + 200 * i + 160) (i + 1) (sg a s y k (some (.int (0 + i))) (some (.str (Txt.join "." qs))) (some (.str (Txt.partition (Txt.join "." qs) ".").1)) (some (.str (Txt.partition (Txt.join "." qs) ".").2.1)) (some (.str (Txt.partition (Txt.join "." qs) ".").2.2)))) (fun D' k' => ?_) (fun σ H8 r => ?_)
    · have hin := nm.in6
      cases qs with
      | nil => exact absurd nm.pos (by decide)
      | cons q r =>
        have hq := hin q List.mem_cons_self
        cases r with
        | nil =>
          rw [part_one hq] at k' ⊢
          refine ⟨_, rfl, rfl, _, rfl, iteF' (by show (!decide (V.str Str.empty = V.str "")) = false; decide +kernel) (iteF' rfl ?_)⟩
          exact law_else (S7.mono (by omega)) hes (by omega) gd hne D' k'
        | cons r rs =>
          rw [part_more hq] at k' ⊢
          have hin2 : ∀ p ∈ r :: rs, p ∈ parts6 := fun p hp => hin p (List.mem_cons_of_mem _ hp)
          have few2 : (r :: rs).length ≤ 5 := Nat.le_of_succ_le nm.few
          have g2 := good6 hin2 (by simp) few2
          have ne2 := ne6 hin2 (by simp)
          refine ⟨_, rfl, rfl, _, rfl, iteT' (by simp [ne2]) ?_⟩
          refine ⟨_, rfl, s, l, _, 2, rfl, S7.stm, by omega, by decide, by decide, fun H8 c q8 st8 _ _ => ⟨rfl, _, rfl, ite2 (fun _ => ?_) (fun _ => iteF' rfl ?_)⟩⟩
          · have S8 := S7.old q8 st8
            refine ⟨_, rfl, _, rfl, k, _, rfl, dget_rd (x := q) (.inl S8.kd), _, rfl, ?_⟩
            cases hb : (kn es Y.rt).lookup q with
            | none => exact iteF' rfl (law_else (S8.mono (by omega)) hes (by omega) gd hne D' k')
            | some b =>
              have l2 := len6 hin2 few2
              have l3 := in6_len q hq
              exact iteT' rfl (law_then (S8.mono (by omega)) hes (by omega) gd hne (in6_ne q hq) hb (join_cons q r rs).symm g2 (by omega) D' k')
          · exact law_else ((S7.old q8 st8).mono (by omega)) hes (by omega) gd hne D' k'
    · obtain ⟨rfl, es', g', S8, hl8⟩ := r
      refine ⟨_, rfl, _, rfl, y, k, dy, Y.lm, Y.rt, _, es', g', rfl, S8.kn_, S8.kd, S8.lk, fun H9 s9 => ⟨_, rfl, iteF' rfl ⟨⟨es', g', (S8.same s9).mono (by omega), hl8⟩, _, _, _, _, _, rfl⟩⟩⟩
  · obtain ⟨⟨es, g, S5, hes⟩, o4, o5, o6, o7, o8, rfl⟩ := hP
    have e := S5.kn_.rt_
    exact ⟨_, rfl, y, _, dy, _, _, rfl, S5.kn_.tr.yd, T.c_Yard, T.n_Yard_root, S5.kn_.tr.root, Y.rt, _, _, _, _, rfl, e, T.c_Logger, T.n_Logger_parent, rfl, rfl, hQ _⟩
end
end K17

set_option Elab.async false
set_option linter.all false
set_option maxRecDepth 100000
set_option maxHeartbeats 0
namespace K17
open PySem PySem.Spec PyProof.Rows L2 RC
section
variable {P : Program} {w : World} {K : PySem.W.Frag} {mg : Str → Option Value} {base : Heap}
/-! ### all together -/
theorem ok_law {f : Addr} {fd : FuncData} (T : Txt P w K mg) (F : FunD K "law" "law" (defArgs s_law) (defBody s_law) (defScope s_law) [] [] f fd) : FnOk P w K mg base CX0 7 f fd ["_law_script"] (spLaw K) := by
  have c_draw := ok_draw (base := base) T T.d__law_draw
  have c_pick := ok_pick (base := base) T T.d__law_pick c_draw
  have c_name := ok_name (base := base) T T.d__law_name c_draw c_pick
  have c_fi := ok_filterer_init (base := base) T T.d_Filterer_init
  have c_enrol := ok_enrol (base := base) T T.d_Yard_enrol
  have c_hi := ok_handler_init (base := base) T T.d_Handler_init c_fi c_enrol
  have c_si := ok_stream_init (base := base) T T.d_StreamHandler_init c_hi
  have c_li := ok_logger_init (base := base) T T.d_Logger_init c_fi
  have c_yi := ok_yard_init (base := base) T T.d_Yard_init c_li c_si
  have c_part := ok_is_part (base := base) T T.d_is_part
  have c_parts := ok_are_parts (base := base) T T.d_are_parts c_part
  have c_parent := ok_parent (base := base) T T.d_parent_of
  have c_place := ok_placeAll (base := base) T T.d_place_loggers c_parent
  have c_get := ok_getLog (base := base) T T.d_Yard_getLogger c_parts c_li c_place
  have c_child := ok_getChild (base := base) T T.d_Logger_getChild c_parts c_get
  have c_isp := ok_is_parent (base := base) T T.d_Logger_is_parent_of
  have c_kids := ok_kids (base := base) T T.d_Logger_getChildren c_isp
  have c_lp := ok_law_parent (base := base) T T.d__law_parent
  have c_right := ok_right (base := base) T T.d__law_are_right c_lp c_kids
  refine F.ok sc_law (fun vs H Q E h => ?_) (fun cdv A outer s H vs Q E hr hsp => ?_)
  · obtain ⟨a, ns, rfl, _⟩ := h; rfl
  obtain ⟨t, h, q⟩ := law_body T hr hsp c_draw c_name c_right c_yi c_get c_child
  exact ⟨t, h.nox, q⟩
theorem facts {f : Addr} {h : Heap} (X : K.In h) (G : h.Ns mainGlobals mg) (hfa : mg ("law" : Str) = some (.ref f)) (c : RB.SaysB fa fx fn ts w K) :
    ∃ fd : FuncData, (∀ (s : Shared) (v : Value), BindsTo s fd ⟨[v], []⟩ [("_law_script", v)]) ∧ ∀ base : Heap, FnOk P w K mg base CX0 7 f fd ["_law_script"] (spLaw K) := by
  have T : Txt P w K mg := Txt.of X G c
  obtain ⟨fd, F⟩ := T.d_law
  have e := hfa.symm.trans T.g_law
  cases e
  have b := FunD.bindsA (ps := ["_law_script"]) F fun _ _ _ _ _ _ us hl => match us, hl with | [_], _ => rfl
  exact ⟨fd, fun s v => b s [v] rfl, fun base => ok_law T F⟩
end
end K17
open PySem PySem.W PySem.Calls PyProof.Rows
set_option maxHeartbeats 0
theorem PySem.Challenge.cw_recordyard_k21_parents_and_children_holds : PySem.Challenge.rw_recordyard_k21_parents_and_children.Holds := by
  w_on; o_law
  refine HandSHeadRun.head_any (r := OpenLaw.row PySem.Challenge.rw_recordyard_k21_parents_and_children) (q := view (OpenLaw.row PySem.Challenge.rw_recordyard_k21_parents_and_children).prog [46]) (H := K17.hk) (ob := K17.ob) (M := 9000) (loose := K17.names) (d := HandSHeadRun.topDef (OpenLaw.row PySem.Challenge.rw_recordyard_k21_parents_and_children).prog 46) (kwd := []) K17.ob_eq
    (by kernel_rfl) (fun s => by kernel_rfl) K17.run (by kernel_rfl) (by kernel_rfl) (by kernel_rfl) (by rfl) (by first | assumption | decide +kernel) (by decide +kernel) ⟨rfl, rfl, rfl, rfl, rfl, by decide +kernel⟩ ?hw ?hc
  case hw => w_witness2
  case hc =>
    refine L2.walk_ofE (l := PySem.Challenge.rw_recordyard_k21_parents_and_children) (n := 63) (k := 7) (x := "_law_script") (CX := L2.CX0) rfl (by decide) (by kernel_rfl) ⟨rfl, by decide, by decide⟩ ?F (fun _ _ _ _ z => z)
    intro w mg fa h Y G hmg0
    obtain ⟨K, KX, c⟩ := Y
    have hmg : mg ("law" : PySem.Str) = some (.ref fa) := by
      have e : (HandSHeadRun.topDef (OpenLaw.row PySem.Challenge.rw_recordyard_k21_parents_and_children).prog 46).name = ("law" : PySem.Str) := by kernel_rfl
      rw [← e]
      exact hmg0
    obtain ⟨fd, hb, hF⟩ := K17.facts (P := (PySem.Challenge.rw_recordyard_k21_parents_and_children).prog) (w := w) KX G hmg c
    exact ⟨K, fd, K17.spLaw K, KX, hb, fun H a ns hl _ hS => ⟨a, ns, rfl, hl, hS, fun _ => rfl⟩, fun base _ _ => hF base⟩
