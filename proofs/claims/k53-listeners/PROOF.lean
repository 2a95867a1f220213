import PyProof.Rows.All
import Wide.All
import OpenK.AllK
import Wide.FinOn
import PyProof.EqAt
import PyProof.EqKinds
import PyProof.TupleCall
import HandS.Base
import HandS.Call
import HandS.List
import HandS.Dict
import HandS.More
import HandS.Slots
import HandS.ClsMeth
import KE.KStateDown
import HandS.Exc
import HandS.IsInst
import HandS.Defaults
import HandS.HeadHook1
import HandS.HeadHook2
import HandS.Head0
import HandS.Head1
import HandS.Head2
import HandS.HeadEnd
import HandS.ExcInit
import HandS.ExcField
import HandS.ForMost
import HandS.Walk
import PyProof.NeKinds
import PyProof.StrBlock2
import HandS.Sort
import HandS.Text
import PyProof.DictUpdate
import HandS.Iter
import HandS.Conv
import HandS.Flow
import HandS.Words
import HandS.HotCalls
import HandS.Style
import HandS.Steps
import HandS.RaiseMore
import HandS.ExcOwn
import HandS.TryMany
import HandS.CallSlots
import HandS.SuiteRaise
import HandS.ExcInitHot
import HandS.NoneIn
import HandS.StrMore
import HandS.Replace
import HandS.ReplaceLit
import HandS.ReplaceDef
import PyProof.ListStr
import HandS.Zip
import HandS.OwnEq
import PySem.Challenge.RW_recordyard_k53_listeners
set_option Elab.async false
set_option linter.all false
set_option maxRecDepth 100000
set_option maxHeartbeats 4000000
/-! Rules beyond the layer: == and != of instances of classes without an own __eq__ (by identity), in and not in over lists of such, a def read off its class. -/
namespace RA
open PySem PySem.Spec PyProof.Rows PySem.SeqAt
/-- a class whose instances are equal by identity -/
structure PlainC (K : PySem.W.Frag) (C : Addr) : Prop where
  mro : PySem.W.mroIn K C (.type "object") = some true
  eq : PySem.W.findIn K (.ref C) "__eq__" = some (some (.builtin "object.__eq__"))
  ne : PySem.W.findIn K (.ref C) "__ne__" = some (some (.builtin "object.__ne__"))
def PairC (K : PySem.W.Frag) (C D : Addr) : Prop := C = D ∨ ∃ b, PySem.W.subIn K (.ref D) (.ref C) = some b
section
variable {M : Model} {prog : Program} {w : World} {A : Around} {E : Value → Shared → Prop} {s : Shared} {K : PySem.W.Frag} {x y C D : Addr} {ox oy : Obj} {od od' : Option Obj}
theorem inst_get (I : PySem.W.InstAt s.heap x ox C od) : s.heap.get? x = some ox := I.at_
theorem inst_notup (I : PySem.W.InstAt s.heap x ox C od) : ox.cls ≠ .type "tuple" := by
  rw [I.cls]; intro z; cases z
theorem eq_same {Q : Value → Shared → Prop} (X : K.In s.heap) (I : PySem.W.InstAt s.heap x ox C od) (hm : PySem.W.mroIn K C (.type "object") = some true) (hq : Q (.bool true) s) :
    wpAny (model prog w) A (call (.builtin "object.__eq__") [.ref x, .ref x]) Q E s :=
  wpAny_call (codeAny_call_builtin F.cmp_object.eq.plain F.cmpEntry_eq (PySem.W.check_slot F.cmpKind_eq F.cmpSplit_eq (I.type.andThen (PySem.W.looks_mroIn X hm)) (F.cmpArgs_eq _ _) (objEq_entry_same hq)))
theorem eq_other {Q : Value → Shared → Prop} (X : K.In s.heap) (I : PySem.W.InstAt s.heap x ox C od) (hm : PySem.W.mroIn K C (.type "object") = some true) (hy : s.heap.get? y = some oy) (hxy : x ≠ y) (hq : Q .notImplemented s) :
    wpAny (model prog w) A (call (.builtin "object.__eq__") [.ref x, .ref y]) Q E s :=
  wpAny_call (codeAny_call_builtin F.cmp_object.eq.plain F.cmpEntry_eq (PySem.W.check_slot F.cmpKind_eq F.cmpSplit_eq (I.type.andThen (PySem.W.looks_mroIn X hm)) (F.cmpArgs_eq _ _) (objEq_entry_other hxy (inst_get I) hy (inst_notup I) hq)))
theorem ifB_ne {args : List Value} {Q : Option Value → Shared → Prop} (X : K.In s.heap) (I : PySem.W.InstAt s.heap x ox C od) (hs : PySem.W.findIn K (.ref C) "__ne__" = some (some (.builtin "object.__ne__")))
    (h : wpAny M A (call (.builtin "object.__ne__") (.ref x :: args)) (fun v => Q (some v)) E s) : wpAny M A (callSpecialIfBound? (.ref x) "__ne__" args) Q E s := by
  simp only [callSpecialIfBound?, bindSpecialIfBound?]
  refine wpAny_holding (wpAny_bind (wpAny_bind (wpAny_bind (I.type.here ((PySem.W.looks_findIn X hs).here ?_)))))
  refine wpAny_bind (wpAny_askSetting (wpAny_ite ?_))
  have fin : wpAny M A (call (.builtin "object.__ne__") ([.ref x] ++ args) >>= fun v => pure (some v)) Q E s := wpAny_bind (wpAny_mono h (fun v s' h' => wpAny_pure h') fun _ _ h' => h')
  split
  · exact wpAny_bind (wpAny_of_eq (F.cmp_object.ne.bind _) (wpAny_pure (by exact fin)))
  · exact wpAny_tryCatch (wpAny_bind (wpAny_of_eq (F.cmp_object.ne.bind _) (wpAny_pure (by exact fin))))
theorem ne_entry_same {Q : Fin → Shared → Prop} (X : K.In s.heap) (I : PySem.W.InstAt s.heap x ox C od) (P : PlainC K C) (hu : A.units < cLine) (hq : Q (.done (.ret (.bool false))) s) :
    wpAny (model prog w) A (Builtin.«object.__ne__» ⟨[.ref x, .ref x], []⟩) Q E s := by
  unfold Builtin.«object.__ne__»
  repeat (first | with_reducible refine wpAny_cRoomFor hu ?_ | with_reducible refine HN.ifBound_objEq X I P.eq (eq_same X I P.mro ?_) | wp_step)
  exact hq
theorem ne_entry_other {Q : Fin → Shared → Prop} (X : K.In s.heap) (I : PySem.W.InstAt s.heap x ox C od) (P : PlainC K C) (hy : s.heap.get? y = some oy) (hxy : x ≠ y) (hu : A.units < cLine) (hq : Q (.done (.ret .notImplemented)) s) :
    wpAny (model prog w) A (Builtin.«object.__ne__» ⟨[.ref x, .ref y], []⟩) Q E s := by
  unfold Builtin.«object.__ne__»
  repeat (first | with_reducible refine wpAny_cRoomFor hu ?_ | with_reducible refine HN.ifBound_objEq X I P.eq (eq_other X I P.mro hy hxy ?_) | wp_step)
  exact hq
theorem try_eq_same {Q : Option Value → Shared → Prop} (X : K.In s.heap) (I : PySem.W.InstAt s.heap x ox C od) (P : PlainC K C) (h : Q (some (.bool true)) s) : wpAny (model prog w) A (tryCompare (.ref x) "__eq__" (.ref x)) Q E s := by
  unfold tryCompare
  exact wpAny_bind (HN.ifBound_objEq X I P.eq (eq_same X I P.mro (wpAny_pure h)))
theorem try_eq_other {Q : Option Value → Shared → Prop} (X : K.In s.heap) (I : PySem.W.InstAt s.heap x ox C od) (P : PlainC K C) (hy : s.heap.get? y = some oy) (hxy : x ≠ y) (h : Q none s) : wpAny (model prog w) A (tryCompare (.ref x) "__eq__" (.ref y)) Q E s := by
  unfold tryCompare
  exact wpAny_bind (HN.ifBound_objEq X I P.eq (eq_other X I P.mro hy hxy (wpAny_pure h)))
theorem try_ne_same {Q : Option Value → Shared → Prop} (hu : A.units + 1 < cLine) (X : K.In s.heap) (I : PySem.W.InstAt s.heap x ox C od) (P : PlainC K C) (h : Q (some (.bool false)) s) : wpAny (model prog w) A (tryCompare (.ref x) "__ne__" (.ref x)) Q E s := by
  unfold tryCompare
  refine wpAny_bind (ifB_ne X I P.ne (wpAny_call (codeAny_call_builtin F.cmp_object.ne.plain F.cmpEntry_ne (PySem.W.check_slot F.cmpKind_ne F.cmpSplit_ne (I.type.andThen (PySem.W.looks_mroIn X P.mro)) (F.cmpArgs_ne _ _) (ne_entry_same (A := A.in1) X I P hu ?_)))))
  exact wpAny_pure h
theorem try_ne_other {Q : Option Value → Shared → Prop} (hu : A.units + 1 < cLine) (X : K.In s.heap) (I : PySem.W.InstAt s.heap x ox C od) (P : PlainC K C) (hy : s.heap.get? y = some oy) (hxy : x ≠ y) (h : Q none s) : wpAny (model prog w) A (tryCompare (.ref x) "__ne__" (.ref y)) Q E s := by
  unfold tryCompare
  refine wpAny_bind (ifB_ne X I P.ne (wpAny_call (codeAny_call_builtin F.cmp_object.ne.plain F.cmpEntry_ne (PySem.W.check_slot F.cmpKind_ne F.cmpSplit_ne (I.type.andThen (PySem.W.looks_mroIn X P.mro)) (F.cmpArgs_ne _ _) (ne_entry_other (A := A.in1) X I P hy hxy hu ?_)))))
  exact wpAny_pure h
theorem rc_same (hu : A.units < cLine) (X : K.In s.heap) (I : PySem.W.InstAt s.heap x ox C od) (P : PlainC K C) : RcAt A s (.ref x) (.ref x) true := fun prog w E Q h => by
  simp only [richCompare, cmpInfo_Eq, oneThing_ref]
  refine wpAny_holding (wpAny_bind (wpAny_cRoomFor hu ?_))
  refine wpAny_bind (I.type.here (wpAny_bind (I.type.here ?_)))
  rw [if_neg (by simp)]
  refine wpAny_bind (wpAny_pure ?_)
  simp only [Bool.false_eq_true, if_false]
  exact wpAny_bind (try_eq_same X I P (wpAny_pure h))
theorem rcn_same (hu : A.units + 1 < cLine) (X : K.In s.heap) (I : PySem.W.InstAt s.heap x ox C od) (P : PlainC K C) {Q : Value → Shared → Prop} (h : Q (.bool false) s) : wpAny (model prog w) A (richCompare .NotEq (.ref x) (.ref x)) Q E s := by
  simp only [richCompare, cmpInfo_NotEq, oneThing_ref]
  refine wpAny_holding (wpAny_bind (wpAny_cRoomFor (Nat.lt_of_succ_lt hu) ?_))
  refine wpAny_bind (I.type.here (wpAny_bind (I.type.here ?_)))
  rw [if_neg (by simp)]
  refine wpAny_bind (wpAny_pure ?_)
  simp only [Bool.false_eq_true, if_false]
  exact wpAny_bind (try_ne_same hu X I P (wpAny_pure h))
theorem rc_other (hu : A.units < cLine) (X : K.In s.heap) (I : PySem.W.InstAt s.heap x ox C od) (J : PySem.W.InstAt s.heap y oy D od') (P : PlainC K C) (P' : PlainC K D) (hp : PairC K C D) (hxy : x ≠ y) : RcAt A s (.ref x) (.ref y) false := fun prog w E Q h => by
  have fin : ∀ (tag : String), wpAny (model prog w) A (rule tag >>= fun _ => isSame (.ref x) (.ref y) >>= fun b => pure (Value.bool b)) Q E s := fun tag =>
    wpAny_bind (wpAny_rule (wpAny_bind (wpAny_isSame_ref_other hxy (inst_get I) (inst_get J) (inst_notup I) (wpAny_pure h))))
  simp only [richCompare, cmpInfo_Eq, oneThing_ref]
  refine wpAny_holding (wpAny_bind (wpAny_cRoomFor hu ?_))
  refine wpAny_bind (I.type.here (wpAny_bind (J.type.here ?_)))
  by_cases hCD : C = D
  · subst hCD
    rw [if_neg (by simp)]
    refine wpAny_bind (wpAny_pure ?_)
    simp only [Bool.false_eq_true, if_false, Bool.not_false, if_true]
    refine wpAny_bind (try_eq_other X I P (inst_get J) hxy ?_)
    refine wpAny_bind (try_eq_other X J P' (inst_get I) (Ne.symm hxy) ?_)
    exact fin _
  · rw [if_pos (by simp [hCD])]
    obtain ⟨b, hb⟩ := hp.resolve_left hCD
    refine wpAny_bind ((PySem.W.looks_subIn X hb).here ?_)
    cases b with
    | false =>
      simp only [Bool.false_eq_true, if_false, Bool.not_false, if_true]
      refine wpAny_bind (try_eq_other X I P (inst_get J) hxy ?_)
      refine wpAny_bind (try_eq_other X J P' (inst_get I) (Ne.symm hxy) ?_)
      exact fin _
    | true =>
      simp only [Bool.not_true, Bool.false_eq_true, if_false, if_true]
      refine wpAny_bind (try_eq_other X J P' (inst_get I) (Ne.symm hxy) ?_)
      refine wpAny_bind (try_eq_other X I P (inst_get J) hxy ?_)
      exact fin _
theorem rcn_other (hu : A.units + 1 < cLine) (X : K.In s.heap) (I : PySem.W.InstAt s.heap x ox C od) (J : PySem.W.InstAt s.heap y oy D od') (P : PlainC K C) (P' : PlainC K D) (hp : PairC K C D) (hxy : x ≠ y) {Q : Value → Shared → Prop} (h : Q (.bool true) s) :
    wpAny (model prog w) A (richCompare .NotEq (.ref x) (.ref y)) Q E s := by
  have fin : ∀ (tag : String), wpAny (model prog w) A (rule tag >>= fun _ => isSame (.ref x) (.ref y) >>= fun b => pure (Value.bool (!b))) Q E s := fun tag =>
    wpAny_bind (wpAny_rule (wpAny_bind (wpAny_isSame_ref_other hxy (inst_get I) (inst_get J) (inst_notup I) (wpAny_pure h))))
  simp only [richCompare, cmpInfo_NotEq, oneThing_ref]
  refine wpAny_holding (wpAny_bind (wpAny_cRoomFor (Nat.lt_of_succ_lt hu) ?_))
  refine wpAny_bind (I.type.here (wpAny_bind (J.type.here ?_)))
  by_cases hCD : C = D
  · subst hCD
    rw [if_neg (by simp)]
    refine wpAny_bind (wpAny_pure ?_)
    simp only [Bool.false_eq_true, if_false, Bool.not_false, if_true]
    refine wpAny_bind (try_ne_other hu X I P (inst_get J) hxy ?_)
    refine wpAny_bind (try_ne_other hu X J P' (inst_get I) (Ne.symm hxy) ?_)
    exact fin _
  · rw [if_pos (by simp [hCD])]
    obtain ⟨b, hb⟩ := hp.resolve_left hCD
    refine wpAny_bind ((PySem.W.looks_subIn X hb).here ?_)
    cases b with
    | false =>
      simp only [Bool.false_eq_true, if_false, Bool.not_false, if_true]
      refine wpAny_bind (try_ne_other hu X I P (inst_get J) hxy ?_)
      refine wpAny_bind (try_ne_other hu X J P' (inst_get I) (Ne.symm hxy) ?_)
      exact fin _
    | true =>
      simp only [Bool.not_true, Bool.false_eq_true, if_false, if_true]
      refine wpAny_bind (try_ne_other hu X J P' (inst_get I) (Ne.symm hxy) ?_)
      refine wpAny_bind (try_ne_other hu X I P (inst_get J) hxy ?_)
      exact fin _
end
end RA
namespace RA
open PySem PySem.Spec PyProof.Rows PySem.SeqAt L2
/-- an instance of a plain class stands there -/
def InsP (K : PySem.W.Frag) (H : Hp) (a C : Addr) : Prop := (∃ dx fs, H a = some (.ins C dx fs)) ∧ PlainC K C
theorem InsP.of {K : PySem.W.Frag} {H : Hp} {a C dx : Addr} {fs : List (Str × V)} (h : H a = some (.ins C dx fs)) (p : PlainC K C) : InsP K H a C := ⟨⟨dx, fs, h⟩, p⟩
section
variable {X : Cx} {pins : List (Addr × Obj)} {σ : L2.St} {H : Hp} {s : Shared}
theorem insp_at {a C : Addr} (I : Inv X pins σ H s) (h : InsP X.K H a C) : ∃ ox od, PySem.W.InstAt s.heap a ox C od := by
  obtain ⟨⟨dx, fs, ha⟩, _⟩ := h
  obtain ⟨mA, O, _⟩ := ins_get I.hok ha
  obtain ⟨od, J, _⟩ := O.look
  exact ⟨_, _, J⟩
/-- x == y: y an instance, None, or a number, a text, a truth -/
def rEqP (K : PySem.W.Frag) : R2 := fun x y H Q => ∃ a C, x = .ref a ∧ InsP K H a C ∧ ((y = .non ∧ Q (.bl false) H) ∨ ∃ b D, y = .ref b ∧ InsP K H b D ∧ PairC K C D ∧ Q (.bl (decide (a = b))) H)
def rNeP (K : PySem.W.Frag) : R2 := fun x y H Q => ∃ a C b D, x = .ref a ∧ InsP K H a C ∧ y = .ref b ∧ InsP K H b D ∧ PairC K C D ∧ Q (.bl (!decide (a = b))) H
theorem op_eqP (hu : X.A.units < cLine) : OpR X (compareOp .Eq) (rEqP X.K) := by
  intro pins s σ H x y v u Q I rx ry h
  obtain ⟨a, C, rfl, ha, h⟩ := h
  cases rx
  obtain ⟨ox, od, Ia⟩ := insp_at I ha
  rcases h with ⟨rfl, q⟩ | ⟨b, D, rfl, hb, hp, q⟩
  · cases ry
    exact HN.rc_none hu I.kIn Ia ha.2.mro ha.2.eq _ _ _ _ (fin_bl I q rfl)
  · cases ry
    obtain ⟨oy, od', Ib⟩ := insp_at I hb
    by_cases z : a = b
    · subst z
      have e : C = D := by
        have h1 := Ia.cls.symm.trans ((congrArg Obj.cls (Option.some.inj (Ia.at_.symm.trans Ib.at_))).trans Ib.cls)
        exact Value.ref.inj h1
      subst e
      exact rc_same hu I.kIn Ia ha.2 _ _ _ _ (fin_bl I q (by simp))
    · exact rc_other hu I.kIn Ia Ib ha.2 hb.2 hp z _ _ _ _ (fin_bl I q (by simp [z]))
theorem op_neP (hu : X.A.units + 1 < cLine) : OpR X (compareOp .NotEq) (rNeP X.K) := by
  intro pins s σ H x y v u Q I rx ry h
  obtain ⟨a, C, b, D, rfl, ha, rfl, hb, hp, q⟩ := h
  cases rx
  cases ry
  obtain ⟨ox, od, Ia⟩ := insp_at I ha
  obtain ⟨oy, od', Ib⟩ := insp_at I hb
  by_cases z : a = b
  · subst z
    exact rcn_same hu I.kIn Ia ha.2 (fin_bl I q (by simp))
  · exact rcn_other hu I.kIn Ia Ib ha.2 hb.2 hp z (fin_bl I q (by simp [z]))
/-- x in l: x an instance, the items instances -/
def rInP (K : PySem.W.Frag) (neg : Bool) : R2 := fun x y H Q => ∃ (a C p : Addr) (as : List Addr), x = .ref a ∧ InsP K H a C ∧ y = .ref p ∧ SqL K H p (as.map V.ref) ∧ (∀ b ∈ as, ∃ D, InsP K H b D ∧ PairC K D C) ∧ Q (.bl (if neg then !decide (a ∈ as) else decide (a ∈ as))) H
theorem eqAt_ref {A : Around} {a b C D : Addr} (I : Inv X pins σ H s) (hu : A.units < cLine) (ha : InsP X.K H a C) (hb : InsP X.K H b D) (hp : PairC X.K D C) : EqAt A s (.ref b) (.ref a) (decide (b = a)) := by
  by_cases z : b = a
  · subst z
    rw [decide_eq_true rfl]
    exact EqAt.same _
  · rw [decide_eq_false z]
    obtain ⟨ox, od, Ia⟩ := insp_at I ha
    obtain ⟨oy, od', Ib⟩ := insp_at I hb
    intro prog w E Q h
    unfold eqBool
    refine wpAny_holding ?_
    refine wpAny_ite_split (fun hab => absurd (eq_of_beq hab) (fun e => z (Value.ref.inj e))) (fun _ => ?_)
    exact wpAny_bind (rc_other hu I.kIn Ib Ia hb.2 ha.2 hp z prog w E _ (wpAny_truthy_bool h))
theorem any_refs {a : Addr} : ∀ {as : List Addr} {us : List Value}, Vals (as.map V.ref) us → us.any (fun u => u == .ref a) = decide (a ∈ as)
  | [], _, .nil => by simp
  | b :: as, u :: us, .cons r t => by
    cases (show u = Value.ref b from r)
    rw [List.any_cons, any_refs t]
    by_cases z : b = a
    · subst z; simp
    · have z' : ¬ a = b := fun e => z e.symm
      simp [z, z']
theorem mem_refs {A : Around} {a C : Addr} (I : Inv X pins σ H s) (hu : A.units < cLine) (ha : InsP X.K H a C) : ∀ {as : List Addr} {us : List Value}, Vals (as.map V.ref) us → (∀ b ∈ as, ∃ D, InsP X.K H b D ∧ PairC X.K D C) → ∀ u ∈ us, EqAt A s u (.ref a) (u == .ref a)
  | [], _, .nil, _ => fun u hu' => by cases hu'
  | b :: as, u :: us, .cons r t, f => fun u' hu' => by
    rcases List.mem_cons.mp hu' with e | hu'
    · subst e
      cases (show u' = Value.ref b from r)
      obtain ⟨D, hb, hp⟩ := f b (List.mem_cons_self ..)
      have e2 : (Value.ref b == Value.ref a) = decide (b = a) := by
        by_cases z : b = a <;> simp [z]
      rw [e2]
      exact eqAt_ref I hu ha hb hp
    · exact mem_refs I hu ha t (fun z hz => f z (List.mem_cons_of_mem _ hz)) u' hu'
theorem op_inP (hu : X.A.units + 64 < cLine) : OpR X (compareOp .In) (rInP X.K false) := by
  intro pins s σ H x y v u Q I rx ry h
  obtain ⟨a, C, p, as, rfl, ha, rfl, hq, f, q⟩ := h
  cases rx
  cases ry
  obtain ⟨its, rv, hl, _⟩ := I.list hq
  have hu1 : X.A.in1.units < cLine := by show X.A.units + 1 < cLine; omega
  refine SeqAt.in_listAt (fun u => u == .ref a) hl.isList (fun z hz => mem_refs I hu1 ha rv f z (by simpa using hz)) ⟨.bl _, H, I, rfl, ?_⟩
  rw [show its.toArray.any (fun u => u == .ref a) = its.any (fun u => u == .ref a) by simp, any_refs rv]
  exact q
theorem op_notInP (hu : X.A.units + 64 < cLine) : OpR X (compareOp .NotIn) (rInP X.K true) := by
  intro pins s σ H x y v u Q I rx ry h
  obtain ⟨a, C, p, as, rfl, ha, rfl, hq, f, q⟩ := h
  cases rx
  cases ry
  obtain ⟨its, rv, hl, _⟩ := I.list hq
  have hu1 : X.A.in1.units < cLine := by show X.A.units + 1 < cLine; omega
  refine SeqAt.notIn_listAt (fun u => u == .ref a) hl.isList (fun z hz => mem_refs I hu1 ha rv f z (by simpa using hz)) ⟨.bl _, H, I, rfl, ?_⟩
  rw [show its.toArray.any (fun u => u == .ref a) = its.any (fun u => u == .ref a) by simp, any_refs rv]
  exact q
/-! ### a def read off its class: C.m(x, ..) -/
structure CFun (K : PySem.W.Frag) (C : Addr) (m : Str) (f : Addr) : Prop where
  ga : PySem.W.specialIn K (.ref C) "__getattribute__" = some (some (.builtin "type.__getattribute__"))
  rd : PySem.W.readsIn K C (.type "type") = true
  at_ : PySem.W.findCls K (.ref C) (.type "type") m = some (.val (.ref f))
  kp : PySem.W.keepIn K (.ref f) = true
def tCFun (C : Addr) (sp : Sp) (dvs : List V) (E : XK) (ta : TE) (t : TA) : TE := fun σ H Q => ta σ H fun x H1 => x = .ref C ∧ t σ H1 fun vs H2 => sp (vs ++ dvs) H2 Q E
theorem pe_cfun {CX : CXT} {k : Nat} {C f : Addr} {fd : FuncData} {ps : List Str} {sp : Sp} {dvs : List V} {ds : List Value} {E : XK} {o e : Expr} {es : List Expr} {m : Str} {pos apos : Pos} {ta : TE} {t : TA} {pl : Sem Bool}
    (he : PE X o ta) (c : CFun X.K C m f) (F : FnOk X.prog X.w X.K X.mg X.base CX k f fd ps sp) (hr : Room k X.A) (hb : Binds X.K fd ps ds) (hd : Vals dvs ds) (hx : Passes CX X E) (ha : PA X (e :: es) t)
    (hst : starEach (e :: es) X.env = (false, eval e X.env) :: starEach es X.env := by rfl) (hpl : (backTo pos (starEach es X.env)).any (·.1) = false := by rfl)
    (ht : eval (.Call (.Attribute o m apos) (e :: es) [] pos) X.env = (do
      let ov ← eval o X.env
      standAt apos.atName
      let (f, first) ← holding [ov] (getMethod ov m pl)
      callWith pos f first (backTo pos (starEach (e :: es) X.env)) (backToKw pos (keywordEach [] X.env))) := by rfl) :
    PE X (.Call (.Attribute o m apos) (e :: es) [] pos) (tCFun C sp dvs E ta t) := by
  refine ⟨fun pins s σ H Q I h => ?_⟩
  refine PySem.W.methodCall_KW (pl := pl) (thn (he.run pins s σ H _ I h) fun u s1 ⟨x, H1, I1, rx, ex, q⟩ => ?_) ht
  subst ex
  obtain rfl : u = Value.ref C := rx
  refine PySem.W.method_cls I1.kIn c.ga (PySem.W.cls_value I1.kIn c.rd c.at_ (handed_of (v := .ref f) rfl) ?_)
  have I2 := I1.tok (s1.toks + 1)
  refine PySem.W.callWith_K (first := []) (h₀ := X.base) I2.ok.mod.kin c.kp (thn (ha.run pos pins _ σ H1 _ I2 q) fun us s2 ⟨vs, H2, I3, r, q2⟩ => ⟨I3.kIn, ?_⟩) hst hpl
  exact run_fn F hr hb hd hx I3 r q2
/-! ### one of two rules -/
theorem PE.or {e : Expr} {t t' : TE} (h : PE X e t) (h' : PE X e t') : PE X e (fun σ H Q => t σ H Q ∨ t' σ H Q) := ⟨fun pins s σ H Q I q => by
  rcases q with q | q
  · exact h.run pins s σ H Q I q
  · exact h'.run pins s σ H Q I q⟩
/-- any of many rules for one expression -/
theorem PE.any {ι : Type} {e : Expr} {t : ι → TE} (S : ι → Prop) (h : ∀ i, S i → PE X e (t i)) : PE X e (fun σ H Q => ∃ i, S i ∧ t i σ H Q) := ⟨fun pins s σ H Q I ⟨i, hi, q⟩ => (h i hi).run pins s σ H Q I q⟩
end
end RA

set_option Elab.async false
set_option linter.all false
set_option maxRecDepth 100000
set_option maxHeartbeats 4000000
/-! The head's facts: He.Fa and He.DefD, further facts of classes, dicts of the top with their items. -/
namespace RB
open PySem PySem.Spec PyProof.Rows L2 He
/-- what isinstance asks of a value's own class -/
structure TyC (K : PySem.W.Frag) (C : Addr) : Prop where
  ha : PySem.W.findIn K (.ref C) "__class__" = some (some (.builtin "object.__class__"))
  hn : PySem.W.specialIn K (.builtin "object.__class__") "__get__" = some (some (.builtin "getset_descriptor.__get__"))
  ht : PySem.W.takesIn K (.builtin "object.__class__") = some true
  hm : PySem.W.mroIn K C (.type "object") = some true
/-- an own class of errors, over ValueError, whose __init__ keeps one field -/
structure ExcF (K : PySem.W.Frag) (C : Addr) (f : Str) : Prop where
  ox : OexC K C
  no : PySem.W.findIn K (.ref C) f = some none
  ini : PySem.W.findIn K (.ref C) "__init__" = some (some (.ref (ma K C "__init__")))
  ty : PySem.W.typeIn K (.ref (ma K C "__init__")) = some (.type "function")
  xf : XfC K C
def clsB (K : PySem.W.Frag) (C : Addr) : Bool := match K.lookup C with
  | some ⟨.type t, _, .cls cd, sl⟩ => decide (t = "type") && (match cd.mro, sl.toList with
    | .ref C' :: bm, [_, _, _, _, some (.builtin n), _] => decide (C' = C) && (decide (n = "ValueError.__new__") && (!cd.hasDel && (cd.hasDict && PySem.HandSPX.refsVE bm)))
    | _, _ => false)
  | _ => false
def oexB (K : PySem.W.Frag) (C : Addr) : Bool := clsB K C && (eqO (PySem.W.findIn K (.ref C) "__setattr__") (some (some (.builtin "object.__setattr__"))) && (decide (PySem.W.subIn K (.ref C) (.type "BaseException") = some true) && (decide (PySem.W.typeIn K (.ref C) = some (.type "type")) && PySem.W.keepIn K (.ref C))))
theorem oexB_ok {K : PySem.W.Frag} {C : Addr} (h : oexB K C = true) : OexC K C := by
  obtain ⟨h1, h⟩ := ba h
  obtain ⟨h2, h⟩ := ba h
  obtain ⟨h3, h⟩ := ba h
  obtain ⟨h4, h5⟩ := ba h
  refine ⟨?_, eqO_ok h2, of_decide_eq_true h3, of_decide_eq_true h4, h5⟩
  unfold clsB at h1
  split at h1
  · rename_i t dd cd sl ho
    obtain ⟨ht, h1⟩ := ba h1
    split at h1
    · rename_i C' bm k0 k1 k2 k3 n k5 hm hs
      obtain ⟨e1, h1⟩ := ba h1
      obtain ⟨e2, h1⟩ := ba h1
      obtain ⟨e3, h1⟩ := ba h1
      obtain ⟨e4, e5⟩ := ba h1
      have e1 := of_decide_eq_true e1
      have e2 := of_decide_eq_true e2
      have ht := of_decide_eq_true ht
      subst e1 e2 ht
      obtain ⟨nm, bs, mro, ns, qn, hd, sn, sub, ab, col, del⟩ := cd
      dsimp only at hm e3 e4
      subst hm e4
      have e3 : del = false := by cases del with
        | false => rfl
        | true => cases e3
      subst e3
      have hsl : sl = #[k0, k1, k2, k3, some (.builtin "ValueError.__new__"), k5] := by
        obtain ⟨l⟩ := sl
        dsimp only at hs
        rw [hs]
      subst hsl
      exact ⟨nm, qn, ns, bs, bm, sn, sub, ab, col, dd, k0, k1, k2, k3, k5, ho, e5⟩
    · cases h1
  · cases h1
inductive Fx where
  | exc (x f : Str)
  | exm (x y : Str) (b : Bool)
  | pl (x : Str)
  | sub (x y : Str)
  | cf (x m : Str)
  | ty (x : Str)
  | kit (x y : Str) (b : Bool)
  | kib (n : String) (y : Str) (b : Bool)
  | dtup (p : Str × Option Str) (i : Nat)
  | kiy (x : Str) (n : String) (b : Bool)
  | ktup (x : Str) (zs : List Str)
/-- these values are these texts -/
def strsB : List Value → List Str → Bool
  | [], [] => true
  | .str a _ :: r, z :: zs => decide (a = z) && strsB r zs
  | _, _ => false
def Fx.ok (K : PySem.W.Frag) : Fx → Bool
  | .exc x f => oexB K (ga K x) && (eqO (PySem.W.findIn K (.ref (ga K x)) f) (some none) && (decide (PySem.W.findIn K (.ref (ga K x)) "__init__" = some (some (.ref (ma K (ga K x) "__init__")))) && (decide (PySem.W.typeIn K (.ref (ma K (ga K x) "__init__")) = some (.type "function")) && xfB K (ga K x))))
  | .exm x y b => decide (PySem.W.exmOne K (.ref (ga K x)) (.ref (ga K y)) = some b)
  | .pl x => decide (PySem.W.mroIn K (ga K x) (.type "object") = some true) && (eqO (PySem.W.findIn K (.ref (ga K x)) "__eq__") (some (some (.builtin "object.__eq__"))) && eqO (PySem.W.findIn K (.ref (ga K x)) "__ne__") (some (some (.builtin "object.__ne__"))))
  | .sub x y => decide (ga K x = ga K y) || (PySem.W.subIn K (.ref (ga K y)) (.ref (ga K x))).isSome
  | .cf x m => eqO (PySem.W.specialIn K (.ref (ga K x)) "__getattribute__") (some (some (.builtin "type.__getattribute__"))) && (PySem.W.readsIn K (ga K x) (.type "type") && ((match PySem.W.findCls K (.ref (ga K x)) (.type "type") m with
    | some (.val (.ref f)) => decide (f = ma K (ga K x) m)
    | _ => false) && PySem.W.keepIn K (.ref (ma K (ga K x) m))))
  | .ty x => eqO (PySem.W.findIn K (.ref (ga K x)) "__class__") (some (some (.builtin "object.__class__"))) && (eqO (PySem.W.specialIn K (.builtin "object.__class__") "__get__") (some (some (.builtin "getset_descriptor.__get__"))) && (decide (PySem.W.takesIn K (.builtin "object.__class__") = some true) && decide (PySem.W.mroIn K (ga K x) (.type "object") = some true)))
  | .kit x y b => decide (PySem.W.kitOne K (.ref (ga K x)) (.ref (ga K y)) = some b)
  | .kib n y b => decide (PySem.W.kitOne K (.type n) (.ref (ga K y)) = some b)
  | .ktup x zs => decide (zs.length ≤ 1000) && (match K.lookup (ga K x) with
    | some ⟨.type c, _, .seq its _, _⟩ => decide (c = "tuple") && strsB its.toList zs
    | _ => false)
  | .kiy x n b => decide (PySem.W.kitOne K (.ref (ga K x)) (.type n) = some b)
  | .dtup p i => (match K.lookup (dflAt p i K) with
    | some ⟨.type c, _, .seq its _, _⟩ => decide (c = "tuple") && its.isEmpty
    | _ => false)
section
variable {K : PySem.W.Frag}
theorem exc_ok {x f : Str} (c : (Fx.exc x f).ok K = true) : ExcF K (ga K x) f := by
  obtain ⟨c1, c⟩ := ba c
  obtain ⟨c2, c⟩ := ba c
  obtain ⟨c3, c⟩ := ba c
  obtain ⟨c4, c5⟩ := ba c
  exact ⟨oexB_ok c1, eqO_ok c2, of_decide_eq_true c3, of_decide_eq_true c4, xfB_ok c5⟩
theorem exm_ok {x y : Str} {b : Bool} (c : (Fx.exm x y b).ok K = true) : PySem.W.exmOne K (.ref (ga K x)) (.ref (ga K y)) = some b := of_decide_eq_true c
theorem pl_ok {x : Str} (c : (Fx.pl x).ok K = true) : RA.PlainC K (ga K x) := by
  obtain ⟨c1, c⟩ := ba c
  obtain ⟨c2, c3⟩ := ba c
  exact ⟨of_decide_eq_true c1, eqO_ok c2, eqO_ok c3⟩
theorem sub_ok {x y : Str} (c : (Fx.sub x y).ok K = true) : RA.PairC K (ga K x) (ga K y) := by
  rcases Bool.or_eq_true_iff.mp c with c | c
  · exact .inl (of_decide_eq_true c)
  · exact .inr (Option.isSome_iff_exists.mp c)
theorem cf_ok {x m : Str} (c : (Fx.cf x m).ok K = true) : RA.CFun K (ga K x) m (ma K (ga K x) m) := by
  obtain ⟨c1, c⟩ := ba c
  obtain ⟨c2, c⟩ := ba c
  obtain ⟨c3, c4⟩ := ba c
  refine ⟨eqO_ok c1, c2, ?_, c4⟩
  cases e : PySem.W.findCls K (.ref (ga K x)) (.type "type") m with
  | none => rw [e] at c3; cases c3
  | some r =>
    rw [e] at c3
    cases r with
    | get _ _ _ _ => cases c3
    | val v =>
      cases v with
      | ref f => rw [of_decide_eq_true c3]
      | _ => cases c3
theorem ty_ok {x : Str} (c : (Fx.ty x).ok K = true) : TyC K (ga K x) := by
  obtain ⟨c1, c⟩ := ba c
  obtain ⟨c2, c⟩ := ba c
  obtain ⟨c3, c4⟩ := ba c
  exact ⟨eqO_ok c1, eqO_ok c2, of_decide_eq_true c3, of_decide_eq_true c4⟩
theorem kit_ok {x y : Str} {b : Bool} (c : (Fx.kit x y b).ok K = true) : PySem.W.kitOne K (.ref (ga K x)) (.ref (ga K y)) = some b := of_decide_eq_true c
theorem kiy_ok {x : Str} {n : String} {b : Bool} (c : (Fx.kiy x n b).ok K = true) : PySem.W.kitOne K (.ref (ga K x)) (.type n) = some b := of_decide_eq_true c
theorem kib_ok {n : String} {y : Str} {b : Bool} (c : (Fx.kib n y b).ok K = true) : PySem.W.kitOne K (.type n) (.ref (ga K y)) = some b := of_decide_eq_true c
theorem dtup_ok {p : Str × Option Str} {i : Nat} (h : (Fx.dtup p i).ok K = true) (H : Hp) : SqT K H (dflAt p i K) [] := by
  have h1 : (match K.lookup (dflAt p i K) with
    | some ⟨.type c, _, .seq its _, _⟩ => decide (c = "tuple") && its.isEmpty
    | _ => false) = true := h
  cases q : K.lookup (dflAt p i K) with
  | none => rw [q] at h1; cases h1
  | some o =>
    obtain ⟨oc, od, dt, osl⟩ := o
    rw [q] at h1
    cases oc with
    | type c =>
      cases dt with
      | seq its n =>
        obtain ⟨h2, h3⟩ := ba (show (decide (c = "tuple") && its.isEmpty) = true from h1)
        have e3 : its = #[] := Array.isEmpty_iff.mp h3
        subst e3
        exact .inr ⟨_, #[], n, q, congrArg Value.type (of_decide_eq_true h2), rfl, Nat.zero_le _, .nil⟩
      | _ => cases h1
    | _ => cases dt <;> cases h1
theorem strs_vals : ∀ {us : List Value} {zs : List Str}, strsB us zs = true → Vals (zs.map V.str) us
  | [], [], _ => .nil
  | .str a t :: r, z :: zs, h => by
    obtain ⟨h1, h2⟩ := ba (show (decide (a = z) && strsB r zs) = true from h)
    obtain rfl := of_decide_eq_true h1
    exact .cons ⟨t, rfl⟩ (strs_vals h2)
theorem ktup_ok {x : Str} {zs : List Str} (h : (Fx.ktup x zs).ok K = true) (H : Hp) : SqT K H (ga K x) (zs.map V.str) := by
  obtain ⟨h0, h⟩ := ba h
  have h1 : (match K.lookup (ga K x) with
    | some ⟨.type c, _, .seq its _, _⟩ => decide (c = "tuple") && strsB its.toList zs
    | _ => false) = true := h
  cases q : K.lookup (ga K x) with
  | none => rw [q] at h1; cases h1
  | some o =>
    obtain ⟨oc, od, dt, osl⟩ := o
    rw [q] at h1
    cases oc with
    | type c =>
      cases dt with
      | seq its n =>
        obtain ⟨h2, h3⟩ := ba (show (decide (c = "tuple") && strsB its.toList zs) = true from h1)
        have hv := strs_vals h3
        refine .inr ⟨_, its, n, q, congrArg Value.type (of_decide_eq_true h2), rfl, ?_, hv⟩
        have hl := hv.length
        have hz := of_decide_eq_true h0
        rw [List.length_map] at hl
        have : its.size = zs.length := by rw [← Array.length_toList]; omega
        rw [this, sizeLine_eq]; omega
      | _ => cases h1
    | _ => cases dt <;> cases h1
theorem TyC.tyx {C a dx : Addr} {H : Hp} {fs : List (Str × V)} (t : TyC K C) (c : Cls K C) (e : H a = some (.ins C dx fs)) : TyX K H (.ref a) (.ref C) := .base (.ins e c t.ha t.hn t.ht t.hm)
end
/-! ### dicts of the top -/
def keyE (e : DictEntry) : Option (Key × Int) := match e.key with
  | .int i _ => some (Sum.inl i, e.hash)
  | .str x _ => some (Sum.inr x, e.hash)
  | _ => none
def keyHP (P : Params) : Key → Int
  | .inl i => hashInt i
  | .inr x => PyData.keyHash P x
abbrev Tb : Type := Str × List (Key × Dv)
def tbRow (K : PySem.W.Frag) (x : Str) : Option (List (Option (Key × Int))) := match K.lookup (ga K x) with
  | some ⟨.type c, none, .dict es _, sl⟩ => (match decide (c = "dict") && (sl.isEmpty && !(ga K x == sysModules)) with
    | true => some (es.toList.map keyE)
    | false => none)
  | _ => none
def tbWant (P : Params) (kvs : List (Key × Dv)) : Option (List (Option (Key × Int))) := some (kvs.map fun q => some (q.1, keyHP P q.1))
def tbVals (K : PySem.W.Frag) (t : Tb) : Bool := decide ((t.2.map (·.1)).Nodup) && (decide (t.2.length ≤ sizeLine) && (match K.lookup (ga K t.1) with
  | some ⟨_, _, .dict es _, _⟩ => relAll (t.2.map fun q => q.2.v K) (es.toList.map (·.val))
  | _ => false))
/-- a dict of the top with these items -/
structure KD (P : Program) (w : World) (K : PySem.W.Frag) (a : Addr) (kvs : List (Key × V)) : Prop where
  low : (a == sysModules) = false
  len : kvs.length ≤ sizeLine
  at_ : ∃ vs, KV kvs vs ∧ ∀ h : Heap, K.In h → h.DictOf (mixKind P w) a vs
theorem rows_pairs {P : Program} {w : World} : ∀ {es : List DictEntry} {kvs : List (Key × V)}, es.map keyE = kvs.map (fun q => some (q.1, keyHP w.params q.1)) → relAll (kvs.map (·.2)) (es.map (·.val)) = true →
    ∃ vs, KV kvs vs ∧ Pairs (mixKind P w) es vs ∧ vs.map (·.1) = kvs.map (·.1) ∧ ∀ e ∈ es, ∃ k, (mixKind P w).is k e.key = true ∧ e.hash = (mixKind P w).hash k
  | [], [], _, _ => ⟨[], .nil, .nil, rfl, fun _ h => nomatch h⟩
  | [], _ :: _, h, _ => by cases h
  | _ :: _, [], h, _ => by cases h
  | e :: es, q :: kvs, h, hv => by
    rw [List.map_cons, List.map_cons] at h
    injection h with h1 h2
    obtain ⟨v1, v2⟩ := ba (show (relB q.2 e.val && relAll (kvs.map (·.2)) (es.map (·.val))) = true from hv)
    obtain ⟨vs, r, p, n, kk⟩ := rows_pairs (P := P) h2 v2
    have key : (mixKind P w).is q.1 e.key = true ∧ e.hash = (mixKind P w).hash q.1 := by
      unfold keyE at h1
      split at h1
      · rename_i i t ek
        have h3 := Prod.mk.inj (Option.some.inj h1)
        rw [← h3.1, ek]
        refine ⟨mixKind_int P w i t, ?_⟩
        rw [h3.2, ← h3.1]; rfl
      · rename_i x t ek
        have h3 := Prod.mk.inj (Option.some.inj h1)
        rw [← h3.1, ek]
        refine ⟨mixKind_str P w x t, ?_⟩
        rw [h3.2, ← h3.1]; rfl
      · cases h1
    refine ⟨(q.1, e.val) :: vs, .cons ⟨rfl, relB_ok v1⟩ r, .cons key.1 rfl p, by rw [List.map_cons, List.map_cons, n], fun e' he => ?_⟩
    rcases List.mem_cons.mp he with rfl | he
    · exact ⟨q.1, key⟩
    · exact kk e' he
theorem kd_of {P : Program} {w : World} {K : PySem.W.Frag} {t : Tb} (h1 : tbRow K t.1 = tbWant w.params t.2) (h2 : tbVals K t = true) : KD P w K (ga K t.1) (t.2.map fun q => (q.1, q.2.v K)) := by
  obtain ⟨nd, h2⟩ := ba h2
  obtain ⟨ln, h2⟩ := ba h2
  unfold tbRow tbWant at h1
  cases q : K.lookup (ga K t.1) with
  | none => rw [q] at h1; cases h1
  | some o =>
    obtain ⟨oc, od, dt, osl⟩ := o
    rw [q] at h1 h2
    cases oc with
    | type c =>
      cases od with
      | none =>
        cases dt with
        | dict es n =>
          have h3 : (match decide (c = "dict") && (osl.isEmpty && !(ga K t.1 == sysModules)) with
            | true => some (es.toList.map keyE)
            | false => none) = some (t.2.map fun q => some (q.1, keyHP w.params q.1)) := h1
          cases z : decide (c = "dict") && (osl.isEmpty && !(ga K t.1 == sysModules)) with
          | false => rw [z] at h3; cases h3
          | true =>
            rw [z] at h3
            obtain ⟨z1, z2⟩ := ba z
            obtain ⟨z3, z4⟩ := ba z2
            have e1 : c = "dict" := of_decide_eq_true z1
            have e2 : osl = #[] := Array.isEmpty_iff.mp z3
            have e3 : (ga K t.1 == sysModules) = false := by
              cases y : (ga K t.1 == sysModules) with
              | false => rfl
              | true => rw [y] at z4; cases z4
            subst e1 e2
            have h4 : es.toList.map keyE = (t.2.map fun q => (q.1, q.2.v K)).map (fun q => some (q.1, keyHP w.params q.1)) := by
              rw [List.map_map]
              exact Option.some.inj h3
            have h5 : relAll ((t.2.map fun q => (q.1, q.2.v K)).map (·.2)) (es.toList.map (·.val)) = true := by
              rw [List.map_map]
              exact h2
            obtain ⟨vs, r, p, nm, kk⟩ := rows_pairs (P := P) h4 h5
            refine ⟨e3, by rw [List.length_map]; exact of_decide_eq_true ln, vs, r, fun h X => ⟨_, es, n, X _ _ q, ⟨rfl, rfl, rfl⟩, rfl, fun e he => kk e (Array.mem_toList_iff.mpr he), p, ?_⟩⟩
            rw [nm, List.map_map]
            exact of_decide_eq_true nd
        | _ => cases h1
      | some d => cases dt <;> cases h1
    | _ => cases od <;> cases dt <;> cases h1
section
variable {X : Cx}
/-- dict(D), D a dict of the top: a new one -/
theorem call_dictK {D : Addr} {kvs : List (Key × V)} (k : KD X.prog X.w X.K D kvs) : CallR X (.type "dict") (fun xs H Q => xs = [.ref D] ∧ ∀ p, H p = none → Q (.ref p) (upd H p (.dK kvs))) := by
  intro pins s σ H xs us Q I r q
  obtain ⟨ex, q⟩ := q
  subst ex
  obtain ⟨u, eu, rx⟩ := vals1 r
  subst eu
  cases rx
  obtain ⟨vs, rel, dd⟩ := k.at_
  refine kt_call_dict k.low (dd _ I.kIn) (by rw [← rel.length]; exact k.len) fun h' d' hs => ?_
  have hm : (s.heap.objs.size == sysModules) = false := beq_eq_false_iff_ne.mpr (Nat.ne_of_gt I.big)
  exact ⟨.ref s.heap.objs.size, upd H s.heap.objs.size (.dK kvs), I.laid (t' := s.toks) (fun b u e => (hs.2 b (Nat.ne_of_lt (Heap.lt_size e))).trans (Heap.get?_push_of_some _ e)) (Nat.le_refl _)
    (show ObjOk X.prog X.w _ _ _ (.dK kvs) from ⟨k.len, hm, vs, rel, d'⟩), rfl, q _ (I.hok.fresh (Nat.le_refl _))⟩
end
/-! ### the Hook -/
abbrev AlB : Type := AlD × List (Option (List (Option (Key × Int)))) × Bool
def obsB (fa : List Fa) (fx : List Fx) (fn : List DefD) (ts : List Tb) (K : PySem.W.Frag) : AlB := (obsD fa fn K, ts.map fun t => tbRow K t.1, (fx.all fun f => f.ok K) && ts.all fun t => tbVals K t)
def valB (fn : List DefD) (ts : List Tb) (w : World) : AlB := (valD fn, ts.map fun t => tbWant w.params t.2, true)
def SaysB (fa : List Fa) (fx : List Fx) (fn : List DefD) (ts : List Tb) (w : World) (K : PySem.W.Frag) : Prop := obsB fa fx fn ts K = valB fn ts w
/-- and the objects that are defaults: one step further, for those alone -/
def extraB (g : Addr → Option Obj) (fx : List Fx) (as : List Addr) : List Addr := cStatics :: (as ++ fx.filterMap fun
  | .dtup p i => some (dflAt p i (frG g as))
  | .ktup x _ => some (ga (frG g as) x)
  | _ => none)
def obsBG (n : Nat) (fa : List Fa) (fx : List Fx) (fn : List DefD) (ts : List Tb) (g : Addr → Option Obj) : AlB := obsB fa fx fn ts (frG g (extraB g fx (asD g n)))
def hookB (n : Nat) (fa : List Fa) (fx : List Fx) (fn : List DefD) (ts : List Tb) : PySem.W.Hook where
  α := AlB
  obs := fun s => obsBG n fa fx fn ts s.heap.get?
  val := fun w => valB fn ts w
  says := fun w h => ∃ K : PySem.W.Frag, K.In h ∧ SaysB fa fx fn ts w K
  of := fun _ _ e => ⟨_, frG_in, e⟩
  keeps := fun _ _ _ ⟨K, hK, c⟩ k => ⟨K, PySem.W.Frag.In.keeps hK k, c⟩
theorem obsBG_eq {n : Nat} {fa : List Fa} {fx : List Fx} {fn : List DefD} {ts : List Tb} {g : Addr → Option Obj} {s : Shared} (h : ∀ a, g a = s.heap.get? a) : obsBG n fa fx fn ts g = (hookB n fa fx fn ts).obs s := by
  have e : g = s.heap.get? := funext h
  rw [e] <;> rfl
section
variable {fa : List Fa} {fx : List Fx} {fn : List DefD} {ts : List Tb} {w : World} {K : PySem.W.Frag}
theorem SaysB.d (c : SaysB fa fx fn ts w K) : SaysD fa fn K := congrArg (fun z : AlB => z.1) c
theorem SaysB.fact (c : SaysB fa fx fn ts w K) (i : Nat) {f : Fa} (h : fa[i]? = some f := by rfl) : f.ok K = true := c.d.fact i h
theorem SaysB.more (c : SaysB fa fx fn ts w K) (i : Nat) {f : Fx} (h : fx[i]? = some f := by rfl) : f.ok K = true := by
  have c1 := (ba (show ((fx.all fun f => f.ok K) && ts.all fun t => tbVals K t) = true from congrArg (fun z : AlB => z.2.2) c)).1
  exact List.all_eq_true.mp c1 f (List.mem_of_getElem? h)
theorem SaysB.tb (c : SaysB fa fx fn ts w K) (i : Nat) {t : Tb} (h : ts[i]? = some t := by rfl) (P : Program) : KD P w K (ga K t.1) (t.2.map fun q => (q.1, q.2.v K)) := by
  have c1 := (ba (show ((fx.all fun f => f.ok K) && ts.all fun t => tbVals K t) = true from congrArg (fun z : AlB => z.2.2) c)).2
  have e : ts.map (fun t => tbRow K t.1) = ts.map fun t => tbWant w.params t.2 := congrArg (fun z : AlB => z.2.1) c
  have e2 : (ts.map fun t => tbRow K t.1)[i]? = (ts.map fun t => tbWant w.params t.2)[i]? := by rw [e]
  rw [List.getElem?_map, List.getElem?_map, h] at e2
  exact kd_of (Option.some.inj e2) (List.all_eq_true.mp c1 t (List.mem_of_getElem? h))
end
end RB

set_option Elab.async false
set_option linter.all false
set_option maxRecDepth 100000
set_option maxHeartbeats 4000000
/-! What a caller needs of a def, in one word; the stream of draws. -/
namespace RC
open PySem PySem.Spec PyProof.Rows L2 He
/-- the def at f may be called with all parameters but the last ones, whose defaults are dvs -/
def Callable (P : Program) (w : World) (K : PySem.W.Frag) (mg : Str → Option Value) (base : Heap) (k : Nat) (f : Addr) (ps : List Str) (dvs : List V) (sp : Sp) : Prop :=
  ∃ fd ds, FnOk P w K mg base CX0 k f fd ps sp ∧ Vals dvs ds ∧ Binds K fd ps ds ∧ PySem.W.keepIn K (.ref f) = true
section
variable {X : Cx} {k : Nat} {f C : Addr} {ps : List Str} {sp : Sp} {dvs : List V} {x m : Str} {p pos apos : Pos} {e o : Expr} {es : List Expr} {ta : TE} {t : TA} {pl : Sem Bool}
theorem pe_fn (hm : X.mg x = some (.ref f)) (c : Callable X.prog X.w X.K X.mg X.base k f ps dvs sp) (hr : Room k X.A) (hg : Gl X x) (ha : PA X (e :: es) t) (hdb : (x == ("__debug__" : Str)) = false := by decide)
    (he : starEach (e :: es) X.env = (false, eval e X.env) :: starEach es X.env := by rfl) (hpl : (backTo pos (starEach es X.env)).any (·.1) = false := by rfl) : PE X (.Call (.Name x p) (e :: es) [] pos) (tCall sp dvs E0 t) := by
  obtain ⟨fd, ds, F, hd, hb, hk⟩ := c
  exact pe_call F hr hg hm hk hb hd pass0 ha hdb he hpl
theorem pe_fn0 (hm : X.mg x = some (.ref f)) (c : Callable X.prog X.w X.K X.mg X.base k f ps dvs sp) (hr : Room k X.A) (hg : Gl X x) (hdb : (x == ("__debug__" : Str)) = false := by decide) : PE X (.Call (.Name x p) [] [] pos) (tCall sp dvs E0 tNil) := by
  obtain ⟨fd, ds, F, hd, hb, hk⟩ := c
  exact pe_call0 F hr hg hm hk hb hd pass0 hdb
theorem pe_mt (cl : Cls X.K C) (hm : Meth X.K C m f) (c : Callable X.prog X.w X.K X.mg X.base k f ps dvs sp) (hr : Room k X.A) (he : PE X o ta) (ha : PA X (e :: es) t)
    (hst : starEach (e :: es) X.env = (false, eval e X.env) :: starEach es X.env := by rfl) (hpl : (backTo pos (starEach es X.env)).any (·.1) = false := by rfl)
    (ht : eval (.Call (.Attribute o m apos) (e :: es) [] pos) X.env = (do
      let ov ← eval o X.env
      standAt apos.atName
      let (f, first) ← holding [ov] (getMethod ov m pl)
      callWith pos f first (backTo pos (starEach (e :: es) X.env)) (backToKw pos (keywordEach [] X.env))) := by rfl) :
    PE X (.Call (.Attribute o m apos) (e :: es) [] pos) (tMeth C m sp dvs E0 ta t) := by
  obtain ⟨fd, ds, F, hd, hb, hk⟩ := c
  exact pe_meth he cl hm F hr hb hd pass0 ha hst hpl ht
theorem pe_mt0 (cl : Cls X.K C) (hm : Meth X.K C m f) (c : Callable X.prog X.w X.K X.mg X.base k f ps dvs sp) (hr : Room k X.A) (he : PE X o ta)
    (ht : eval (.Call (.Attribute o m apos) [] [] pos) X.env = (do
      let ov ← eval o X.env
      standAt apos.atName
      let (f, first) ← holding [ov] (getMethod ov m pl)
      callWith pos f first (backTo pos (starEach [] X.env)) (backToKw pos (keywordEach [] X.env))) := by rfl) :
    PE X (.Call (.Attribute o m apos) [] [] pos) (tMeth C m sp dvs E0 ta tNil) := by
  obtain ⟨fd, ds, F, hd, hb, hk⟩ := c
  exact pe_meth0 he cl hm F hr hb hd pass0 ht
theorem pe_mk (M : Mk X.K C f) (hm : X.mg x = some (.ref C)) (c : Callable X.prog X.w X.K X.mg X.base k f ps dvs sp) (hr : Room (k + 1) X.A) (hg : Gl X x) (ha : PA X (e :: es) t) (hdb : (x == ("__debug__" : Str)) = false := by decide)
    (he : starEach (e :: es) X.env = (false, eval e X.env) :: starEach es X.env := by rfl) (hpl : (backTo pos (starEach es X.env)).any (·.1) = false := by rfl) : PE X (.Call (.Name x p) (e :: es) [] pos) (tMake C sp dvs E0 t) := by
  obtain ⟨fd, ds, F, hd, hb, hk⟩ := c
  exact pe_make M F hr hg hm hb hd pass0 ha hdb he hpl
theorem pe_mk0 (M : Mk X.K C f) (hm : X.mg x = some (.ref C)) (c : Callable X.prog X.w X.K X.mg X.base k f ps dvs sp) (hr : Room (k + 1) X.A) (hg : Gl X x) (hdb : (x == ("__debug__" : Str)) = false := by decide) : PE X (.Call (.Name x p) [] [] pos) (tMake C sp dvs E0 tNil) := by
  obtain ⟨fd, ds, F, hd, hb, hk⟩ := c
  exact pe_make0 M F hr hg hm hb hd pass0 hdb
theorem pe_cf (cf : RA.CFun X.K C m f) (c : Callable X.prog X.w X.K X.mg X.base k f ps dvs sp) (hr : Room k X.A) (he : PE X o ta) (ha : PA X (e :: es) t)
    (hst : starEach (e :: es) X.env = (false, eval e X.env) :: starEach es X.env := by rfl) (hpl : (backTo pos (starEach es X.env)).any (·.1) = false := by rfl)
    (ht : eval (.Call (.Attribute o m apos) (e :: es) [] pos) X.env = (do
      let ov ← eval o X.env
      standAt apos.atName
      let (f, first) ← holding [ov] (getMethod ov m pl)
      callWith pos f first (backTo pos (starEach (e :: es) X.env)) (backToKw pos (keywordEach [] X.env))) := by rfl) :
    PE X (.Call (.Attribute o m apos) (e :: es) [] pos) (RA.tCFun C sp dvs E0 ta t) := by
  obtain ⟨fd, ds, F, hd, hb, hk⟩ := c
  exact RA.pe_cfun he cf F hr hb hd pass0 ha hst hpl ht
end
section
variable {P : Program} {w : World} {K : PySem.W.Frag} {mg : Str → Option Value} {base : Heap} {x qual : Str} {params : Arguments} {body : List Stmt} {scope : Scope} {dvs : List V} {f : Addr} {k : Nat} {N ps : List Str} {sp : Sp}
/-- a def that stands there -/
def Stands (K : PySem.W.Frag) (x qual : Str) (st : Stmt) (dvs : List V) (f : Addr) : Prop := ∃ fd, FunD K x qual (defArgs st) (defBody st) (defScope st) dvs [] f fd
/-- THE RULE for a def, whatever its defaults: what it promises of every call; bind: how its arguments bind with the first n parameters given -/
theorem Stands.call {st : Stmt} (F : Stands K x qual st dvs f) (S : FnScope N ps (defScope st)) (n j : Nat) (len : ∀ vs H Q E, sp vs H Q E → vs.length = ps.length)
    (hbody : ∀ (cdv : Value) (A : Around) (outer : List Env) (s : Shared) (H : Hp) (vs : List V) (Q : VK) (E : XK), Room k (A.deeper (envOfC qual (defScope st) s.heap.objs.size f cdv)) → sp vs H Q E →
      ∃ t, PSs (cxOf CX0 P w K mg base N qual (defScope st) f cdv A outer s H E).nox (defBody st) t ∧ t { nx := fun _ H' => Q .non H', rt := Q } (start N vs) H)
    (h0 : dvs = [] → n = ps.length ∧ ∀ (kV doc pm : Value) (an : Option Addr) (cdv ct : Value) (us : List Value), us.length = ps.length → bindArgs (PySem.W.fnOf x qual (defArgs st) (defBody st) (defScope st) .none kV doc pm an cdv ct) ⟨us, []⟩ = pure (ps.zip us))
    (h1 : dvs ≠ [] → n + (dvs.length - j) = ps.length ∧ ∀ (T : Addr) (kV doc pm : Value) (an : Option Addr) (cdv ct : Value) (us its : List Value), us.length = n → its.length = dvs.length →
      ∃ k, bindArgs (PySem.W.fnOf x qual (defArgs st) (defBody st) (defScope st) (.ref T) kV doc pm an cdv ct) ⟨us, []⟩ = seqItems? (.ref T) >>= k ∧ k (some its.toArray) = pure (ps.zip (us ++ its.drop j))) :
    Callable P w K mg base (k + 1) f ps (dvs.drop j) sp := by
  obtain ⟨fd, F⟩ := F
  have ok : FnOk P w K mg base CX0 (k + 1) f fd ps sp := F.ok S len fun cdv A outer s H vs Q E hr hsp => by
    obtain ⟨t, h, q⟩ := hbody cdv A outer s H vs Q E hr hsp
    exact ⟨t, h.nox, q⟩
  by_cases hd : dvs = []
  · subst hd
    exact ⟨fd, [], ok, by rw [List.drop_nil]; exact .nil, F.bindsN (h0 rfl).2, F.kp⟩
  · obtain ⟨ds, hv, hb⟩ := F.binds1 n j hd (h1 hd).1 (h1 hd).2
    exact ⟨fd, ds, ok, hv, hb, F.kp⟩
/-- no defaults -/
theorem Stands.call0 {st : Stmt} (F : Stands K x qual st [] f) (S : FnScope N ps (defScope st)) (len : ∀ vs H Q E, sp vs H Q E → vs.length = ps.length)
    (hbody : ∀ (cdv : Value) (A : Around) (outer : List Env) (s : Shared) (H : Hp) (vs : List V) (Q : VK) (E : XK), Room k (A.deeper (envOfC qual (defScope st) s.heap.objs.size f cdv)) → sp vs H Q E →
      ∃ t, PSs (cxOf CX0 P w K mg base N qual (defScope st) f cdv A outer s H E).nox (defBody st) t ∧ t { nx := fun _ H' => Q .non H', rt := Q } (start N vs) H)
    (h0 : ∀ (kV doc pm : Value) (an : Option Addr) (cdv ct : Value) (us : List Value), us.length = ps.length → bindArgs (PySem.W.fnOf x qual (defArgs st) (defBody st) (defScope st) .none kV doc pm an cdv ct) ⟨us, []⟩ = pure (ps.zip us)) :
    Callable P w K mg base (k + 1) f ps [] sp := by
  obtain ⟨fd, F⟩ := F
  have ok : FnOk P w K mg base CX0 (k + 1) f fd ps sp := F.ok S len fun cdv A outer s H vs Q E hr hsp => by
    obtain ⟨t, h, q⟩ := hbody cdv A outer s H vs Q E hr hsp
    exact ⟨t, h.nox, q⟩
  exact ⟨fd, [], ok, .nil, F.bindsN h0, F.kp⟩
theorem Callable.imp {sp' : Sp} {dv : List V} (c : Callable P w K mg base k f ps dv sp) (h : ∀ vs H Q E, sp' vs H Q E → sp vs H Q E) : Callable P w K mg base k f ps dv sp' :=
  let ⟨fd, ds, F, r⟩ := c
  ⟨fd, ds, F.imp h, r⟩
theorem Callable.up {j : Nat} {dv : List V} (c : Callable P w K mg base j f ps dv sp) (h : j ≤ k) : Callable P w K mg base k f ps dv sp :=
  let ⟨fd, ds, F, r⟩ := c
  ⟨fd, ds, F.mono h, r⟩
end
/-! ### heaps -/
theorem same_new {H : Hp} {p : Addr} (h : H p = none) (o : HO) : Same H (upd H p o) := fun b u q => by rw [upd_ne (ne_of_none q h)]; exact q
theorem _root_.L2.Same.seqT {K : PySem.W.Frag} {H H' : Hp} {a : Addr} {xs : List V} (e : Same H H') (h : SqT K H a xs) : SqT K H' a xs := by
  rcases h with (h | ⟨o, h⟩) | h
  · exact .inl (.inl (e _ _ h))
  · exact .inl (.inr ⟨o, e _ _ h⟩)
  · exact .inr h
theorem upd_none {H : Hp} {a p : Addr} {o : HO} (h : upd H a o p = none) : p ≠ a ∧ H p = none := by
  by_cases e : p = a
  · subst e; rw [upd_same] at h; cases h
  · rw [upd_ne e] at h; exact ⟨e, h⟩
/-! ### the stream of draws -/
/-- the law's stream at s: its list of ints at l, the number at hand, how many were made up, the seed; n: a bound of those made up -/
def Stm (H : Hp) (s l : Addr) (n : Nat) : Prop := s ≠ l ∧ ∃ (ns : List Int) (x c d : Int), H s = some (.lst [.ref l, .int x, .int c, .int d]) ∧ H l = some (.lst (ns.map V.int)) ∧ ns.length ≤ 63 ∧ 0 ≤ x ∧ 0 ≤ c ∧ c ≤ n ∧ 0 ≤ d ∧ d < 2147483647
theorem Stm.mono {H : Hp} {s l : Addr} {n m : Nat} (h : Stm H s l n) (k : n ≤ m) : Stm H s l m := by
  obtain ⟨ne, ns, x, c, d, h1, h2, h3, h4, h5, h6, h7, h8⟩ := h
  exact ⟨ne, ns, x, c, d, h1, h2, h3, h4, h5, by omega, h7, h8⟩
theorem Stm.same {H H' : Hp} {s l : Addr} {n : Nat} (h : Stm H s l n) (k : Same H H') : Stm H' s l n := by
  obtain ⟨ne, ns, x, c, d, h1, h2, h3⟩ := h
  exact ⟨ne, ns, x, c, d, k _ _ h1, k _ _ h2, h3⟩
/-- all but the stream is as it was -/
def But (s l : Addr) (H H' : Hp) : Prop := ∀ b, b ≠ s → b ≠ l → H' b = H b
/-- all that was there but the stream is as it was -/
def Old (s l : Addr) (H H' : Hp) : Prop := ∀ b o, b ≠ s → b ≠ l → H b = some o → H' b = some o
theorem But.old {s l : Addr} {H H' : Hp} (h : But s l H H') : Old s l H H' := fun b o h1 h2 e => by rw [h b h1 h2]; exact e
theorem Old.refl {s l : Addr} (H : Hp) : Old s l H H := fun _ _ _ _ e => e
theorem Old.trans {s l : Addr} {H H1 H2 : Hp} (a : Old s l H H1) (b : Old s l H1 H2) : Old s l H H2 := fun c o h1 h2 e => b c o h1 h2 (a c o h1 h2 e)
theorem Old.of_same {s l : Addr} {H H' : Hp} (h : Same H H') : Old s l H H' := fun b o _ _ e => h b o e
section
variable {X : Cx} {x : Str} {pos : Pos}
theorem pe_gi {i : Int} (hg : Gl X x) (hm : ∃ t, X.mg x = some (.int i t)) (hd : (x == ("__debug__" : Str)) = false := by decide) : PE X (.Name x pos) (tC (.int i)) := by
  obtain ⟨t, h⟩ := hm
  exact pe_glob hg h ⟨t, rfl⟩ (by first | assumption | exact hd)
theorem pe_gs {z : Str} (hg : Gl X x) (hm : ∃ t, X.mg x = some (.str z t)) (hd : (x == ("__debug__" : Str)) = false := by decide) : PE X (.Name x pos) (tC (.str z)) := by
  obtain ⟨t, h⟩ := hm
  exact pe_glob hg h ⟨t, rfl⟩ (by first | assumption | exact hd)
end
/-! ### in a comprehension's block the written part is the def's own: rules that name it -/
section
variable {X : Cx} {K : PySem.W.Frag}
theorem opK (r : PySem.W.Frag → R2) {f : Value → Value → Sem Value} (h : OpR X f (r X.K)) (e : X.K = K := by rfl) : OpR X f (r K) := e ▸ h
theorem callK (r : PySem.W.Frag → List V → Hp → VK → Prop) {f : Value} (h : CallR X f (r X.K)) (e : X.K = K := by rfl) : CallR X f (r K) := e ▸ h
theorem ixK (r : PySem.W.Frag → R2) (h : IxR X (r X.K)) (e : X.K = K := by rfl) : IxR X (r K) := e ▸ h
theorem pe_fldK {e : Expr} {f : Str} {pos : Pos} {ta : TE} (he : PE X e ta) (hb : attributeBase e f X.env (eval e X.env) = eval e X.env) (z : X.K = K := by rfl) : PE X (.Attribute e f pos) (tFld K ta f) := z ▸ pe_fld he hb
end
/-- an expression that is never reached -/
def tNo : TE := fun _ _ _ => False
theorem pe_never {X : Cx} {e : Expr} : PE X e tNo := ⟨fun _ _ _ _ _ _ h => h.elim⟩
def tNoT : TT := fun _ _ _ => False
theorem pt_never {X : Cx} {e : Expr} : PT X e tNoT := ⟨fun _ _ _ _ _ _ h => h.elim⟩
theorem tyx_tup {K : PySem.W.Frag} {H : Hp} {a : Addr} {xs : List V} (h : SqT K H a xs) : TyX K H (.ref a) (.type "tuple") := by
  rcases h with (h | ⟨o, h⟩) | ⟨o, its, n, h, c, _⟩
  · exact .base (.tup h)
  · exact .fTuple h
  · exact .kTuple h c
theorem tyx_lst {K : PySem.W.Frag} {H : Hp} {a : Addr} {xs : List V} (h : SqL K H a xs) : TyX K H (.ref a) (.type "list") := by
  rcases h with (h | ⟨o, h⟩) | ⟨o, its, n, h, c, _⟩
  · exact .base (.lst h)
  · exact .base (.frz h)
  · exact .kList h c
/-- behind a lock all is as it was but the new -/
theorem unlock {H : Hp} {d D : Addr} {f u o : HO} (hd : H d = some u) (hD : upd H d f D = none) : upd (upd (upd H d f) D o) d u = upd H D o := by
  have ne : D ≠ d := (upd_none hD).1
  funext b
  by_cases e : b = d
  · subst e; rw [upd_same, upd_ne (Ne.symm ne)]; exact hd.symm
  · rw [upd_ne e]
    by_cases z : b = D
    · subst z; rw [upd_same, upd_same]
    · rw [upd_ne z, upd_ne z, upd_ne e]
theorem iteT' {c : Bool} {A B : Prop} (hc : c = true) (h : A) : if c = true then A else B := by rw [if_pos hc]; exact h
theorem iteF' {c : Bool} {A B : Prop} (hc : c = false) (h : B) : if c = true then A else B := by rw [if_neg (by rw [hc]; exact Bool.false_ne_true)]; exact h
end RC

set_option Elab.async false
set_option linter.all false
set_option maxRecDepth 100000
set_option maxHeartbeats 4000000
/-! Further rules: two lists of the same objects are equal; a text times an int. -/
namespace RD
open PySem PySem.Spec PyProof.Rows PySem.SeqAt L2
def rNeRefs (K : PySem.W.Frag) : R2 := fun x y H Q => ∃ (a b : Addr) (as : List Addr), x = .ref a ∧ y = .ref b ∧ SqL K H a (as.map V.ref) ∧ SqL K H b (as.map V.ref) ∧ Q (.bl false) H
def rEqRefs (K : PySem.W.Frag) : R2 := fun x y H Q => ∃ (a b : Addr) (as : List Addr), x = .ref a ∧ y = .ref b ∧ SqL K H a (as.map V.ref) ∧ SqL K H b (as.map V.ref) ∧ Q (.bl true) H
def rMulS : R2 := fun x y H Q => ∃ (i : Str) (k : Int), x = .str i ∧ y = .int k ∧ PySem.MulOk i k ∧ Q (.str (Txt.mul i k)) H
section
variable {X : Cx}
theorem vals_refs : ∀ {as : List Addr} {us : List Value}, Vals (as.map V.ref) us → us = as.map Value.ref
  | [], _, .nil => rfl
  | a :: as, _, .cons r t => by
    cases r
    rw [vals_refs t]; rfl
theorem all_true (n : Nat) : (List.range n).all (fun _ => true) = true := by simp
theorem op_neRefs (hu : X.A.units < cLine) : OpR X (compareOp .NotEq) (rNeRefs X.K) := by
  intro pins s σ H x y v u Q I rx ry h
  obtain ⟨a, b, as, rfl, rfl, ha, hb, q⟩ := h
  cases rx
  cases ry
  obtain ⟨its, rv, hl, _⟩ := I.list ha
  obtain ⟨its2, rv2, hl2, _⟩ := I.list hb
  obtain rfl := vals_refs rv
  obtain rfl := vals_refs rv2
  refine RcNeAt.lists (e := fun _ => true) hl.isList hl2.isList rfl hu (fun j h1 h2 => EqAt.same _) X.prog X.w X.xe _ ?_
  rw [all_true]
  exact fin_bl I q rfl
theorem op_eqRefs (hu : X.A.units < cLine) : OpR X (compareOp .Eq) (rEqRefs X.K) := by
  intro pins s σ H x y v u Q I rx ry h
  obtain ⟨a, b, as, rfl, rfl, ha, hb, q⟩ := h
  cases rx
  cases ry
  obtain ⟨its, rv, hl, _⟩ := I.list ha
  obtain ⟨its2, rv2, hl2, _⟩ := I.list hb
  obtain rfl := vals_refs rv
  obtain rfl := vals_refs rv2
  refine eq_listAt (e := fun _ => true) hl.isList hl2.isList rfl hu (fun j h1 h2 => EqAt.same _) ?_
  rw [all_true]
  exact fin_bl I q rfl
theorem op_mulS : OpR X (binaryOp .Mult) rMulS := by
  intro pins s σ H x y v u Q I rx ry h
  obtain ⟨i, k, rfl, rfl, hk, q⟩ := h
  obtain ⟨t, rfl⟩ := rx
  obtain ⟨t', rfl⟩ := ry
  exact PySem.SB.mul hk fun t2 k2 => ⟨.str (Txt.mul i k), H, I.tok k2, ⟨_, rfl⟩, q⟩
end
end RD

set_option Elab.async false
set_option linter.all false
set_option maxRecDepth 100000
set_option maxHeartbeats 4000000
/-! Rows of texts in order: there is one alone. -/
namespace RE
open PySem PySem.Spec PyProof.Rows L2
def le (a b : List Nat) : Prop := ltCps b a = false
theorem lt_split : ∀ (a b c : List Nat), ltCps a c = true → ltCps a b = true ∨ ltCps b c = true
  | [], [], c, h => .inr h
  | [], _ :: _, _, _ => .inl rfl
  | _ :: _, _, [], h => nomatch h
  | x :: a, [], z :: c, h => .inr rfl
  | x :: a, y :: b, z :: c, h => by
    have h : (decide (x < z) || (x == z && ltCps a c)) = true := h
    show (decide (x < y) || (x == y && ltCps a b)) = true ∨ (decide (y < z) || (y == z && ltCps b c)) = true
    rcases Nat.lt_trichotomy x y with h1 | h1 | h1
    · exact .inl (by rw [decide_eq_true h1]; rfl)
    · subst h1
      rcases Bool.or_eq_true_iff.mp h with h2 | h2
      · exact .inr (by rw [h2]; rfl)
      · obtain ⟨h3, h4⟩ := Bool.and_eq_true_iff.mp h2
        rcases lt_split a b c h4 with h5 | h5
        · exact .inl (by rw [h5]; simp)
        · exact .inr (by rw [h3, h5]; simp)
    · have h6 : y < z := by
        rcases Bool.or_eq_true_iff.mp h with h2 | h2
        · exact Nat.lt_trans h1 (of_decide_eq_true h2)
        · obtain ⟨h3, _⟩ := Bool.and_eq_true_iff.mp h2
          rw [← eq_of_beq h3]; exact h1
      exact .inr (by rw [decide_eq_true h6]; rfl)
theorem le_trans {a b c : List Nat} (h1 : le a b) (h2 : le b c) : le a c := by
  unfold le at *
  cases e : ltCps c a with
  | false => rfl
  | true =>
    rcases lt_split c b a e with h | h
    · rw [h2] at h; cases h
    · rw [h1] at h; cases h
theorem le_anti : ∀ {a b : List Nat}, le a b → le b a → a = b
  | [], [], _, _ => rfl
  | [], _ :: _, _, h => nomatch h
  | _ :: _, [], h, _ => nomatch h
  | x :: a, y :: b, h1, h2 => by
    have h1 : (decide (y < x) || (y == x && ltCps b a)) = false := h1
    have h2 : (decide (x < y) || (x == y && ltCps a b)) = false := h2
    rw [Bool.or_eq_false_iff] at h1 h2
    have e : x = y := by
      have a1 := of_decide_eq_false h1.1
      have a2 := of_decide_eq_false h2.1
      omega
    subst e
    have h3 : ltCps b a = false := by have := h1.2; simpa using this
    have h4 : ltCps a b = false := by have := h2.2; simpa using this
    rw [le_anti (a := a) (b := b) h3 h4]
def leS (a b : Str) : Prop := le (TL.tl a) (TL.tl b)
theorem rising : ∀ (p : Str) (l : List Str), risingS p l = true → (p :: l).Pairwise leS
  | p, [], _ => List.pairwise_singleton _ _
  | p, x :: r, h => by
    have h : (!ltCps x.cps.toList p.cps.toList && risingS x r) = true := h
    obtain ⟨h1, h2⟩ := Bool.and_eq_true_iff.mp h
    have i := rising x r h2
    refine List.pairwise_cons.mpr ⟨fun z hz => ?_, i⟩
    have a : leS p x := by
      show ltCps (TL.tl x) (TL.tl p) = false
      have h1 : (!ltCps (TL.tl x) (TL.tl p)) = true := h1
      cases e : ltCps (TL.tl x) (TL.tl p) with
      | false => rfl
      | true => rw [e] at h1; cases h1
    rcases List.mem_cons.mp hz with rfl | hz
    · exact a
    · exact le_trans a ((List.pairwise_cons.mp i).1 z hz)
theorem sorted_pw : ∀ {l : List Str}, sortedS l = true → l.Pairwise leS
  | [], _ => List.Pairwise.nil
  | x :: r, h => rising x r h
theorem uniq : ∀ {l m : List Str}, l.Perm m → l.Pairwise leS → m.Pairwise leS → l = m
  | [], m, hp, _, _ => by rw [List.nil_perm.mp hp]
  | x :: r, m, hp, h1, h2 => by
    cases m with
    | nil => exact absurd hp.length_eq (by simp)
    | cons y t =>
      obtain ⟨a1, a2⟩ := List.pairwise_cons.mp h1
      obtain ⟨b1, b2⟩ := List.pairwise_cons.mp h2
      have e : x = y := by
        have hx : x ∈ y :: t := hp.mem_iff.mp List.mem_cons_self
        have hy : y ∈ x :: r := hp.mem_iff.mpr List.mem_cons_self
        rcases List.mem_cons.mp hx with rfl | hx
        · rfl
        rcases List.mem_cons.mp hy with rfl | hy
        · rfl
        exact TL.ext_tl (le_anti (a1 y hy) (b1 x hx))
      subst e
      rw [uniq ((List.perm_cons x).mp hp) a2 b2]
/-- a sorted row's part is that part, sorted -/
theorem sorted_filter {xs ys zs : List Str} {p : Str → Bool} (h1 : ys.Perm xs) (h2 : sortedS ys = true) (h3 : zs.Perm (xs.filter p)) (h4 : sortedS zs = true) : zs = ys.filter p :=
  uniq (h3.trans (h1.symm.filter p)) (sorted_pw h4) ((sorted_pw h2).filter p)
end RE

set_option Elab.async false
set_option linter.all false
set_option maxRecDepth 100000
set_option maxHeartbeats 4000000
/-! Further rules of dicts: d.update(d2). -/
namespace RF
open PySem PySem.Spec PyProof.Rows L2
def rUpdD : V → List V → Hp → VK → Prop := fun x xs H Q => ∃ (d o : Addr) (kvs more : List (Key × V)), x = .ref d ∧ xs = [.ref o] ∧ H d = some (.dK kvs) ∧ Rd H o (.dK more) ∧ d ≠ o ∧ kvs.length + more.length ≤ sizeLine ∧ (mergeK kvs more).length ≤ sizeLine ∧ Q .non (upd H d (.dK (mergeK kvs more)))
theorem mt_updD {X : Cx} : MtR X "dict.update" rUpdD := by
  intro pins s σ H x xs v us Q I rx rxs h
  obtain ⟨d, o, kvs, more, rfl, rfl, hd, ho, hne, hl, hl2, q⟩ := h
  cases rx
  obtain rfl := Vals.ref1 rxs
  obtain ⟨z, lo, vs, rel, dd⟩ := dk_of I.hok hd
  obtain ⟨z2, lo2, vs2, rel2, dd2⟩ := dk_rd I.hok ho
  refine call_meetsIn PySem.F.slot_dict_update dd.typeIs PySem.F.entry_dict_update (PySem.F.args_dict_update_2 _ _) (meets_dict_update (mixKind X.prog X.w) d o hne lo2)
    ⟨vs, vs2, dd, dd2, (by rw [← rel.length, ← rel2.length]; exact hl), fun h' hmm _ hs => ?_⟩
  have he : ∃ q, h'.get? d = some q := let ⟨q, _, _, hq, _⟩ := hmm; ⟨q, hq⟩
  refine d_write I (by rw [hd]; exact True.intro) hs he (dk_new hl2 lo (KV.merge rel2 rel) hmm) |> fun I' => ⟨.non, _, I', rfl, q⟩
/-- list(o.values()) -/
def tListVals (td : TE) : TE := fun σ H Q => td σ H fun x H1 => ∃ a kvs, x = V.ref a ∧ H1 a = some (.dK kvs) ∧ ∀ q, H1 q = none → Q (.ref q) (upd H1 q (.lst (kvs.map (·.2))))
section
variable {X : Cx} {o : Expr} {p pos apos mpos : Pos} {td : TE}
theorem pe_listVals (hc : X.calm = true) (hg : Gl X "list") (hm : X.mg "list" = none) (hd : PE X o td) (hbase : attributeBase o "values" X.env (eval o X.env) = eval o X.env := by rfl) (hline : (apos.endLine == mpos.line) = true := by rfl)
    (hse : starEach [Expr.Call (.Attribute o "values" apos) [] [] mpos] X.env = [(false, eval (Expr.Call (.Attribute o "values" apos) [] [] mpos) X.env)] := by rfl) :
    PE X (.Call (.Name "list" p) [.Call (.Attribute o "values" apos) [] [] mpos] [] pos) (tListVals td) := by
  refine ⟨fun pins s σ H Q I h => ?_⟩
  refine wpAny_Call_Name_kw (ld_blt I hg hm (u := .type "list") (by first | rfl | decide +kernel) ?_ (by first | decide +kernel | decide) (by first | decide +kernel | decide))
  rw [hse]
  refine PySem.callWith_type1 (wpAny_Call_method0_late hbase hline (thn (hd.run pins s σ H _ I h) fun v s1 ⟨x, H1, I1, r1, a, kvs, ex, ha, q⟩ => ?_))
  subst ex
  obtain rfl : v = Value.ref a := r1
  obtain ⟨z, hsys, vs, rel, dof⟩ := dk_of I1.hok ha
  obtain ⟨ep, dat⟩ := dof.dictAt
  have dat' := dat
  obtain ⟨ob, es, ho, ex, hdat, hko, hpr, hnd⟩ := dat'
  refine ⟨"dict", "dict.values", F.plainAttrs_dict, F.slot_dict_values, F.type_dict_values, ⟨ob, ho, ex.1⟩, fun b e => ?_, Calls.callWith_builtin rfl (PySem.evalArgs_none ?_)⟩
  · cases e
    exact ⟨ob, ho, ex.2.1⟩
  refine call_meetsIn F.slot_dict_values ⟨ob, ho, ex.1⟩ F.entry_dict_values (F.args_dict_values_1 _) (meets_dict_values (mixKind X.prog X.w) a hsys) ⟨⟨vs, dof⟩, ?_⟩
  have k1 : ∀ b u, s1.heap.get? b = some u → (s1.heap.push { cls := .type "dict_values", data := .fields #[.ref a] }).get? b = some u := fun b u e => Heap.get?_push_of_some _ e
  have dat1 : (s1.heap.push { cls := .type "dict_values", data := .fields #[.ref a] }).DictAt (mixKind X.prog X.w) a vs ep := dat.keep k1
  have I2 : Inv X pins σ H1 { s1 with heap := s1.heap.push { cls := .type "dict_values", data := .fields #[.ref a] } } := I1.kept (t' := s1.toks) k1
  have hl : kvs.length = vs.length := Paired.length rel
  refine PySem.W.kdl_call (PySem.W.kdl_values (knd := mixKind X.prog X.w) (r := s1.heap.objs.size) (d := a) (kvs := vs) (ep := ep)) (I1.ok.hd hc) ⟨⟨_, Heap.get?_push_size _ rfl, rfl, rfl⟩, dat1⟩ (by rw [← hl]; exact z) fun h' tk acc' c' hkeep hS hacc => ?_
  refine ⟨.ref _, upd H1 _ (.lst (kvs.map (·.2))), I2.laid hkeep (Nat.le_refl _) (show ObjOk X.prog X.w _ _ _ (.lst (kvs.map (·.2))) from ⟨?_, acc'.toList, c', ?_, ?_⟩), rfl, q _ (I2.hok.fresh (Nat.le_refl _))⟩
  · rw [List.length_map]; exact z
  · have el : acc'.toList.length = acc'.size := by simp
    refine vals_of_at (by rw [List.length_map, el, hacc.1, hl]) fun j x w h1 h2 => ?_
    obtain ⟨k, hk⟩ := hacc.2 j w (by rw [← Array.getElem?_toList]; exact h2)
    obtain ⟨x', h3, h4⟩ := KV.at' rel hk
    rw [List.getElem?_map, h3] at h1
    cases h1
    exact h4
  · rw [Array.toArray_toList]; exact hS
end
/-- d[i] = v as one of several targets -/
def rSetD : TSet := fun o i v H Q => ∃ (a : Addr) (H' : Hp), o = .ref a ∧ DPut H a i v H' ∧ Q H'
theorem set_dict {X : Cx} (hu : X.A.units + 1 < cLine) : PSet X rSetD := by
  intro pins s σ H o i v ov iv u Q I ro ri rv h
  obtain ⟨a, H', rfl, g, q⟩ := h
  cases ro
  exact d_setItem hu I g ri rv fun s' I' => ⟨H', I', q⟩
end RF

set_option Elab.async false
set_option linter.all false
set_option maxRecDepth 100000
set_option maxHeartbeats 4000000
/-! Rules that name the written part, for a comprehension's block. -/
namespace RG
open PySem PySem.Spec PyProof.Rows L2
theorem pg_tupK {X : Cx} {K : PySem.W.Frag} {es : List Expr} {k n : Nat} {pos : Pos} {t : TGs} (hc : X.calm = true) (h : PGs X es t) (hn : (assignEach es X.env).length = n := by rfl) (hst : (assignEach es X.env).findIdx? (·.1) = none := by rfl) (z : X.K = K := by rfl) :
    PG X (.Tuple es k pos) (gTup K n t) := z ▸ pg_tup hc h hn hst
end RG

set_option Elab.async false
set_option linter.all false
set_option maxRecDepth 100000
set_option maxHeartbeats 4000000
/-! What a walk by itself leans on: facts of the heap carried over changes. -/
namespace RW
open PySem PySem.Spec PyProof.Rows L2 RC
section
variable {H H1 H2 : Hp} {p q s l : Addr} {o o' u : HO}
theorem at_same (e : Same H H1) (h : H p = some o) : H1 p = some o := e _ _ h
theorem at_old (e : Old s l H H1) (h1 : p ≠ s) (h2 : p ≠ l) (h : H p = some o) : H1 p = some o := e _ _ h1 h2 h
theorem at_upd (n : q ≠ p) (h : H q = some u) : upd H p o q = some u := by rw [upd_ne n]; exact h
theorem no_upd (n : q ≠ p) (h : H q = none) : upd H p o q = none := by rw [upd_ne n]; exact h
theorem ne_new (h : H p = none) (h2 : H q = some u) : q ≠ p := ne_of_none h2 h
theorem ne_new' (h : H p = none) (h2 : H q = some u) : p ≠ q := Ne.symm (ne_of_none h2 h)
theorem ne_kind (h : H p = some o) (h' : H q = some u) (n : o ≠ u) : p ≠ q := fun z => n (by rw [z] at h; exact Option.some.inj (h.symm.trans h'))
theorem same_put_new (e : Same H H1) (h : H1 p = none) : Same H (upd H1 p o) := e.trans (same_new h o)
theorem same_put (e : Same H H1) (h : H p = none) : Same H (upd H1 p o) := fun b x hb => by rw [upd_ne (ne_of_none hb h)]; exact e _ _ hb
theorem same_then (h : Same H1 H2) (e : Same H H1) : Same H H2 := e.trans h
theorem free_same (e : Same H H1) (h : H1 p = none) : H p = none := e.free h
theorem free_upd (h : upd H p o q = none) : H q = none := (upd_none h).2
theorem ne_upd (h : upd H p o q = none) : q ≠ p := (upd_none h).1
theorem some_ref {xs : List V} {K : PySem.W.Frag} (h : H p = some (.lst xs)) : SqL K H p xs := SqL.of h
theorem rd_of (h : H p = some o) : Rd H p o := .inl h
theorem fr {R : Addr → Prop} (h : ∀ x, H x = none → x ≠ p → R x) : ∀ x, upd H p o x = none → R x := fun x hx => h x (upd_none hx).2 (upd_none hx).1
theorem fr_same {R : Addr → Prop} (e : Same H H1) (h : ∀ x, H x = none → H1 x = none → R x) : ∀ x, H1 x = none → R x := fun x hx => h x (e.free hx) hx
theorem gHp (h : H p = some o) : H p = some o := h
theorem gStm {n : Nat} (h : Stm H s l n) : Stm H s l n := h
theorem stm_upd {n : Nat} (h1 : p ≠ s) (h2 : p ≠ l) (h : Stm H s l n) : Stm (upd H p o) s l n := by
  obtain ⟨ne, ns, x, c, d, g1, g2, g3⟩ := h
  exact ⟨ne, ns, x, c, d, by rw [upd_ne (Ne.symm h1)]; exact g1, by rw [upd_ne (Ne.symm h2)]; exact g2, g3⟩
theorem stm_at {n : Nat} (h : Stm H s l n) : (∃ o, H s = some o) ∧ (∃ o, H l = some o) ∧ s ≠ l := by
  obtain ⟨ne, ns, x, c, d, g1, g2, g3⟩ := h
  exact ⟨⟨_, g1⟩, ⟨_, g2⟩, ne⟩
theorem stm_same {n : Nat} (h : Stm H s l n) (e : Same H H1) : Stm H1 s l n := h.same e
theorem old_upd (e : Old s l H H1) (h : H p = none) : Old s l H (upd H1 p o) := fun b x h1 h2 hb => by rw [upd_ne (ne_of_none hb h)]; exact e _ _ h1 h2 hb
theorem old_same (e : Old s l H H1) (h : Same H1 H2) : Old s l H H2 := fun b x h1 h2 hb => h _ _ (e _ _ h1 h2 hb)
theorem old_then (h : Old s l H1 H2) (e : Old s l H H1) : Old s l H H2 := e.trans h
theorem old_of (e : Same H H1) : Old s l H H1 := Old.of_same e
theorem gOld (h : Old s l H H1) : Old s l H H1 := h
theorem gCp {i j : Int} (h : 0 ≤ j ∧ j ≤ 1000000 ∧ i.natAbs < 2 ^ 64) : CPow i j := h
theorem gNe (h : p ≠ q) : p ≠ q := h
theorem isMut {d : Addr} {w : HO} {R : Prop} (h : H d = some w ∧ Mut (H d) ∧ R) : H d = some w ∧ Mut (H d) ∧ R := h
theorem isMut2 {d : Addr} {w : HO} {R : Prop} (h : H d = some w ∧ Mut (some w) ∧ R) : H d = some w ∧ Mut (some w) ∧ R := h
theorem gSm (h : Same H H1) : Same H H1 := h
theorem gCls {K : PySem.W.Frag} {C : Addr} (h : Cls K C) : Cls K C := h
theorem gNo {K : PySem.W.Frag} {C : Addr} {f : Str} (h : NoAttr K C f) : NoAttr K C f := h
theorem gCv {c : V} {u : Value} (h : ClsV c u) : ClsV c u := h
theorem gTy {K : PySem.W.Frag} {c : V} {u : Value} (h : TyX K H c u) : TyX K H c u := h
theorem gKit {K : PySem.W.Frag} {t c : Value} {b : Bool} (h : PySem.W.kitOne K t c = some b) : PySem.W.kitOne K t c = some b := h
theorem gKita {K : PySem.W.Frag} {t : Value} {c : List Value} {b : Bool} (h : PySem.W.kitAny K t c = some b) : PySem.W.kitAny K t c = some b := h
theorem gSl {K : PySem.W.Frag} {xs : List V} (h : SqL K H p xs) : SqL K H p xs := h
theorem gSt {K : PySem.W.Frag} {xs : List V} (h : SqT K H p xs) : SqT K H p xs := h
theorem gPr {cs : List V} {us : List Value} (h : Paired ClsV cs us) : Paired ClsV cs us := h
theorem gKi {K : PySem.W.Frag} {t : Value} {b : Bool} (h : PySem.W.kitOne K t (.type "int") = some b) : PySem.W.kitOne K t (.type "int") = some b := h
theorem gKb {K : PySem.W.Frag} {t : Value} {b : Bool} (h : PySem.W.kitOne K t (.type "bool") = some b) : PySem.W.kitOne K t (.type "bool") = some b := h
theorem gKs {K : PySem.W.Frag} {t : Value} {b : Bool} (h : PySem.W.kitOne K t (.type "str") = some b) : PySem.W.kitOne K t (.type "str") = some b := h
theorem gKl {K : PySem.W.Frag} {t : Value} {b : Bool} (h : PySem.W.kitOne K t (.type "list") = some b) : PySem.W.kitOne K t (.type "list") = some b := h
theorem gKt {K : PySem.W.Frag} {t : Value} {b : Bool} (h : PySem.W.kitOne K t (.type "tuple") = some b) : PySem.W.kitOne K t (.type "tuple") = some b := h
theorem gKd {K : PySem.W.Frag} {t : Value} {b : Bool} (h : PySem.W.kitOne K t (.type "dict") = some b) : PySem.W.kitOne K t (.type "dict") = some b := h
theorem cxK {P : Program} {w : World} {K : PySem.W.Frag} {mg : Str → Option Value} {base : Heap} {N : List Str} {qual : Str} {scope : Scope} {f : Addr} {cd : Value} {A : Around} {outer : List Env} {sh : Shared} {E : XK} :
    (cxOf CX0 P w K mg base N qual scope f cd A outer sh H E).nox.K = K := rfl
end
section
variable {H : Hp} {K : PySem.W.Frag} {a p : Addr} {kvs : List (Key × V)} {x y : Str} {i j : Int} {o : Option V} {od : Obj} {v : V} {xs : List V}
theorem dget_s (h : H a = some (.dK kvs)) (e : valV kvs (Sum.inr x) = o) : DGet H a (.str x) o := .inl ⟨kvs, Sum.inr x, .inl h, rfl, e.symm⟩
theorem dget_i (h : H a = some (.dK kvs)) (e : valV kvs (Sum.inl i) = o) : DGet H a (.int i) o := .inl ⟨kvs, Sum.inl i, .inl h, rfl, e.symm⟩
theorem dget_sF (h : H a = some (.frz od (.dK kvs))) (e : valV kvs (Sum.inr x) = o) : DGet H a (.str x) o := .inl ⟨kvs, Sum.inr x, .inr ⟨od, h⟩, rfl, e.symm⟩
theorem dget_sR (h : Rd H a (.dK kvs)) (e : valV kvs (Sum.inr x) = o) : DGet H a (.str x) o := .inl ⟨kvs, Sum.inr x, h, rfl, e.symm⟩
theorem dput_s (h : H a = some (.dK kvs)) (hl : kvs.length < sizeLine) : DPut H a (.str x) v (upd H a (.dK (putK kvs (Sum.inr x) v))) := DPut.k (k := Sum.inr x) h hl
theorem dput_i (h : H a = some (.dK kvs)) (hl : kvs.length < sizeLine) : DPut H a (.int i) v (upd H a (.dK (putK kvs (Sum.inl i) v))) := DPut.k (k := Sum.inl i) h hl
theorem sql_of (h : H p = some (.lst xs)) : ∃ ys, SqL K H p ys := ⟨xs, SqL.of h⟩
theorem sqt_of (h : H p = some (.tup xs)) : ∃ ys, SqT K H p ys := ⟨xs, SqT.of h⟩
theorem disp1 {a0 : Str} {v0 : V} {R : List (Key × V) → Prop} (h : R [((Sum.inr a0 : Key), v0)]) : ∃ kvs : List (Key × V), [(V.str a0, v0)] = kvs.map (fun kv => (kV kv.1, kv.2)) ∧ kvs.length ≤ 15 ∧ R kvs := ⟨[((Sum.inr a0 : Key), v0)], rfl, Nat.le_of_ble_eq_true rfl, h⟩
theorem disp2 {a0 a1 : Str} {v0 v1 : V} {R : List (Key × V) → Prop} (h : R [((Sum.inr a0 : Key), v0), ((Sum.inr a1 : Key), v1)]) : ∃ kvs : List (Key × V), [(V.str a0, v0), (V.str a1, v1)] = kvs.map (fun kv => (kV kv.1, kv.2)) ∧ kvs.length ≤ 15 ∧ R kvs := ⟨[((Sum.inr a0 : Key), v0), ((Sum.inr a1 : Key), v1)], rfl, Nat.le_of_ble_eq_true rfl, h⟩
theorem disp3 {a0 a1 a2 : Str} {v0 v1 v2 : V} {R : List (Key × V) → Prop} (h : R [((Sum.inr a0 : Key), v0), ((Sum.inr a1 : Key), v1), ((Sum.inr a2 : Key), v2)]) : ∃ kvs : List (Key × V), [(V.str a0, v0), (V.str a1, v1), (V.str a2, v2)] = kvs.map (fun kv => (kV kv.1, kv.2)) ∧ kvs.length ≤ 15 ∧ R kvs := ⟨[((Sum.inr a0 : Key), v0), ((Sum.inr a1 : Key), v1), ((Sum.inr a2 : Key), v2)], rfl, Nat.le_of_ble_eq_true rfl, h⟩
theorem disp4 {a0 a1 a2 a3 : Str} {v0 v1 v2 v3 : V} {R : List (Key × V) → Prop} (h : R [((Sum.inr a0 : Key), v0), ((Sum.inr a1 : Key), v1), ((Sum.inr a2 : Key), v2), ((Sum.inr a3 : Key), v3)]) : ∃ kvs : List (Key × V), [(V.str a0, v0), (V.str a1, v1), (V.str a2, v2), (V.str a3, v3)] = kvs.map (fun kv => (kV kv.1, kv.2)) ∧ kvs.length ≤ 15 ∧ R kvs := ⟨[((Sum.inr a0 : Key), v0), ((Sum.inr a1 : Key), v1), ((Sum.inr a2 : Key), v2), ((Sum.inr a3 : Key), v3)], rfl, Nat.le_of_ble_eq_true rfl, h⟩
theorem disp5 {a0 a1 a2 a3 a4 : Str} {v0 v1 v2 v3 v4 : V} {R : List (Key × V) → Prop} (h : R [((Sum.inr a0 : Key), v0), ((Sum.inr a1 : Key), v1), ((Sum.inr a2 : Key), v2), ((Sum.inr a3 : Key), v3), ((Sum.inr a4 : Key), v4)]) : ∃ kvs : List (Key × V), [(V.str a0, v0), (V.str a1, v1), (V.str a2, v2), (V.str a3, v3), (V.str a4, v4)] = kvs.map (fun kv => (kV kv.1, kv.2)) ∧ kvs.length ≤ 15 ∧ R kvs := ⟨[((Sum.inr a0 : Key), v0), ((Sum.inr a1 : Key), v1), ((Sum.inr a2 : Key), v2), ((Sum.inr a3 : Key), v3), ((Sum.inr a4 : Key), v4)], rfl, Nat.le_of_ble_eq_true rfl, h⟩
theorem disp6 {a0 a1 a2 a3 a4 a5 : Str} {v0 v1 v2 v3 v4 v5 : V} {R : List (Key × V) → Prop} (h : R [((Sum.inr a0 : Key), v0), ((Sum.inr a1 : Key), v1), ((Sum.inr a2 : Key), v2), ((Sum.inr a3 : Key), v3), ((Sum.inr a4 : Key), v4), ((Sum.inr a5 : Key), v5)]) : ∃ kvs : List (Key × V), [(V.str a0, v0), (V.str a1, v1), (V.str a2, v2), (V.str a3, v3), (V.str a4, v4), (V.str a5, v5)] = kvs.map (fun kv => (kV kv.1, kv.2)) ∧ kvs.length ≤ 15 ∧ R kvs := ⟨[((Sum.inr a0 : Key), v0), ((Sum.inr a1 : Key), v1), ((Sum.inr a2 : Key), v2), ((Sum.inr a3 : Key), v3), ((Sum.inr a4 : Key), v4), ((Sum.inr a5 : Key), v5)], rfl, Nat.le_of_ble_eq_true rfl, h⟩
theorem disp7 {a0 a1 a2 a3 a4 a5 a6 : Str} {v0 v1 v2 v3 v4 v5 v6 : V} {R : List (Key × V) → Prop} (h : R [((Sum.inr a0 : Key), v0), ((Sum.inr a1 : Key), v1), ((Sum.inr a2 : Key), v2), ((Sum.inr a3 : Key), v3), ((Sum.inr a4 : Key), v4), ((Sum.inr a5 : Key), v5), ((Sum.inr a6 : Key), v6)]) : ∃ kvs : List (Key × V), [(V.str a0, v0), (V.str a1, v1), (V.str a2, v2), (V.str a3, v3), (V.str a4, v4), (V.str a5, v5), (V.str a6, v6)] = kvs.map (fun kv => (kV kv.1, kv.2)) ∧ kvs.length ≤ 15 ∧ R kvs := ⟨[((Sum.inr a0 : Key), v0), ((Sum.inr a1 : Key), v1), ((Sum.inr a2 : Key), v2), ((Sum.inr a3 : Key), v3), ((Sum.inr a4 : Key), v4), ((Sum.inr a5 : Key), v5), ((Sum.inr a6 : Key), v6)], rfl, Nat.le_of_ble_eq_true rfl, h⟩
theorem disp8 {a0 a1 a2 a3 a4 a5 a6 a7 : Str} {v0 v1 v2 v3 v4 v5 v6 v7 : V} {R : List (Key × V) → Prop} (h : R [((Sum.inr a0 : Key), v0), ((Sum.inr a1 : Key), v1), ((Sum.inr a2 : Key), v2), ((Sum.inr a3 : Key), v3), ((Sum.inr a4 : Key), v4), ((Sum.inr a5 : Key), v5), ((Sum.inr a6 : Key), v6), ((Sum.inr a7 : Key), v7)]) : ∃ kvs : List (Key × V), [(V.str a0, v0), (V.str a1, v1), (V.str a2, v2), (V.str a3, v3), (V.str a4, v4), (V.str a5, v5), (V.str a6, v6), (V.str a7, v7)] = kvs.map (fun kv => (kV kv.1, kv.2)) ∧ kvs.length ≤ 15 ∧ R kvs := ⟨[((Sum.inr a0 : Key), v0), ((Sum.inr a1 : Key), v1), ((Sum.inr a2 : Key), v2), ((Sum.inr a3 : Key), v3), ((Sum.inr a4 : Key), v4), ((Sum.inr a5 : Key), v5), ((Sum.inr a6 : Key), v6), ((Sum.inr a7 : Key), v7)], rfl, Nat.le_of_ble_eq_true rfl, h⟩
theorem len_sl (h : SqL K H p xs) : LenV K (.ref p) H xs.length := .inl ⟨xs, h, rfl⟩
theorem len_st (h : SqT K H p xs) : LenV K (.ref p) H xs.length := .inr ⟨xs, h, rfl⟩
theorem sql_same {H' : Hp} (h : SqL K H p xs) (e : Same H H') : SqL K H' p xs := e.seq h
theorem sqt_same {H' : Hp} (h : SqT K H p xs) (e : Same H H') : SqT K H' p xs := e.seqT h
theorem ka1 {t c : Value} {b : Bool} (h : PySem.W.kitOne K t c = some b) : PySem.W.kitAny K t [c] = some (b || false) := kitAny_cons h (fun e => by rw [e]; rfl) (fun e => by rw [e]; rfl)
theorem kac {t c : Value} {cs : List Value} {b r : Bool} (h : PySem.W.kitOne K t c = some b) (h2 : PySem.W.kitAny K t cs = some r) : PySem.W.kitAny K t (c :: cs) = some (b || r) := kitAny_cons h (fun e => by rw [e]; exact h2) (fun e => by rw [e]; rfl)
theorem ka2 {t c1 c2 : Value} {b1 b2 : Bool} (h1 : PySem.W.kitOne K t c1 = some b1) (h2 : PySem.W.kitOne K t c2 = some b2) : PySem.W.kitAny K t [c1, c2] = some (b1 || (b2 || false)) := kac h1 (ka1 h2)
theorem ka3 {t c1 c2 c3 : Value} {b1 b2 b3 : Bool} (h1 : PySem.W.kitOne K t c1 = some b1) (h2 : PySem.W.kitOne K t c2 = some b2) (h3 : PySem.W.kitOne K t c3 = some b3) : PySem.W.kitAny K t [c1, c2, c3] = some (b1 || (b2 || (b3 || false))) := kac h1 (ka2 h2 h3)
theorem ka4 {t c1 c2 c3 c4 : Value} {b1 b2 b3 b4 : Bool} (h1 : PySem.W.kitOne K t c1 = some b1) (h2 : PySem.W.kitOne K t c2 = some b2) (h3 : PySem.W.kitOne K t c3 = some b3) (h4 : PySem.W.kitOne K t c4 = some b4) : PySem.W.kitAny K t [c1, c2, c3, c4] = some (b1 || (b2 || (b3 || (b4 || false)))) := kac h1 (ka3 h2 h3 h4)
theorem ka5 {t c1 c2 c3 c4 c5 : Value} {b1 b2 b3 b4 b5 : Bool} (h1 : PySem.W.kitOne K t c1 = some b1) (h2 : PySem.W.kitOne K t c2 = some b2) (h3 : PySem.W.kitOne K t c3 = some b3) (h4 : PySem.W.kitOne K t c4 = some b4) (h5 : PySem.W.kitOne K t c5 = some b5) : PySem.W.kitAny K t [c1, c2, c3, c4, c5] = some (b1 || (b2 || (b3 || (b4 || (b5 || false))))) := kac h1 (ka4 h2 h3 h4 h5)
theorem len_l (h : H p = some (.lst xs)) : LenV K (.ref p) H xs.length := .inl ⟨xs, SqL.of h, rfl⟩
theorem tyv_l (h : H p = some (.lst xs)) : tyV K "list" (.ref p) H := .inl ⟨rfl, _, SqL.of h⟩
theorem tyv_s (h : SqL K H p xs) : tyV K "list" (.ref p) H := .inl ⟨rfl, _, h⟩
theorem isd (h : H a = some (.dK kvs)) : IsD H a := .inl ⟨kvs, .inl h⟩
theorem cSsT (h : x = y) : decide (V.str x = V.str y) = true := decide_eq_true (congrArg V.str h)
theorem cSsF (h : x ≠ y) : decide (V.str x = V.str y) = false := decide_eq_false fun z => h (V.str.inj z)
theorem cNsT (h : x ≠ y) : (!decide (V.str x = V.str y)) = true := by rw [cSsF h]; rfl
theorem cNsF (h : x = y) : (!decide (V.str x = V.str y)) = false := by rw [cSsT h]; rfl
theorem cSiT (h : i = j) : decide (V.int i = V.int j) = true := decide_eq_true (congrArg V.int h)
theorem cSiF (h : i ≠ j) : decide (V.int i = V.int j) = false := decide_eq_false fun z => h (V.int.inj z)
theorem cNiT (h : i ≠ j) : (!decide (V.int i = V.int j)) = true := by rw [cSiF h]; rfl
theorem cNiF (h : i = j) : (!decide (V.int i = V.int j)) = false := by rw [cSiT h]; rfl
theorem someT (h : o = some v) : o.isSome = true := by rw [h]; rfl
theorem someF (h : o = none) : o.isSome = false := by rw [h]; rfl
theorem nsomeT (h : o = none) : (!o.isSome) = true := by rw [h]; rfl
theorem nsomeF (h : o = some v) : (!o.isSome) = false := by rw [h]; rfl
end
theorem k_int_int {K : PySem.W.Frag} : PySem.W.kitOne K (.type "int") (.type "int") = some true := kit_ty (by decide +kernel)
theorem k_int_bool {K : PySem.W.Frag} : PySem.W.kitOne K (.type "int") (.type "bool") = some false := kit_ty (by decide +kernel)
theorem k_int_str {K : PySem.W.Frag} : PySem.W.kitOne K (.type "int") (.type "str") = some false := kit_ty (by decide +kernel)
theorem k_int_list {K : PySem.W.Frag} : PySem.W.kitOne K (.type "int") (.type "list") = some false := kit_ty (by decide +kernel)
theorem k_int_tuple {K : PySem.W.Frag} : PySem.W.kitOne K (.type "int") (.type "tuple") = some false := kit_ty (by decide +kernel)
theorem k_int_dict {K : PySem.W.Frag} : PySem.W.kitOne K (.type "int") (.type "dict") = some false := kit_ty (by decide +kernel)
theorem k_bool_int {K : PySem.W.Frag} : PySem.W.kitOne K (.type "bool") (.type "int") = some true := kit_ty (by decide +kernel)
theorem k_bool_bool {K : PySem.W.Frag} : PySem.W.kitOne K (.type "bool") (.type "bool") = some true := kit_ty (by decide +kernel)
theorem k_bool_str {K : PySem.W.Frag} : PySem.W.kitOne K (.type "bool") (.type "str") = some false := kit_ty (by decide +kernel)
theorem k_bool_list {K : PySem.W.Frag} : PySem.W.kitOne K (.type "bool") (.type "list") = some false := kit_ty (by decide +kernel)
theorem k_bool_tuple {K : PySem.W.Frag} : PySem.W.kitOne K (.type "bool") (.type "tuple") = some false := kit_ty (by decide +kernel)
theorem k_bool_dict {K : PySem.W.Frag} : PySem.W.kitOne K (.type "bool") (.type "dict") = some false := kit_ty (by decide +kernel)
theorem k_str_int {K : PySem.W.Frag} : PySem.W.kitOne K (.type "str") (.type "int") = some false := kit_ty (by decide +kernel)
theorem k_str_bool {K : PySem.W.Frag} : PySem.W.kitOne K (.type "str") (.type "bool") = some false := kit_ty (by decide +kernel)
theorem k_str_str {K : PySem.W.Frag} : PySem.W.kitOne K (.type "str") (.type "str") = some true := kit_ty (by decide +kernel)
theorem k_str_list {K : PySem.W.Frag} : PySem.W.kitOne K (.type "str") (.type "list") = some false := kit_ty (by decide +kernel)
theorem k_str_tuple {K : PySem.W.Frag} : PySem.W.kitOne K (.type "str") (.type "tuple") = some false := kit_ty (by decide +kernel)
theorem k_str_dict {K : PySem.W.Frag} : PySem.W.kitOne K (.type "str") (.type "dict") = some false := kit_ty (by decide +kernel)
theorem k_NoneType_int {K : PySem.W.Frag} : PySem.W.kitOne K (.type "NoneType") (.type "int") = some false := kit_ty (by decide +kernel)
theorem k_NoneType_bool {K : PySem.W.Frag} : PySem.W.kitOne K (.type "NoneType") (.type "bool") = some false := kit_ty (by decide +kernel)
theorem k_NoneType_str {K : PySem.W.Frag} : PySem.W.kitOne K (.type "NoneType") (.type "str") = some false := kit_ty (by decide +kernel)
theorem k_NoneType_list {K : PySem.W.Frag} : PySem.W.kitOne K (.type "NoneType") (.type "list") = some false := kit_ty (by decide +kernel)
theorem k_NoneType_tuple {K : PySem.W.Frag} : PySem.W.kitOne K (.type "NoneType") (.type "tuple") = some false := kit_ty (by decide +kernel)
theorem k_NoneType_dict {K : PySem.W.Frag} : PySem.W.kitOne K (.type "NoneType") (.type "dict") = some false := kit_ty (by decide +kernel)
theorem k_list_int {K : PySem.W.Frag} : PySem.W.kitOne K (.type "list") (.type "int") = some false := kit_ty (by decide +kernel)
theorem k_list_bool {K : PySem.W.Frag} : PySem.W.kitOne K (.type "list") (.type "bool") = some false := kit_ty (by decide +kernel)
theorem k_list_str {K : PySem.W.Frag} : PySem.W.kitOne K (.type "list") (.type "str") = some false := kit_ty (by decide +kernel)
theorem k_list_list {K : PySem.W.Frag} : PySem.W.kitOne K (.type "list") (.type "list") = some true := kit_ty (by decide +kernel)
theorem k_list_tuple {K : PySem.W.Frag} : PySem.W.kitOne K (.type "list") (.type "tuple") = some false := kit_ty (by decide +kernel)
theorem k_list_dict {K : PySem.W.Frag} : PySem.W.kitOne K (.type "list") (.type "dict") = some false := kit_ty (by decide +kernel)
theorem k_tuple_int {K : PySem.W.Frag} : PySem.W.kitOne K (.type "tuple") (.type "int") = some false := kit_ty (by decide +kernel)
theorem k_tuple_bool {K : PySem.W.Frag} : PySem.W.kitOne K (.type "tuple") (.type "bool") = some false := kit_ty (by decide +kernel)
theorem k_tuple_str {K : PySem.W.Frag} : PySem.W.kitOne K (.type "tuple") (.type "str") = some false := kit_ty (by decide +kernel)
theorem k_tuple_list {K : PySem.W.Frag} : PySem.W.kitOne K (.type "tuple") (.type "list") = some false := kit_ty (by decide +kernel)
theorem k_tuple_tuple {K : PySem.W.Frag} : PySem.W.kitOne K (.type "tuple") (.type "tuple") = some true := kit_ty (by decide +kernel)
theorem k_tuple_dict {K : PySem.W.Frag} : PySem.W.kitOne K (.type "tuple") (.type "dict") = some false := kit_ty (by decide +kernel)
theorem k_dict_int {K : PySem.W.Frag} : PySem.W.kitOne K (.type "dict") (.type "int") = some false := kit_ty (by decide +kernel)
theorem k_dict_bool {K : PySem.W.Frag} : PySem.W.kitOne K (.type "dict") (.type "bool") = some false := kit_ty (by decide +kernel)
theorem k_dict_str {K : PySem.W.Frag} : PySem.W.kitOne K (.type "dict") (.type "str") = some false := kit_ty (by decide +kernel)
theorem k_dict_list {K : PySem.W.Frag} : PySem.W.kitOne K (.type "dict") (.type "list") = some false := kit_ty (by decide +kernel)
theorem k_dict_tuple {K : PySem.W.Frag} : PySem.W.kitOne K (.type "dict") (.type "tuple") = some false := kit_ty (by decide +kernel)
theorem k_dict_dict {K : PySem.W.Frag} : PySem.W.kitOne K (.type "dict") (.type "dict") = some true := kit_ty (by decide +kernel)
end RW

set_option Elab.async false
set_option linter.all false
set_option maxRecDepth 100000
set_option maxHeartbeats 0
namespace K17
open PySem PySem.Spec PyProof.Rows L2 RC
/-! ### the text -/
def top (i : Nat) : Stmt := PySem.Challenge.pw_recordyard_k53_listeners.main.body.getD i (.Pass ⟨0, 0, 0, 0⟩)
abbrev s_Filterer_init : Stmt := inClass (top 18) 0
abbrev nm_Filterer_init : List Str := ["self"]
theorem sc_Filterer_init : FnScope nm_Filterer_init ["self"] (defScope s_Filterer_init) := ⟨rfl, rfl, rfl, by decide +kernel, rfl, by decide +kernel, by decide +kernel⟩
def dd_Filterer_init : He.DefD := ⟨("Filterer", some "__init__"), "__init__", "Filterer.__init__", defArgs s_Filterer_init, defBody s_Filterer_init, defScope s_Filterer_init, [], []⟩
abbrev s_copied_value : Stmt := top 11
abbrev nm_copied_value : List Str := ["thing", "part", "name"]
theorem sc_copied_value : FnScope nm_copied_value ["thing"] (defScope s_copied_value) := ⟨rfl, rfl, rfl, by decide +kernel, rfl, by decide +kernel, by decide +kernel⟩
def dd_copied_value : He.DefD := ⟨("copied_value", none), "copied_value", "copied_value", defArgs s_copied_value, defBody s_copied_value, defScope s_copied_value, [], []⟩
abbrev s_message_of : Stmt := top 12
abbrev nm_message_of : List Str := ["msg", "args", "found", "at", "used", "sign", "pair"]
theorem sc_message_of : FnScope nm_message_of ["msg", "args"] (defScope s_message_of) := ⟨rfl, rfl, rfl, by decide +kernel, rfl, by decide +kernel, by decide +kernel⟩
def dd_message_of : He.DefD := ⟨("message_of", none), "message_of", "message_of", defArgs s_message_of, defBody s_message_of, defScope s_message_of, [], []⟩
abbrev s_BadMessage_init : Stmt := inClass (top 5) 0
abbrev nm_BadMessage_init : List Str := ["self", "msg"]
theorem sc_BadMessage_init : FnScope nm_BadMessage_init ["self", "msg"] (defScope s_BadMessage_init) := ⟨rfl, rfl, rfl, by decide +kernel, rfl, by decide +kernel, by decide +kernel⟩
def dd_BadMessage_init : He.DefD := ⟨("BadMessage", some "__init__"), "__init__", "BadMessage.__init__", defArgs s_BadMessage_init, defBody s_BadMessage_init, defScope s_BadMessage_init, [], []⟩
abbrev s_BadField_init : Stmt := inClass (top 6) 0
abbrev nm_BadField_init : List Str := ["self", "name"]
theorem sc_BadField_init : FnScope nm_BadField_init ["self", "name"] (defScope s_BadField_init) := ⟨rfl, rfl, rfl, by decide +kernel, rfl, by decide +kernel, by decide +kernel⟩
def dd_BadField_init : He.DefD := ⟨("BadField", some "__init__"), "__init__", "BadField.__init__", defArgs s_BadField_init, defBody s_BadField_init, defScope s_BadField_init, [], []⟩
abbrev s_LogRecord_init : Stmt := inClass (top 13) 0
abbrev nm_LogRecord_init : List Str := ["self", "name", "levelno", "levelname", "msg", "args", "created", "extra"]
theorem sc_LogRecord_init : FnScope nm_LogRecord_init ["self", "name", "levelno", "levelname", "msg", "args", "created", "extra"] (defScope s_LogRecord_init) := ⟨rfl, rfl, rfl, by decide +kernel, rfl, by decide +kernel, by decide +kernel⟩
def dd_LogRecord_init : He.DefD := ⟨("LogRecord", some "__init__"), "__init__", "LogRecord.__init__", defArgs s_LogRecord_init, defBody s_LogRecord_init, defScope s_LogRecord_init, [], []⟩
abbrev s_LogRecord_message : Stmt := inClass (top 13) 1
abbrev nm_LogRecord_message : List Str := ["self"]
theorem sc_LogRecord_message : FnScope nm_LogRecord_message ["self"] (defScope s_LogRecord_message) := ⟨rfl, rfl, rfl, by decide +kernel, rfl, by decide +kernel, by decide +kernel⟩
def dd_LogRecord_message : He.DefD := ⟨("LogRecord", some "message"), "message", "LogRecord.message", defArgs s_LogRecord_message, defBody s_LogRecord_message, defScope s_LogRecord_message, [], []⟩
abbrev s_LogRecord_field : Stmt := inClass (top 13) 2
abbrev nm_LogRecord_field : List Str := ["self", "name", "own", "values"]
theorem sc_LogRecord_field : FnScope nm_LogRecord_field ["self", "name"] (defScope s_LogRecord_field) := ⟨rfl, rfl, rfl, by decide +kernel, rfl, by decide +kernel, by decide +kernel⟩
def dd_LogRecord_field : He.DefD := ⟨("LogRecord", some "field"), "field", "LogRecord.field", defArgs s_LogRecord_field, defBody s_LogRecord_field, defScope s_LogRecord_field, [], []⟩
abbrev s_is_below : Stmt := top 15
abbrev nm_is_below : List Str := ["name", "above"]
theorem sc_is_below : FnScope nm_is_below ["name", "above"] (defScope s_is_below) := ⟨rfl, rfl, rfl, by decide +kernel, rfl, by decide +kernel, by decide +kernel⟩
def dd_is_below : He.DefD := ⟨("is_below", none), "is_below", "is_below", defArgs s_is_below, defBody s_is_below, defScope s_is_below, [], []⟩
abbrev s_let_by : Stmt := top 16
abbrev nm_let_by : List Str := ["one", "record", "told"]
theorem sc_let_by : FnScope nm_let_by ["one", "record"] (defScope s_let_by) := ⟨rfl, rfl, rfl, by decide +kernel, rfl, by decide +kernel, by decide +kernel⟩
def dd_let_by : He.DefD := ⟨("let_by", none), "let_by", "let_by", defArgs s_let_by, defBody s_let_by, defScope s_let_by, [], []⟩
abbrev s_Filter_init : Stmt := inClass (top 17) 0
abbrev nm_Filter_init : List Str := ["self", "name"]
theorem sc_Filter_init : FnScope nm_Filter_init ["self", "name"] (defScope s_Filter_init) := ⟨rfl, rfl, rfl, by decide +kernel, rfl, by decide +kernel, by decide +kernel⟩
def dd_Filter_init : He.DefD := ⟨("Filter", some "__init__"), "__init__", "Filter.__init__", defArgs s_Filter_init, defBody s_Filter_init, defScope s_Filter_init, [.str ""], []⟩
abbrev s_Filter_passes : Stmt := inClass (top 17) 1
abbrev nm_Filter_passes : List Str := ["self", "record"]
theorem sc_Filter_passes : FnScope nm_Filter_passes ["self", "record"] (defScope s_Filter_passes) := ⟨rfl, rfl, rfl, by decide +kernel, rfl, by decide +kernel, by decide +kernel⟩
def dd_Filter_passes : He.DefD := ⟨("Filter", some "passes"), "passes", "Filter.passes", defArgs s_Filter_passes, defBody s_Filter_passes, defScope s_Filter_passes, [], []⟩
abbrev s_Handler_init : Stmt := inClass (top 20) 0
abbrev nm_Handler_init : List Str := ["self", "yard"]
theorem sc_Handler_init : FnScope nm_Handler_init ["self", "yard"] (defScope s_Handler_init) := ⟨rfl, rfl, rfl, by decide +kernel, rfl, by decide +kernel, by decide +kernel⟩
def dd_Handler_init : He.DefD := ⟨("Handler", some "__init__"), "__init__", "Handler.__init__", defArgs s_Handler_init, defBody s_Handler_init, defScope s_Handler_init, [], []⟩
abbrev s_StreamHandler_init : Stmt := inClass (top 21) 0
abbrev nm_StreamHandler_init : List Str := ["self", "yard", "stream"]
theorem sc_StreamHandler_init : FnScope nm_StreamHandler_init ["self", "yard", "stream"] (defScope s_StreamHandler_init) := ⟨rfl, rfl, rfl, by decide +kernel, rfl, by decide +kernel, by decide +kernel⟩
def dd_StreamHandler_init : He.DefD := ⟨("StreamHandler", some "__init__"), "__init__", "StreamHandler.__init__", defArgs s_StreamHandler_init, defBody s_StreamHandler_init, defScope s_StreamHandler_init, [.str "stderr"], []⟩
abbrev s_MemoryHandler_init : Stmt := inClass (top 64) 0
abbrev nm_MemoryHandler_init : List Str := ["self", "yard", "capacity", "flushLevel", "target", "flushOnClose"]
theorem sc_MemoryHandler_init : FnScope nm_MemoryHandler_init ["self", "yard", "capacity", "flushLevel", "target", "flushOnClose"] (defScope s_MemoryHandler_init) := ⟨rfl, rfl, rfl, by decide +kernel, rfl, by decide +kernel, by decide +kernel⟩
def dd_MemoryHandler_init : He.DefD := ⟨("MemoryHandler", some "__init__"), "__init__", "MemoryHandler.__init__", defArgs s_MemoryHandler_init, defBody s_MemoryHandler_init, defScope s_MemoryHandler_init, [.int 40, .non, .bl true], []⟩
abbrev s_Queue_init : Stmt := inClass (top 23) 0
abbrev nm_Queue_init : List Str := ["self"]
theorem sc_Queue_init : FnScope nm_Queue_init ["self"] (defScope s_Queue_init) := ⟨rfl, rfl, rfl, by decide +kernel, rfl, by decide +kernel, by decide +kernel⟩
def dd_Queue_init : He.DefD := ⟨("Queue", some "__init__"), "__init__", "Queue.__init__", defArgs s_Queue_init, defBody s_Queue_init, defScope s_Queue_init, [], []⟩
abbrev s_Queue___len__ : Stmt := inClass (top 23) 1
abbrev nm_Queue___len__ : List Str := ["self"]
theorem sc_Queue___len__ : FnScope nm_Queue___len__ ["self"] (defScope s_Queue___len__) := ⟨rfl, rfl, rfl, by decide +kernel, rfl, by decide +kernel, by decide +kernel⟩
def dd_Queue___len__ : He.DefD := ⟨("Queue", some "__len__"), "__len__", "Queue.__len__", defArgs s_Queue___len__, defBody s_Queue___len__, defScope s_Queue___len__, [], []⟩
abbrev s_Queue_put : Stmt := inClass (top 23) 2
abbrev nm_Queue_put : List Str := ["self", "record"]
theorem sc_Queue_put : FnScope nm_Queue_put ["self", "record"] (defScope s_Queue_put) := ⟨rfl, rfl, rfl, by decide +kernel, rfl, by decide +kernel, by decide +kernel⟩
def dd_Queue_put : He.DefD := ⟨("Queue", some "put"), "put", "Queue.put", defArgs s_Queue_put, defBody s_Queue_put, defScope s_Queue_put, [], []⟩
abbrev s_Queue_get : Stmt := inClass (top 23) 3
abbrev nm_Queue_get : List Str := ["self"]
theorem sc_Queue_get : FnScope nm_Queue_get ["self"] (defScope s_Queue_get) := ⟨rfl, rfl, rfl, by decide +kernel, rfl, by decide +kernel, by decide +kernel⟩
def dd_Queue_get : He.DefD := ⟨("Queue", some "get"), "get", "Queue.get", defArgs s_Queue_get, defBody s_Queue_get, defScope s_Queue_get, [], []⟩
abbrev s_QueueListener_init : Stmt := inClass (top 24) 0
abbrev nm_QueueListener_init : List Str := ["self", "queue", "handlers", "respect_handler_level"]
theorem sc_QueueListener_init : FnScope nm_QueueListener_init ["self", "queue", "handlers", "respect_handler_level"] (defScope s_QueueListener_init) := ⟨rfl, rfl, rfl, by decide +kernel, rfl, by decide +kernel, by decide +kernel⟩
def dd_QueueListener_init : He.DefD := ⟨("QueueListener", some "__init__"), "__init__", "QueueListener.__init__", defArgs s_QueueListener_init, defBody s_QueueListener_init, defScope s_QueueListener_init, [.bl false], []⟩
abbrev s_QueueListener_lead : Stmt := inClass (top 24) 1
abbrev nm_QueueListener_lead : List Str := ["self", "record", "handler"]
theorem sc_QueueListener_lead : FnScope nm_QueueListener_lead ["self", "record"] (defScope s_QueueListener_lead) := ⟨rfl, rfl, rfl, by decide +kernel, rfl, by decide +kernel, by decide +kernel⟩
def dd_QueueListener_lead : He.DefD := ⟨("QueueListener", some "lead"), "lead", "QueueListener.lead", defArgs s_QueueListener_lead, defBody s_QueueListener_lead, defScope s_QueueListener_lead, [], []⟩
abbrev s_QueueListener_run : Stmt := inClass (top 24) 2
abbrev nm_QueueListener_run : List Str := ["self", "many", "taken"]
theorem sc_QueueListener_run : FnScope nm_QueueListener_run ["self", "many"] (defScope s_QueueListener_run) := ⟨rfl, rfl, rfl, by decide +kernel, rfl, by decide +kernel, by decide +kernel⟩
def dd_QueueListener_run : He.DefD := ⟨("QueueListener", some "run"), "run", "QueueListener.run", defArgs s_QueueListener_run, defBody s_QueueListener_run, defScope s_QueueListener_run, [.non], []⟩
abbrev s_Filterer_addFilter : Stmt := inClass (top 18) 1
abbrev nm_Filterer_addFilter : List Str := ["self", "one"]
theorem sc_Filterer_addFilter : FnScope nm_Filterer_addFilter ["self", "one"] (defScope s_Filterer_addFilter) := ⟨rfl, rfl, rfl, by decide +kernel, rfl, by decide +kernel, by decide +kernel⟩
def dd_StreamHandler_addFilter : He.DefD := ⟨("StreamHandler", some "addFilter"), "addFilter", "Filterer.addFilter", defArgs s_Filterer_addFilter, defBody s_Filterer_addFilter, defScope s_Filterer_addFilter, [], []⟩
abbrev s_Filterer_filtered : Stmt := inClass (top 18) 3
abbrev nm_Filterer_filtered : List Str := ["self", "record", "found", "one"]
theorem sc_Filterer_filtered : FnScope nm_Filterer_filtered ["self", "record"] (defScope s_Filterer_filtered) := ⟨rfl, rfl, rfl, by decide +kernel, rfl, by decide +kernel, by decide +kernel⟩
def dd_StreamHandler_filtered : He.DefD := ⟨("StreamHandler", some "filtered"), "filtered", "Filterer.filtered", defArgs s_Filterer_filtered, defBody s_Filterer_filtered, defScope s_Filterer_filtered, [], []⟩
abbrev s_Handler_setLevel : Stmt := inClass (top 20) 1
abbrev nm_Handler_setLevel : List Str := ["self", "level"]
theorem sc_Handler_setLevel : FnScope nm_Handler_setLevel ["self", "level"] (defScope s_Handler_setLevel) := ⟨rfl, rfl, rfl, by decide +kernel, rfl, by decide +kernel, by decide +kernel⟩
def dd_StreamHandler_setLevel : He.DefD := ⟨("StreamHandler", some "setLevel"), "setLevel", "Handler.setLevel", defArgs s_Handler_setLevel, defBody s_Handler_setLevel, defScope s_Handler_setLevel, [], []⟩
abbrev s_Handler_setFormatter : Stmt := inClass (top 20) 2
abbrev nm_Handler_setFormatter : List Str := ["self", "formatter"]
theorem sc_Handler_setFormatter : FnScope nm_Handler_setFormatter ["self", "formatter"] (defScope s_Handler_setFormatter) := ⟨rfl, rfl, rfl, by decide +kernel, rfl, by decide +kernel, by decide +kernel⟩
def dd_StreamHandler_setFormatter : He.DefD := ⟨("StreamHandler", some "setFormatter"), "setFormatter", "Handler.setFormatter", defArgs s_Handler_setFormatter, defBody s_Handler_setFormatter, defScope s_Handler_setFormatter, [], []⟩
abbrev s_Handler_handle : Stmt := inClass (top 20) 5
abbrev nm_Handler_handle : List Str := ["self", "record", "found"]
theorem sc_Handler_handle : FnScope nm_Handler_handle ["self", "record"] (defScope s_Handler_handle) := ⟨rfl, rfl, rfl, by decide +kernel, rfl, by decide +kernel, by decide +kernel⟩
def dd_StreamHandler_handle : He.DefD := ⟨("StreamHandler", some "handle"), "handle", "Handler.handle", defArgs s_Handler_handle, defBody s_Handler_handle, defScope s_Handler_handle, [], []⟩
abbrev s_StreamHandler_emit : Stmt := inClass (top 21) 1
abbrev nm_StreamHandler_emit : List Str := ["self", "record", "text"]
theorem sc_StreamHandler_emit : FnScope nm_StreamHandler_emit ["self", "record"] (defScope s_StreamHandler_emit) := ⟨rfl, rfl, rfl, by decide +kernel, rfl, by decide +kernel, by decide +kernel⟩
def dd_StreamHandler_emit : He.DefD := ⟨("StreamHandler", some "emit"), "emit", "StreamHandler.emit", defArgs s_StreamHandler_emit, defBody s_StreamHandler_emit, defScope s_StreamHandler_emit, [], []⟩
abbrev s_Handler_formatted : Stmt := inClass (top 20) 7
abbrev nm_Handler_formatted : List Str := ["self", "record"]
theorem sc_Handler_formatted : FnScope nm_Handler_formatted ["self", "record"] (defScope s_Handler_formatted) := ⟨rfl, rfl, rfl, by decide +kernel, rfl, by decide +kernel, by decide +kernel⟩
def dd_StreamHandler_formatted : He.DefD := ⟨("StreamHandler", some "formatted"), "formatted", "Handler.formatted", defArgs s_Handler_formatted, defBody s_Handler_formatted, defScope s_Handler_formatted, [], []⟩
abbrev s_Handler_text_of : Stmt := inClass (top 20) 8
abbrev nm_Handler_text_of : List Str := ["self", "record", "found"]
theorem sc_Handler_text_of : FnScope nm_Handler_text_of ["self", "record"] (defScope s_Handler_text_of) := ⟨rfl, rfl, rfl, by decide +kernel, rfl, by decide +kernel, by decide +kernel⟩
def dd_StreamHandler_text_of : He.DefD := ⟨("StreamHandler", some "text_of"), "text_of", "Handler.text_of", defArgs s_Handler_text_of, defBody s_Handler_text_of, defScope s_Handler_text_of, [], []⟩
def dd_MemoryHandler_addFilter : He.DefD := ⟨("MemoryHandler", some "addFilter"), "addFilter", "Filterer.addFilter", defArgs s_Filterer_addFilter, defBody s_Filterer_addFilter, defScope s_Filterer_addFilter, [], []⟩
def dd_MemoryHandler_filtered : He.DefD := ⟨("MemoryHandler", some "filtered"), "filtered", "Filterer.filtered", defArgs s_Filterer_filtered, defBody s_Filterer_filtered, defScope s_Filterer_filtered, [], []⟩
def dd_MemoryHandler_handle : He.DefD := ⟨("MemoryHandler", some "handle"), "handle", "Handler.handle", defArgs s_Handler_handle, defBody s_Handler_handle, defScope s_Handler_handle, [], []⟩
abbrev s_MemoryHandler_emit : Stmt := inClass (top 64) 3
abbrev nm_MemoryHandler_emit : List Str := ["self", "record"]
theorem sc_MemoryHandler_emit : FnScope nm_MemoryHandler_emit ["self", "record"] (defScope s_MemoryHandler_emit) := ⟨rfl, rfl, rfl, by decide +kernel, rfl, by decide +kernel, by decide +kernel⟩
def dd_MemoryHandler_emit : He.DefD := ⟨("MemoryHandler", some "emit"), "emit", "MemoryHandler.emit", defArgs s_MemoryHandler_emit, defBody s_MemoryHandler_emit, defScope s_MemoryHandler_emit, [], []⟩
abbrev s_MemoryHandler_buffer : Stmt := inClass (top 64) 1
abbrev nm_MemoryHandler_buffer : List Str := ["self"]
theorem sc_MemoryHandler_buffer : FnScope nm_MemoryHandler_buffer ["self"] (defScope s_MemoryHandler_buffer) := ⟨rfl, rfl, rfl, by decide +kernel, rfl, by decide +kernel, by decide +kernel⟩
def dd_MemoryHandler_buffer : He.DefD := ⟨("MemoryHandler", some "buffer"), "buffer", "MemoryHandler.buffer", defArgs s_MemoryHandler_buffer, defBody s_MemoryHandler_buffer, defScope s_MemoryHandler_buffer, [], []⟩
abbrev s_MemoryHandler_shouldFlush : Stmt := inClass (top 64) 2
abbrev nm_MemoryHandler_shouldFlush : List Str := ["self", "record"]
theorem sc_MemoryHandler_shouldFlush : FnScope nm_MemoryHandler_shouldFlush ["self", "record"] (defScope s_MemoryHandler_shouldFlush) := ⟨rfl, rfl, rfl, by decide +kernel, rfl, by decide +kernel, by decide +kernel⟩
def dd_MemoryHandler_shouldFlush : He.DefD := ⟨("MemoryHandler", some "shouldFlush"), "shouldFlush", "MemoryHandler.shouldFlush", defArgs s_MemoryHandler_shouldFlush, defBody s_MemoryHandler_shouldFlush, defScope s_MemoryHandler_shouldFlush, [], []⟩
abbrev s_MemoryHandler_flush : Stmt := inClass (top 64) 4
abbrev nm_MemoryHandler_flush : List Str := ["self", "record"]
theorem sc_MemoryHandler_flush : FnScope nm_MemoryHandler_flush ["self"] (defScope s_MemoryHandler_flush) := ⟨rfl, rfl, rfl, by decide +kernel, rfl, by decide +kernel, by decide +kernel⟩
def dd_MemoryHandler_flush : He.DefD := ⟨("MemoryHandler", some "flush"), "flush", "MemoryHandler.flush", defArgs s_MemoryHandler_flush, defBody s_MemoryHandler_flush, defScope s_MemoryHandler_flush, [], []⟩
def dd_MemoryHandler_setLevel : He.DefD := ⟨("MemoryHandler", some "setLevel"), "setLevel", "Handler.setLevel", defArgs s_Handler_setLevel, defBody s_Handler_setLevel, defScope s_Handler_setLevel, [], []⟩
abbrev s_is_integer : Stmt := top 34
abbrev nm_is_integer : List Str := ["thing"]
theorem sc_is_integer : FnScope nm_is_integer ["thing"] (defScope s_is_integer) := ⟨rfl, rfl, rfl, by decide +kernel, rfl, by decide +kernel, by decide +kernel⟩
def dd_is_integer : He.DefD := ⟨("is_integer", none), "is_integer", "is_integer", defArgs s_is_integer, defBody s_is_integer, defScope s_is_integer, [], []⟩
abbrev s_Field_init : Stmt := inClass (top 38) 0
abbrev nm_Field_init : List Str := ["self", "name", "conversion", "fill", "align", "width"]
theorem sc_Field_init : FnScope nm_Field_init ["self", "name", "conversion", "fill", "align", "width"] (defScope s_Field_init) := ⟨rfl, rfl, rfl, by decide +kernel, rfl, by decide +kernel, by decide +kernel⟩
def dd_Field_init : He.DefD := ⟨("Field", some "__init__"), "__init__", "Field.__init__", defArgs s_Field_init, defBody s_Field_init, defScope s_Field_init, [.str "", .str " ", .str "", .int 0], []⟩
abbrev s_Field_side_of : Stmt := inClass (top 38) 1
abbrev nm_Field_side_of : List Str := ["self", "value"]
theorem sc_Field_side_of : FnScope nm_Field_side_of ["self", "value"] (defScope s_Field_side_of) := ⟨rfl, rfl, rfl, by decide +kernel, rfl, by decide +kernel, by decide +kernel⟩
def dd_Field_side_of : He.DefD := ⟨("Field", some "side_of"), "side_of", "Field.side_of", defArgs s_Field_side_of, defBody s_Field_side_of, defScope s_Field_side_of, [], []⟩
abbrev s_Field_written : Stmt := inClass (top 38) 2
abbrev nm_Field_written : List Str := ["self", "value", "text", "more", "ahead"]
theorem sc_Field_written : FnScope nm_Field_written ["self", "value"] (defScope s_Field_written) := ⟨rfl, rfl, rfl, by decide +kernel, rfl, by decide +kernel, by decide +kernel⟩
def dd_Field_written : He.DefD := ⟨("Field", some "written"), "written", "Field.written", defArgs s_Field_written, defBody s_Field_written, defScope s_Field_written, [], []⟩
abbrev s_name_end : Stmt := top 39
abbrev nm_name_end : List Str := ["text", "start", "end"]
theorem sc_name_end : FnScope nm_name_end ["text", "start"] (defScope s_name_end) := ⟨rfl, rfl, rfl, by decide +kernel, rfl, by decide +kernel, by decide +kernel⟩
def dd_name_end : He.DefD := ⟨("name_end", none), "name_end", "name_end", defArgs s_name_end, defBody s_name_end, defScope s_name_end, [], []⟩
abbrev s_field_of : Stmt := top 44
abbrev nm_field_of : List Str := ["body", "end", "name", "rest", "conversion", "spec"]
theorem sc_field_of : FnScope nm_field_of ["body"] (defScope s_field_of) := ⟨rfl, rfl, rfl, by decide +kernel, rfl, by decide +kernel, by decide +kernel⟩
def dd_field_of : He.DefD := ⟨("field_of", none), "field_of", "field_of", defArgs s_field_of, defBody s_field_of, defScope s_field_of, [], []⟩
abbrev s_parts_of_braces : Stmt := top 45
abbrev nm_parts_of_braces : List Str := ["fmt", "found", "at", "end", "part"]
theorem sc_parts_of_braces : FnScope nm_parts_of_braces ["fmt"] (defScope s_parts_of_braces) := ⟨rfl, rfl, rfl, by decide +kernel, rfl, by decide +kernel, by decide +kernel⟩
def dd_parts_of_braces : He.DefD := ⟨("parts_of_braces", none), "parts_of_braces", "parts_of_braces", defArgs s_parts_of_braces, defBody s_parts_of_braces, defScope s_parts_of_braces, [], []⟩
abbrev s_joined_texts : Stmt := top 61
abbrev nm_joined_texts : List Str := ["parts", "found", "part"]
theorem sc_joined_texts : FnScope nm_joined_texts ["parts"] (defScope s_joined_texts) := ⟨rfl, rfl, rfl, by decide +kernel, rfl, by decide +kernel, by decide +kernel⟩
def dd_joined_texts : He.DefD := ⟨("joined_texts", none), "joined_texts", "joined_texts", defArgs s_joined_texts, defBody s_joined_texts, defScope s_joined_texts, [], []⟩
abbrev s_Formatter_init : Stmt := inClass (top 62) 0
abbrev nm_Formatter_init : List Str := ["self", "fmt", "style", "validate", "defaults", "text", "parts", "part"]
theorem sc_Formatter_init : FnScope nm_Formatter_init ["self", "fmt", "style", "validate", "defaults"] (defScope s_Formatter_init) := ⟨rfl, rfl, rfl, by decide +kernel, rfl, by decide +kernel, by decide +kernel⟩
def dd_Formatter_init : He.DefD := ⟨("Formatter", some "__init__"), "__init__", "Formatter.__init__", defArgs s_Formatter_init, defBody s_Formatter_init, defScope s_Formatter_init, [.non, .str "{", .bl true, .non], []⟩
abbrev s_Formatter_value_of : Stmt := inClass (top 62) 1
abbrev nm_Formatter_value_of : List Str := ["self", "name", "record", "found"]
theorem sc_Formatter_value_of : FnScope nm_Formatter_value_of ["self", "name", "record"] (defScope s_Formatter_value_of) := ⟨rfl, rfl, rfl, by decide +kernel, rfl, by decide +kernel, by decide +kernel⟩
def dd_Formatter_value_of : He.DefD := ⟨("Formatter", some "value_of"), "value_of", "Formatter.value_of", defArgs s_Formatter_value_of, defBody s_Formatter_value_of, defScope s_Formatter_value_of, [], []⟩
abbrev s_Formatter_formatted : Stmt := inClass (top 62) 2
abbrev nm_Formatter_formatted : List Str := ["self", "record", "found", "part"]
theorem sc_Formatter_formatted : FnScope nm_Formatter_formatted ["self", "record"] (defScope s_Formatter_formatted) := ⟨rfl, rfl, rfl, by decide +kernel, rfl, by decide +kernel, by decide +kernel⟩
def dd_Formatter_formatted : He.DefD := ⟨("Formatter", some "formatted"), "formatted", "Formatter.formatted", defArgs s_Formatter_formatted, defBody s_Formatter_formatted, defScope s_Formatter_formatted, [], []⟩
abbrev s_Logger_init : Stmt := inClass (top 66) 0
abbrev nm_Logger_init : List Str := ["self", "yard", "name", "level"]
theorem sc_Logger_init : FnScope nm_Logger_init ["self", "yard", "name", "level"] (defScope s_Logger_init) := ⟨rfl, rfl, rfl, by decide +kernel, rfl, by decide +kernel, by decide +kernel⟩
def dd_Logger_init : He.DefD := ⟨("Logger", some "__init__"), "__init__", "Logger.__init__", defArgs s_Logger_init, defBody s_Logger_init, defScope s_Logger_init, [], []⟩
abbrev s_Yard_init : Stmt := inClass (top 68) 0
abbrev nm_Yard_init : List Str := ["self", "now"]
theorem sc_Yard_init : FnScope nm_Yard_init ["self", "now"] (defScope s_Yard_init) := ⟨rfl, rfl, rfl, by decide +kernel, rfl, by decide +kernel, by decide +kernel⟩
def dd_Yard_init : He.DefD := ⟨("Yard", some "__init__"), "__init__", "Yard.__init__", defArgs s_Yard_init, defBody s_Yard_init, defScope s_Yard_init, [.int 0], []⟩
abbrev s_Yard_text : Stmt := inClass (top 68) 3
abbrev nm_Yard_text : List Str := ["self", "stream"]
theorem sc_Yard_text : FnScope nm_Yard_text ["self", "stream"] (defScope s_Yard_text) := ⟨rfl, rfl, rfl, by decide +kernel, rfl, by decide +kernel, by decide +kernel⟩
def dd_Yard_text : He.DefD := ⟨("Yard", some "text"), "text", "Yard.text", defArgs s_Yard_text, defBody s_Yard_text, defScope s_Yard_text, [], []⟩
abbrev s_Yard_streams : Stmt := inClass (top 68) 4
abbrev nm_Yard_streams : List Str := ["self", "name"]
theorem sc_Yard_streams : FnScope nm_Yard_streams ["self"] (defScope s_Yard_streams) := ⟨rfl, rfl, rfl, by decide +kernel, rfl, by decide +kernel, by decide +kernel⟩
def dd_Yard_streams : He.DefD := ⟨("Yard", some "streams"), "streams", "Yard.streams", defArgs s_Yard_streams, defBody s_Yard_streams, defScope s_Yard_streams, [], []⟩
abbrev s_Yard_write_stream : Stmt := inClass (top 68) 5
abbrev nm_Yard_write_stream : List Str := ["self", "name", "text"]
theorem sc_Yard_write_stream : FnScope nm_Yard_write_stream ["self", "name", "text"] (defScope s_Yard_write_stream) := ⟨rfl, rfl, rfl, by decide +kernel, rfl, by decide +kernel, by decide +kernel⟩
def dd_Yard_write_stream : He.DefD := ⟨("Yard", some "write_stream"), "write_stream", "Yard.write_stream", defArgs s_Yard_write_stream, defBody s_Yard_write_stream, defScope s_Yard_write_stream, [], []⟩
abbrev s_Yard_level_name : Stmt := inClass (top 68) 16
abbrev nm_Yard_level_name : List Str := ["self", "level"]
theorem sc_Yard_level_name : FnScope nm_Yard_level_name ["self", "level"] (defScope s_Yard_level_name) := ⟨rfl, rfl, rfl, by decide +kernel, rfl, by decide +kernel, by decide +kernel⟩
def dd_Yard_level_name : He.DefD := ⟨("Yard", some "level_name"), "level_name", "Yard.level_name", defArgs s_Yard_level_name, defBody s_Yard_level_name, defScope s_Yard_level_name, [], []⟩
abbrev s_Yard_level_of : Stmt := inClass (top 68) 18
abbrev nm_Yard_level_of : List Str := ["self", "level"]
theorem sc_Yard_level_of : FnScope nm_Yard_level_of ["self", "level"] (defScope s_Yard_level_of) := ⟨rfl, rfl, rfl, by decide +kernel, rfl, by decide +kernel, by decide +kernel⟩
def dd_Yard_level_of : He.DefD := ⟨("Yard", some "level_of"), "level_of", "Yard.level_of", defArgs s_Yard_level_of, defBody s_Yard_level_of, defScope s_Yard_level_of, [], []⟩
abbrev s_Yard_make_record : Stmt := inClass (top 68) 19
abbrev nm_Yard_make_record : List Str := ["self", "name", "level", "msg", "args", "extra", "number", "more", "bad", "key"]
theorem sc_Yard_make_record : FnScope nm_Yard_make_record ["self", "name", "level", "msg", "args", "extra"] (defScope s_Yard_make_record) := ⟨rfl, rfl, rfl, by decide +kernel, rfl, by decide +kernel, by decide +kernel⟩
def dd_Yard_make_record : He.DefD := ⟨("Yard", some "make_record"), "make_record", "Yard.make_record", defArgs s_Yard_make_record, defBody s_Yard_make_record, defScope s_Yard_make_record, [.adr (He.dflAt ("Yard", some "make_record") 0), .non], []⟩
abbrev s_Yard_enrol : Stmt := inClass (top 68) 24
abbrev nm_Yard_enrol : List Str := ["self", "handler"]
theorem sc_Yard_enrol : FnScope nm_Yard_enrol ["self", "handler"] (defScope s_Yard_enrol) := ⟨rfl, rfl, rfl, by decide +kernel, rfl, by decide +kernel, by decide +kernel⟩
def dd_Yard_enrol : He.DefD := ⟨("Yard", some "enrol"), "enrol", "Yard.enrol", defArgs s_Yard_enrol, defBody s_Yard_enrol, defScope s_Yard_enrol, [], []⟩
abbrev s_Yard_keep_failure : Stmt := inClass (top 68) 29
abbrev nm_Yard_keep_failure : List Str := ["self", "name", "word"]
theorem sc_Yard_keep_failure : FnScope nm_Yard_keep_failure ["self", "name", "word"] (defScope s_Yard_keep_failure) := ⟨rfl, rfl, rfl, by decide +kernel, rfl, by decide +kernel, by decide +kernel⟩
def dd_Yard_keep_failure : He.DefD := ⟨("Yard", some "keep_failure"), "keep_failure", "Yard.keep_failure", defArgs s_Yard_keep_failure, defBody s_Yard_keep_failure, defScope s_Yard_keep_failure, [], []⟩
abbrev s_Yard_failures : Stmt := inClass (top 68) 30
abbrev nm_Yard_failures : List Str := ["self"]
theorem sc_Yard_failures : FnScope nm_Yard_failures ["self"] (defScope s_Yard_failures) := ⟨rfl, rfl, rfl, by decide +kernel, rfl, by decide +kernel, by decide +kernel⟩
def dd_Yard_failures : He.DefD := ⟨("Yard", some "failures"), "failures", "Yard.failures", defArgs s_Yard_failures, defBody s_Yard_failures, defScope s_Yard_failures, [], []⟩
abbrev s__law_draw : Stmt := top 70
abbrev nm__law_draw : List Str := ["_law_stream", "_law_many", "_law_digit", "_law_mixed", "_law_last"]
theorem sc__law_draw : FnScope nm__law_draw ["_law_stream", "_law_many"] (defScope s__law_draw) := ⟨rfl, rfl, rfl, by decide +kernel, rfl, by decide +kernel, by decide +kernel⟩
def dd__law_draw : He.DefD := ⟨("_law_draw", none), "_law_draw", "_law_draw", defArgs s__law_draw, defBody s__law_draw, defScope s__law_draw, [], []⟩
abbrev s__law_pick : Stmt := top 71
abbrev nm__law_pick : List Str := ["_law_stream", "_law_some"]
theorem sc__law_pick : FnScope nm__law_pick ["_law_stream", "_law_some"] (defScope s__law_pick) := ⟨rfl, rfl, rfl, by decide +kernel, rfl, by decide +kernel, by decide +kernel⟩
def dd__law_pick : He.DefD := ⟨("_law_pick", none), "_law_pick", "_law_pick", defArgs s__law_pick, defBody s__law_pick, defScope s__law_pick, [], []⟩
abbrev s__law_same : Stmt := top 72
abbrev nm__law_same : List Str := ["_law_found", "_law_due", "_law_one", "_law_other"]
theorem sc__law_same : FnScope nm__law_same ["_law_found", "_law_due"] (defScope s__law_same) := ⟨rfl, rfl, rfl, by decide +kernel, rfl, by decide +kernel, by decide +kernel⟩
def dd__law_same : He.DefD := ⟨("_law_same", none), "_law_same", "_law_same", defArgs s__law_same, defBody s__law_same, defScope s__law_same, [], []⟩
abbrev s__law_record : Stmt := top 73
abbrev nm__law_record : List Str := ["_law_stream", "_law_yard", "_law_number", "_law_name", "_law_level", "_law_text", "_law_bad", "_law_it"]
theorem sc__law_record : FnScope nm__law_record ["_law_stream", "_law_yard", "_law_number"] (defScope s__law_record) := ⟨rfl, rfl, rfl, by decide +kernel, rfl, by decide +kernel, by decide +kernel⟩
def dd__law_record : He.DefD := ⟨("_law_record", none), "_law_record", "_law_record", defArgs s__law_record, defBody s__law_record, defScope s__law_record, [], []⟩
abbrev s__law_writer : Stmt := top 74
abbrev nm__law_writer : List Str := ["_law_stream", "_law_yard", "_law_nth", "_law_form", "_law_found"]
theorem sc__law_writer : FnScope nm__law_writer ["_law_stream", "_law_yard", "_law_nth"] (defScope s__law_writer) := ⟨rfl, rfl, rfl, by decide +kernel, rfl, by decide +kernel, by decide +kernel⟩
def dd__law_writer : He.DefD := ⟨("_law_writer", none), "_law_writer", "_law_writer", defArgs s__law_writer, defBody s__law_writer, defScope s__law_writer, [], []⟩
abbrev s__law_memory : Stmt := top 75
abbrev nm__law_memory : List Str := ["_law_stream", "_law_yard", "_law_target", "_law_handlers", "_law_found", "_law_it"]
theorem sc__law_memory : FnScope nm__law_memory ["_law_stream", "_law_yard", "_law_target", "_law_handlers"] (defScope s__law_memory) := ⟨rfl, rfl, rfl, by decide +kernel, rfl, by decide +kernel, by decide +kernel⟩
def dd__law_memory : He.DefD := ⟨("_law_memory", none), "_law_memory", "_law_memory", defArgs s__law_memory, defBody s__law_memory, defScope s__law_memory, [], []⟩
abbrev s__law_let_by : Stmt := top 76
abbrev nm__law_let_by : List Str := ["_law_names", "_law_name", "_law_one"]
theorem sc__law_let_by : FnScope nm__law_let_by ["_law_names", "_law_name"] (defScope s__law_let_by) := ⟨rfl, rfl, rfl, by decide +kernel, rfl, by decide +kernel, by decide +kernel⟩
def dd__law_let_by : He.DefD := ⟨("_law_let_by", none), "_law_let_by", "_law_let_by", defArgs s__law_let_by, defBody s__law_let_by, defScope s__law_let_by, [], []⟩
abbrev s__law_shaped : Stmt := top 77
abbrev nm__law_shaped : List Str := ["_law_form", "_law_record_here", "_law_plain", "_law_ahead"]
theorem sc__law_shaped : FnScope nm__law_shaped ["_law_form", "_law_record_here"] (defScope s__law_shaped) := ⟨rfl, rfl, rfl, by decide +kernel, rfl, by decide +kernel, by decide +kernel⟩
def dd__law_shaped : He.DefD := ⟨("_law_shaped", none), "_law_shaped", "_law_shaped", defArgs s__law_shaped, defBody s__law_shaped, defScope s__law_shaped, [], []⟩
abbrev s__law_written : Stmt := top 78
abbrev nm__law_written : List Str := ["_law_m", "_law_one", "_law_record_here", "_law_text", "_law_word"]
theorem sc__law_written : FnScope nm__law_written ["_law_m", "_law_one", "_law_record_here"] (defScope s__law_written) := ⟨rfl, rfl, rfl, by decide +kernel, rfl, by decide +kernel, by decide +kernel⟩
def dd__law_written : He.DefD := ⟨("_law_written", none), "_law_written", "_law_written", defArgs s__law_written, defBody s__law_written, defScope s__law_written, [], []⟩
abbrev s__law_handled : Stmt := top 79
abbrev nm__law_handled : List Str := ["_law_m", "_law_at", "_law_record_here", "_law_one"]
theorem sc__law_handled : FnScope nm__law_handled ["_law_m", "_law_at", "_law_record_here"] (defScope s__law_handled) := ⟨rfl, rfl, rfl, by decide +kernel, rfl, by decide +kernel, by decide +kernel⟩
def dd__law_handled : He.DefD := ⟨("_law_handled", none), "_law_handled", "_law_handled", defArgs s__law_handled, defBody s__law_handled, defScope s__law_handled, [], []⟩
abbrev s__law_flushed : Stmt := top 80
abbrev nm__law_flushed : List Str := ["_law_m", "_law_at", "_law_one", "_law_record_here"]
theorem sc__law_flushed : FnScope nm__law_flushed ["_law_m", "_law_at"] (defScope s__law_flushed) := ⟨rfl, rfl, rfl, by decide +kernel, rfl, by decide +kernel, by decide +kernel⟩
def dd__law_flushed : He.DefD := ⟨("_law_flushed", none), "_law_flushed", "_law_flushed", defArgs s__law_flushed, defBody s__law_flushed, defScope s__law_flushed, [], []⟩
abbrev s__law_stands : Stmt := top 81
abbrev nm__law_stands : List Str := ["_law_yard", "_law_m", "_law_name", "_law_one", "_law_again", "_law_found", "_law_record_here"]
theorem sc__law_stands : FnScope nm__law_stands ["_law_yard", "_law_m"] (defScope s__law_stands) := ⟨rfl, rfl, rfl, by decide +kernel, rfl, by decide +kernel, by decide +kernel⟩
def dd__law_stands : He.DefD := ⟨("_law_stands", none), "_law_stands", "_law_stands", defArgs s__law_stands, defBody s__law_stands, defScope s__law_stands, [], []⟩
abbrev s_law : Stmt := top 83
abbrev nm_law : List Str := ["_law_script", "_law_stream", "_law_turn", "_law_yard", "_law_m", "_law_queue", "_law_waiting", "_law_k", "_law_rows", "_law_listeners", "_law_respects", "_law_j", "_law_some", "_law_at", "_law_handed", "_law_one", "_law_nth", "_law_many", "_law_due", "_law_record_here"]
theorem sc_law : FnScope nm_law ["_law_script"] (defScope s_law) := ⟨rfl, rfl, rfl, by decide +kernel, rfl, by decide +kernel, by decide +kernel⟩
def dd_law : He.DefD := ⟨("law", none), "law", "law", defArgs s_law, defBody s_law, defScope s_law, [], []⟩
def kv_FIRST_NAMES : List (Key × He.Dv) := [(Sum.inl (50), .str "CRITICAL"), (Sum.inl (40), .str "ERROR"), (Sum.inl (30), .str "WARNING"), (Sum.inl (20), .str "INFO"), (Sum.inl (10), .str "DEBUG"), (Sum.inl (0), .str "NOTSET")]
def kv_FIRST_NUMBERS : List (Key × He.Dv) := [(Sum.inr "CRITICAL", .int (50)), (Sum.inr "FATAL", .int (50)), (Sum.inr "ERROR", .int (40)), (Sum.inr "WARNING", .int (30)), (Sum.inr "WARN", .int (30)), (Sum.inr "INFO", .int (20)), (Sum.inr "DEBUG", .int (10)), (Sum.inr "NOTSET", .int (0))]
def kv_MESSAGE_ALONE : List (Key × He.Dv) := [(Sum.inr "{", .str "{message}"), (Sum.inr "$", .str "$message")]
def fa : List He.Fa := ([.glo "BadMessage", .glo "BadField", .glo "LogRecord", .glo "Filter", .glo "Filterer", .glo "Handler", .glo "StreamHandler", .glo "MemoryHandler", .glo "Queue", .glo "QueueListener", .glo "Field", .glo "Formatter"] : List He.Fa) ++ ([.glo "Logger", .glo "Yard", .glo "copied_value", .glo "message_of", .glo "is_below", .glo "let_by", .glo "is_integer", .glo "name_end", .glo "field_of", .glo "parts_of_braces", .glo "joined_texts", .glo "_law_draw"] : List He.Fa) ++ ([.glo "_law_pick", .glo "_law_same", .glo "_law_record", .glo "_law_writer", .glo "_law_memory", .glo "_law_let_by", .glo "_law_shaped", .glo "_law_written", .glo "_law_handled", .glo "_law_flushed", .glo "_law_stands", .glo "law"] : List He.Fa) ++ ([.int "WARNING" 30, .int "NOTSET" 0, .glo "OWN_FIELDS", .glo "FIRST_NAMES", .glo "FIRST_NUMBERS", .str "LETTERS" "abcdefghijklmnopqrstuvwxyzABCDEFGHIJKLMNOPQRSTUVWXYZ_", .str "DIGITS" "0123456789", .glo "MESSAGE_ALONE", .free "len", .free "isinstance", .free "int", .free "str"] : List He.Fa) ++ ([.free "list", .free "tuple", .free "bool", .free "dict", .free "range", .free "sorted", .free "all", .free "any", .free "zip", .free "max", .free "min", .cls "LogRecord"] : List He.Fa) ++ ([.noat "LogRecord" "name", .noat "LogRecord" "levelno", .noat "LogRecord" "levelname", .noat "LogRecord" "msg", .noat "LogRecord" "given", .noat "LogRecord" "created", .noat "LogRecord" "extra", .cls "Filter", .noat "Filter" "name", .cls "StreamHandler", .noat "StreamHandler" "filters", .noat "StreamHandler" "yard"] : List He.Fa) ++ ([.noat "StreamHandler" "level", .noat "StreamHandler" "formatter", .noat "StreamHandler" "name", .noat "StreamHandler" "terminator", .noat "StreamHandler" "closed", .noat "StreamHandler" "stream", .cls "MemoryHandler", .noat "MemoryHandler" "filters", .noat "MemoryHandler" "yard", .noat "MemoryHandler" "level", .noat "MemoryHandler" "formatter", .noat "MemoryHandler" "name"] : List He.Fa) ++ ([.noat "MemoryHandler" "terminator", .noat "MemoryHandler" "closed", .noat "MemoryHandler" "capacity", .noat "MemoryHandler" "flush_level", .noat "MemoryHandler" "target", .noat "MemoryHandler" "flush_on_close", .noat "MemoryHandler" "kept", .cls "Queue", .noat "Queue" "waiting", .cls "QueueListener", .noat "QueueListener" "queue", .noat "QueueListener" "handler_list"] : List He.Fa) ++ ([.noat "QueueListener" "respects", .cls "Field", .noat "Field" "name", .noat "Field" "conversion", .noat "Field" "fill", .noat "Field" "align", .noat "Field" "width", .cls "Formatter", .noat "Formatter" "fmt", .noat "Formatter" "style", .noat "Formatter" "parts", .noat "Formatter" "defaults"] : List He.Fa) ++ ([.cls "Logger", .noat "Logger" "filters", .noat "Logger" "yard", .noat "Logger" "name", .noat "Logger" "level", .noat "Logger" "propagate", .noat "Logger" "disabled", .noat "Logger" "handlers", .noat "Logger" "parent", .cls "Yard", .noat "Yard" "clock", .noat "Yard" "stream_texts"] : List He.Fa) ++ ([.noat "Yard" "file_rows", .noat "Yard" "names_of", .noat "Yard" "numbers_of", .noat "Yard" "bar_level", .noat "Yard" "logger_map", .noat "Yard" "made", .noat "Yard" "handler_names", .noat "Yard" "failure_rows", .noat "Yard" "root", .noat "Yard" "last_resort", .meth "LogRecord" "message", .meth "LogRecord" "field"] : List He.Fa) ++ ([.meth "Filter" "passes", .meth "Queue" "__len__", .meth "Queue" "put", .meth "Queue" "get", .meth "QueueListener" "lead", .meth "QueueListener" "run", .meth "StreamHandler" "addFilter", .meth "StreamHandler" "filtered", .meth "StreamHandler" "setLevel", .meth "StreamHandler" "setFormatter", .meth "StreamHandler" "handle", .meth "StreamHandler" "emit"] : List He.Fa) ++ ([.meth "StreamHandler" "formatted", .meth "StreamHandler" "text_of", .meth "MemoryHandler" "addFilter", .meth "MemoryHandler" "filtered", .meth "MemoryHandler" "handle", .meth "MemoryHandler" "emit", .meth "MemoryHandler" "buffer", .meth "MemoryHandler" "shouldFlush", .meth "MemoryHandler" "flush", .meth "MemoryHandler" "setLevel", .meth "Field" "side_of", .meth "Field" "written"] : List He.Fa) ++ ([.meth "Formatter" "value_of", .meth "Formatter" "formatted", .meth "Yard" "text", .meth "Yard" "streams", .meth "Yard" "write_stream", .meth "Yard" "level_name", .meth "Yard" "level_of", .meth "Yard" "make_record", .meth "Yard" "enrol", .meth "Yard" "keep_failure", .meth "Yard" "failures", .mkr "LogRecord"] : List He.Fa) ++ ([.mkr "Filter", .mkr "StreamHandler", .mkr "MemoryHandler", .mkr "Queue", .mkr "QueueListener", .mkr "Field", .mkr "Formatter", .mkr "Logger", .mkr "Yard"] : List He.Fa)
def fx : List RB.Fx := ([.exc "BadMessage" "msg", .exc "BadField" "name", .exm "BadMessage" "BadMessage" true, .exm "BadMessage" "BadField" false, .exm "BadField" "BadMessage" false, .exm "BadField" "BadField" true, .pl "Logger", .pl "StreamHandler", .pl "LogRecord", .pl "Filter", .pl "MemoryHandler", .sub "Logger" "Logger"] : List RB.Fx) ++ ([.sub "StreamHandler" "StreamHandler", .sub "MemoryHandler" "MemoryHandler", .sub "LogRecord" "LogRecord", .sub "Filter" "Filter", .cf "Filterer" "__init__", .cf "Handler" "__init__", .ty "Field", .ty "Filter", .kit "Filter" "Filter" true, .kiy "Field" "str" false, .dtup ("Yard", some "make_record") 0] : List RB.Fx)
def fn : List He.DefD := ([dd_Filterer_init, dd_copied_value, dd_message_of, dd_BadMessage_init, dd_BadField_init, dd_LogRecord_init, dd_LogRecord_message, dd_LogRecord_field, dd_is_below, dd_let_by, dd_Filter_init, dd_Filter_passes] : List He.DefD) ++ ([dd_Handler_init, dd_StreamHandler_init, dd_MemoryHandler_init, dd_Queue_init, dd_Queue___len__, dd_Queue_put, dd_Queue_get, dd_QueueListener_init, dd_QueueListener_lead, dd_QueueListener_run, dd_StreamHandler_addFilter, dd_StreamHandler_filtered] : List He.DefD) ++ ([dd_StreamHandler_setLevel, dd_StreamHandler_setFormatter, dd_StreamHandler_handle, dd_StreamHandler_emit, dd_StreamHandler_formatted, dd_StreamHandler_text_of, dd_MemoryHandler_addFilter, dd_MemoryHandler_filtered, dd_MemoryHandler_handle, dd_MemoryHandler_emit, dd_MemoryHandler_buffer, dd_MemoryHandler_shouldFlush] : List He.DefD) ++ ([dd_MemoryHandler_flush, dd_MemoryHandler_setLevel, dd_is_integer, dd_Field_init, dd_Field_side_of, dd_Field_written, dd_name_end, dd_field_of, dd_parts_of_braces, dd_joined_texts, dd_Formatter_init, dd_Formatter_value_of] : List He.DefD) ++ ([dd_Formatter_formatted, dd_Logger_init, dd_Yard_init, dd_Yard_text, dd_Yard_streams, dd_Yard_write_stream, dd_Yard_level_name, dd_Yard_level_of, dd_Yard_make_record, dd_Yard_enrol, dd_Yard_keep_failure, dd_Yard_failures] : List He.DefD) ++ ([dd__law_draw, dd__law_pick, dd__law_same, dd__law_record, dd__law_writer, dd__law_memory, dd__law_let_by, dd__law_shaped, dd__law_written, dd__law_handled, dd__law_flushed, dd__law_stands] : List He.DefD) ++ ([dd_law] : List He.DefD)
def ts : List RB.Tb := ([("FIRST_NAMES", kv_FIRST_NAMES), ("FIRST_NUMBERS", kv_FIRST_NUMBERS), ("MESSAGE_ALONE", kv_MESSAGE_ALONE)] : List RB.Tb)
def names : List PySem.Str := (["_wall", "YardError", "BadLevel", "BadExtra", "BadMessage", "BadField", "BadFormat", "BadStyle", "OWN_FIELDS", "copied_value", "message_of", "LogRecord"] : List PySem.Str) ++ (["is_below", "let_by", "Filter", "Filterer", "Handler", "StreamHandler", "Queue", "QueueListener", "CRITICAL", "ERROR", "WARNING", "INFO"] : List PySem.Str) ++ (["DEBUG", "NOTSET", "FIRST_NAMES", "FIRST_NUMBERS", "is_integer", "LETTERS", "DIGITS", "Field", "name_end", "ALIGNS", "is_width", "spec_of"] : List PySem.Str) ++ (["field_of", "parts_of_braces", "DAY", "MONTHS", "is_leap", "first_day", "date_of", "padded", "date_text", "clock_parts", "shown_time", "field_behind"] : List PySem.Str) ++ (["parts_of_dollars", "MESSAGE_ALONE", "joined_texts", "Formatter", "MemoryHandler", "Logger", "Yard", "_law_draw", "_law_pick", "_law_same", "_law_record", "_law_writer"] : List PySem.Str) ++ (["_law_memory", "_law_let_by", "_law_shaped", "_law_written", "_law_handled", "_law_flushed", "_law_stands", "_law_opened"] : List PySem.Str)
/-- what the text is, behind the top -/
structure Txt (P : Program) (w : World) (K : PySem.W.Frag) (mg : Str → Option Value) : Prop where
  g_BadMessage : mg "BadMessage" = some (.ref (He.ga K "BadMessage"))
  g_BadField : mg "BadField" = some (.ref (He.ga K "BadField"))
  g_LogRecord : mg "LogRecord" = some (.ref (He.ga K "LogRecord"))
  g_Filter : mg "Filter" = some (.ref (He.ga K "Filter"))
  g_Filterer : mg "Filterer" = some (.ref (He.ga K "Filterer"))
  g_Handler : mg "Handler" = some (.ref (He.ga K "Handler"))
  g_StreamHandler : mg "StreamHandler" = some (.ref (He.ga K "StreamHandler"))
  g_MemoryHandler : mg "MemoryHandler" = some (.ref (He.ga K "MemoryHandler"))
  g_Queue : mg "Queue" = some (.ref (He.ga K "Queue"))
  g_QueueListener : mg "QueueListener" = some (.ref (He.ga K "QueueListener"))
  g_Field : mg "Field" = some (.ref (He.ga K "Field"))
  g_Formatter : mg "Formatter" = some (.ref (He.ga K "Formatter"))
  g_Logger : mg "Logger" = some (.ref (He.ga K "Logger"))
  g_Yard : mg "Yard" = some (.ref (He.ga K "Yard"))
  g_copied_value : mg "copied_value" = some (.ref (He.ga K "copied_value"))
  g_message_of : mg "message_of" = some (.ref (He.ga K "message_of"))
  g_is_below : mg "is_below" = some (.ref (He.ga K "is_below"))
  g_let_by : mg "let_by" = some (.ref (He.ga K "let_by"))
  g_is_integer : mg "is_integer" = some (.ref (He.ga K "is_integer"))
  g_name_end : mg "name_end" = some (.ref (He.ga K "name_end"))
  g_field_of : mg "field_of" = some (.ref (He.ga K "field_of"))
  g_parts_of_braces : mg "parts_of_braces" = some (.ref (He.ga K "parts_of_braces"))
  g_joined_texts : mg "joined_texts" = some (.ref (He.ga K "joined_texts"))
  g__law_draw : mg "_law_draw" = some (.ref (He.ga K "_law_draw"))
  g__law_pick : mg "_law_pick" = some (.ref (He.ga K "_law_pick"))
  g__law_same : mg "_law_same" = some (.ref (He.ga K "_law_same"))
  g__law_record : mg "_law_record" = some (.ref (He.ga K "_law_record"))
  g__law_writer : mg "_law_writer" = some (.ref (He.ga K "_law_writer"))
  g__law_memory : mg "_law_memory" = some (.ref (He.ga K "_law_memory"))
  g__law_let_by : mg "_law_let_by" = some (.ref (He.ga K "_law_let_by"))
  g__law_shaped : mg "_law_shaped" = some (.ref (He.ga K "_law_shaped"))
  g__law_written : mg "_law_written" = some (.ref (He.ga K "_law_written"))
  g__law_handled : mg "_law_handled" = some (.ref (He.ga K "_law_handled"))
  g__law_flushed : mg "_law_flushed" = some (.ref (He.ga K "_law_flushed"))
  g__law_stands : mg "_law_stands" = some (.ref (He.ga K "_law_stands"))
  g_law : mg "law" = some (.ref (He.ga K "law"))
  g_WARNING : ∃ t, mg "WARNING" = some (.int 30 t)
  g_NOTSET : ∃ t, mg "NOTSET" = some (.int 0 t)
  g_OWN_FIELDS : mg "OWN_FIELDS" = some (.ref (He.ga K "OWN_FIELDS"))
  g_FIRST_NAMES : mg "FIRST_NAMES" = some (.ref (He.ga K "FIRST_NAMES"))
  g_FIRST_NUMBERS : mg "FIRST_NUMBERS" = some (.ref (He.ga K "FIRST_NUMBERS"))
  g_LETTERS : ∃ t, mg "LETTERS" = some (.str "abcdefghijklmnopqrstuvwxyzABCDEFGHIJKLMNOPQRSTUVWXYZ_" t)
  g_DIGITS : ∃ t, mg "DIGITS" = some (.str "0123456789" t)
  g_MESSAGE_ALONE : mg "MESSAGE_ALONE" = some (.ref (He.ga K "MESSAGE_ALONE"))
  b_len : mg "len" = none
  b_isinstance : mg "isinstance" = none
  b_int : mg "int" = none
  b_str : mg "str" = none
  b_list : mg "list" = none
  b_tuple : mg "tuple" = none
  b_bool : mg "bool" = none
  b_dict : mg "dict" = none
  b_range : mg "range" = none
  b_sorted : mg "sorted" = none
  b_all : mg "all" = none
  b_any : mg "any" = none
  b_zip : mg "zip" = none
  b_max : mg "max" = none
  b_min : mg "min" = none
  c_LogRecord : Cls K (He.ga K "LogRecord")
  n_LogRecord_name : NoAttr K (He.ga K "LogRecord") "name"
  n_LogRecord_levelno : NoAttr K (He.ga K "LogRecord") "levelno"
  n_LogRecord_levelname : NoAttr K (He.ga K "LogRecord") "levelname"
  n_LogRecord_msg : NoAttr K (He.ga K "LogRecord") "msg"
  n_LogRecord_given : NoAttr K (He.ga K "LogRecord") "given"
  n_LogRecord_created : NoAttr K (He.ga K "LogRecord") "created"
  n_LogRecord_extra : NoAttr K (He.ga K "LogRecord") "extra"
  c_Filter : Cls K (He.ga K "Filter")
  n_Filter_name : NoAttr K (He.ga K "Filter") "name"
  c_StreamHandler : Cls K (He.ga K "StreamHandler")
  n_StreamHandler_filters : NoAttr K (He.ga K "StreamHandler") "filters"
  n_StreamHandler_yard : NoAttr K (He.ga K "StreamHandler") "yard"
  n_StreamHandler_level : NoAttr K (He.ga K "StreamHandler") "level"
  n_StreamHandler_formatter : NoAttr K (He.ga K "StreamHandler") "formatter"
  n_StreamHandler_name : NoAttr K (He.ga K "StreamHandler") "name"
  n_StreamHandler_terminator : NoAttr K (He.ga K "StreamHandler") "terminator"
  n_StreamHandler_closed : NoAttr K (He.ga K "StreamHandler") "closed"
  n_StreamHandler_stream : NoAttr K (He.ga K "StreamHandler") "stream"
  c_MemoryHandler : Cls K (He.ga K "MemoryHandler")
  n_MemoryHandler_filters : NoAttr K (He.ga K "MemoryHandler") "filters"
  n_MemoryHandler_yard : NoAttr K (He.ga K "MemoryHandler") "yard"
  n_MemoryHandler_level : NoAttr K (He.ga K "MemoryHandler") "level"
  n_MemoryHandler_formatter : NoAttr K (He.ga K "MemoryHandler") "formatter"
  n_MemoryHandler_name : NoAttr K (He.ga K "MemoryHandler") "name"
  n_MemoryHandler_terminator : NoAttr K (He.ga K "MemoryHandler") "terminator"
  n_MemoryHandler_closed : NoAttr K (He.ga K "MemoryHandler") "closed"
  n_MemoryHandler_capacity : NoAttr K (He.ga K "MemoryHandler") "capacity"
  n_MemoryHandler_flush_level : NoAttr K (He.ga K "MemoryHandler") "flush_level"
  n_MemoryHandler_target : NoAttr K (He.ga K "MemoryHandler") "target"
  n_MemoryHandler_flush_on_close : NoAttr K (He.ga K "MemoryHandler") "flush_on_close"
  n_MemoryHandler_kept : NoAttr K (He.ga K "MemoryHandler") "kept"
  c_Queue : Cls K (He.ga K "Queue")
  n_Queue_waiting : NoAttr K (He.ga K "Queue") "waiting"
  c_QueueListener : Cls K (He.ga K "QueueListener")
  n_QueueListener_queue : NoAttr K (He.ga K "QueueListener") "queue"
  n_QueueListener_handler_list : NoAttr K (He.ga K "QueueListener") "handler_list"
  n_QueueListener_respects : NoAttr K (He.ga K "QueueListener") "respects"
  c_Field : Cls K (He.ga K "Field")
  n_Field_name : NoAttr K (He.ga K "Field") "name"
  n_Field_conversion : NoAttr K (He.ga K "Field") "conversion"
  n_Field_fill : NoAttr K (He.ga K "Field") "fill"
  n_Field_align : NoAttr K (He.ga K "Field") "align"
  n_Field_width : NoAttr K (He.ga K "Field") "width"
  c_Formatter : Cls K (He.ga K "Formatter")
  n_Formatter_fmt : NoAttr K (He.ga K "Formatter") "fmt"
  n_Formatter_style : NoAttr K (He.ga K "Formatter") "style"
  n_Formatter_parts : NoAttr K (He.ga K "Formatter") "parts"
  n_Formatter_defaults : NoAttr K (He.ga K "Formatter") "defaults"
  c_Logger : Cls K (He.ga K "Logger")
  n_Logger_filters : NoAttr K (He.ga K "Logger") "filters"
  n_Logger_yard : NoAttr K (He.ga K "Logger") "yard"
  n_Logger_name : NoAttr K (He.ga K "Logger") "name"
  n_Logger_level : NoAttr K (He.ga K "Logger") "level"
  n_Logger_propagate : NoAttr K (He.ga K "Logger") "propagate"
  n_Logger_disabled : NoAttr K (He.ga K "Logger") "disabled"
  n_Logger_handlers : NoAttr K (He.ga K "Logger") "handlers"
  n_Logger_parent : NoAttr K (He.ga K "Logger") "parent"
  c_Yard : Cls K (He.ga K "Yard")
  n_Yard_clock : NoAttr K (He.ga K "Yard") "clock"
  n_Yard_stream_texts : NoAttr K (He.ga K "Yard") "stream_texts"
  n_Yard_file_rows : NoAttr K (He.ga K "Yard") "file_rows"
  n_Yard_names_of : NoAttr K (He.ga K "Yard") "names_of"
  n_Yard_numbers_of : NoAttr K (He.ga K "Yard") "numbers_of"
  n_Yard_bar_level : NoAttr K (He.ga K "Yard") "bar_level"
  n_Yard_logger_map : NoAttr K (He.ga K "Yard") "logger_map"
  n_Yard_made : NoAttr K (He.ga K "Yard") "made"
  n_Yard_handler_names : NoAttr K (He.ga K "Yard") "handler_names"
  n_Yard_failure_rows : NoAttr K (He.ga K "Yard") "failure_rows"
  n_Yard_root : NoAttr K (He.ga K "Yard") "root"
  n_Yard_last_resort : NoAttr K (He.ga K "Yard") "last_resort"
  m_LogRecord_message : Meth K (He.ga K "LogRecord") "message" (He.ma K (He.ga K "LogRecord") "message")
  m_LogRecord_field : Meth K (He.ga K "LogRecord") "field" (He.ma K (He.ga K "LogRecord") "field")
  m_Filter_passes : Meth K (He.ga K "Filter") "passes" (He.ma K (He.ga K "Filter") "passes")
  m_Queue___len__ : Meth K (He.ga K "Queue") "__len__" (He.ma K (He.ga K "Queue") "__len__")
  m_Queue_put : Meth K (He.ga K "Queue") "put" (He.ma K (He.ga K "Queue") "put")
  m_Queue_get : Meth K (He.ga K "Queue") "get" (He.ma K (He.ga K "Queue") "get")
  m_QueueListener_lead : Meth K (He.ga K "QueueListener") "lead" (He.ma K (He.ga K "QueueListener") "lead")
  m_QueueListener_run : Meth K (He.ga K "QueueListener") "run" (He.ma K (He.ga K "QueueListener") "run")
  m_StreamHandler_addFilter : Meth K (He.ga K "StreamHandler") "addFilter" (He.ma K (He.ga K "StreamHandler") "addFilter")
  m_StreamHandler_filtered : Meth K (He.ga K "StreamHandler") "filtered" (He.ma K (He.ga K "StreamHandler") "filtered")
  m_StreamHandler_setLevel : Meth K (He.ga K "StreamHandler") "setLevel" (He.ma K (He.ga K "StreamHandler") "setLevel")
  m_StreamHandler_setFormatter : Meth K (He.ga K "StreamHandler") "setFormatter" (He.ma K (He.ga K "StreamHandler") "setFormatter")
  m_StreamHandler_handle : Meth K (He.ga K "StreamHandler") "handle" (He.ma K (He.ga K "StreamHandler") "handle")
  m_StreamHandler_emit : Meth K (He.ga K "StreamHandler") "emit" (He.ma K (He.ga K "StreamHandler") "emit")
  m_StreamHandler_formatted : Meth K (He.ga K "StreamHandler") "formatted" (He.ma K (He.ga K "StreamHandler") "formatted")
  m_StreamHandler_text_of : Meth K (He.ga K "StreamHandler") "text_of" (He.ma K (He.ga K "StreamHandler") "text_of")
  m_MemoryHandler_addFilter : Meth K (He.ga K "MemoryHandler") "addFilter" (He.ma K (He.ga K "MemoryHandler") "addFilter")
  m_MemoryHandler_filtered : Meth K (He.ga K "MemoryHandler") "filtered" (He.ma K (He.ga K "MemoryHandler") "filtered")
  m_MemoryHandler_handle : Meth K (He.ga K "MemoryHandler") "handle" (He.ma K (He.ga K "MemoryHandler") "handle")
  m_MemoryHandler_emit : Meth K (He.ga K "MemoryHandler") "emit" (He.ma K (He.ga K "MemoryHandler") "emit")
  m_MemoryHandler_buffer : Meth K (He.ga K "MemoryHandler") "buffer" (He.ma K (He.ga K "MemoryHandler") "buffer")
  m_MemoryHandler_shouldFlush : Meth K (He.ga K "MemoryHandler") "shouldFlush" (He.ma K (He.ga K "MemoryHandler") "shouldFlush")
  m_MemoryHandler_flush : Meth K (He.ga K "MemoryHandler") "flush" (He.ma K (He.ga K "MemoryHandler") "flush")
  m_MemoryHandler_setLevel : Meth K (He.ga K "MemoryHandler") "setLevel" (He.ma K (He.ga K "MemoryHandler") "setLevel")
  m_Field_side_of : Meth K (He.ga K "Field") "side_of" (He.ma K (He.ga K "Field") "side_of")
  m_Field_written : Meth K (He.ga K "Field") "written" (He.ma K (He.ga K "Field") "written")
  m_Formatter_value_of : Meth K (He.ga K "Formatter") "value_of" (He.ma K (He.ga K "Formatter") "value_of")
  m_Formatter_formatted : Meth K (He.ga K "Formatter") "formatted" (He.ma K (He.ga K "Formatter") "formatted")
  m_Yard_text : Meth K (He.ga K "Yard") "text" (He.ma K (He.ga K "Yard") "text")
  m_Yard_streams : Meth K (He.ga K "Yard") "streams" (He.ma K (He.ga K "Yard") "streams")
  m_Yard_write_stream : Meth K (He.ga K "Yard") "write_stream" (He.ma K (He.ga K "Yard") "write_stream")
  m_Yard_level_name : Meth K (He.ga K "Yard") "level_name" (He.ma K (He.ga K "Yard") "level_name")
  m_Yard_level_of : Meth K (He.ga K "Yard") "level_of" (He.ma K (He.ga K "Yard") "level_of")
  m_Yard_make_record : Meth K (He.ga K "Yard") "make_record" (He.ma K (He.ga K "Yard") "make_record")
  m_Yard_enrol : Meth K (He.ga K "Yard") "enrol" (He.ma K (He.ga K "Yard") "enrol")
  m_Yard_keep_failure : Meth K (He.ga K "Yard") "keep_failure" (He.ma K (He.ga K "Yard") "keep_failure")
  m_Yard_failures : Meth K (He.ga K "Yard") "failures" (He.ma K (He.ga K "Yard") "failures")
  k_LogRecord : Mk K (He.ga K "LogRecord") (He.ma K (He.ga K "LogRecord") "__init__")
  k_Filter : Mk K (He.ga K "Filter") (He.ma K (He.ga K "Filter") "__init__")
  k_StreamHandler : Mk K (He.ga K "StreamHandler") (He.ma K (He.ga K "StreamHandler") "__init__")
  k_MemoryHandler : Mk K (He.ga K "MemoryHandler") (He.ma K (He.ga K "MemoryHandler") "__init__")
  k_Queue : Mk K (He.ga K "Queue") (He.ma K (He.ga K "Queue") "__init__")
  k_QueueListener : Mk K (He.ga K "QueueListener") (He.ma K (He.ga K "QueueListener") "__init__")
  k_Field : Mk K (He.ga K "Field") (He.ma K (He.ga K "Field") "__init__")
  k_Formatter : Mk K (He.ga K "Formatter") (He.ma K (He.ga K "Formatter") "__init__")
  k_Logger : Mk K (He.ga K "Logger") (He.ma K (He.ga K "Logger") "__init__")
  k_Yard : Mk K (He.ga K "Yard") (He.ma K (He.ga K "Yard") "__init__")
  x_BadMessage : RB.ExcF K (He.ga K "BadMessage") "msg"
  x_BadField : RB.ExcF K (He.ga K "BadField") "name"
  e_BadMessage_BadMessage : PySem.W.exmOne K (.ref (He.ga K "BadMessage")) (.ref (He.ga K "BadMessage")) = some true
  e_BadMessage_BadField : PySem.W.exmOne K (.ref (He.ga K "BadMessage")) (.ref (He.ga K "BadField")) = some false
  e_BadField_BadMessage : PySem.W.exmOne K (.ref (He.ga K "BadField")) (.ref (He.ga K "BadMessage")) = some false
  e_BadField_BadField : PySem.W.exmOne K (.ref (He.ga K "BadField")) (.ref (He.ga K "BadField")) = some true
  p_Logger : RA.PlainC K (He.ga K "Logger")
  p_StreamHandler : RA.PlainC K (He.ga K "StreamHandler")
  p_LogRecord : RA.PlainC K (He.ga K "LogRecord")
  p_Filter : RA.PlainC K (He.ga K "Filter")
  p_MemoryHandler : RA.PlainC K (He.ga K "MemoryHandler")
  sub_Logger_Logger : RA.PairC K (He.ga K "Logger") (He.ga K "Logger")
  sub_StreamHandler_StreamHandler : RA.PairC K (He.ga K "StreamHandler") (He.ga K "StreamHandler")
  sub_MemoryHandler_MemoryHandler : RA.PairC K (He.ga K "MemoryHandler") (He.ga K "MemoryHandler")
  sub_LogRecord_LogRecord : RA.PairC K (He.ga K "LogRecord") (He.ga K "LogRecord")
  sub_Filter_Filter : RA.PairC K (He.ga K "Filter") (He.ga K "Filter")
  cf_Filterer_init : RA.CFun K (He.ga K "Filterer") "__init__" (He.ma K (He.ga K "Filterer") "__init__")
  cf_Handler_init : RA.CFun K (He.ga K "Handler") "__init__" (He.ma K (He.ga K "Handler") "__init__")
  ty_Field : RB.TyC K (He.ga K "Field")
  ty_Filter : RB.TyC K (He.ga K "Filter")
  kit_Filter_Filter : PySem.W.kitOne K (.ref (He.ga K "Filter")) (.ref (He.ga K "Filter")) = some true
  kiy_Field_str : PySem.W.kitOne K (.ref (He.ga K "Field")) (.type "str") = some false
  dt_Yard_make_record_0 : ∀ H : Hp, SqT K H (He.dflAt ("Yard", some "make_record") 0 K) []
  d_Filterer_init : Stands K "__init__" "Filterer.__init__" s_Filterer_init [] (He.fAd K ("Filterer", some "__init__"))
  d_copied_value : Stands K "copied_value" "copied_value" s_copied_value [] (He.fAd K ("copied_value", none))
  d_message_of : Stands K "message_of" "message_of" s_message_of [] (He.fAd K ("message_of", none))
  d_BadMessage_init : Stands K "__init__" "BadMessage.__init__" s_BadMessage_init [] (He.fAd K ("BadMessage", some "__init__"))
  d_BadField_init : Stands K "__init__" "BadField.__init__" s_BadField_init [] (He.fAd K ("BadField", some "__init__"))
  d_LogRecord_init : Stands K "__init__" "LogRecord.__init__" s_LogRecord_init [] (He.fAd K ("LogRecord", some "__init__"))
  d_LogRecord_message : Stands K "message" "LogRecord.message" s_LogRecord_message [] (He.fAd K ("LogRecord", some "message"))
  d_LogRecord_field : Stands K "field" "LogRecord.field" s_LogRecord_field [] (He.fAd K ("LogRecord", some "field"))
  d_is_below : Stands K "is_below" "is_below" s_is_below [] (He.fAd K ("is_below", none))
  d_let_by : Stands K "let_by" "let_by" s_let_by [] (He.fAd K ("let_by", none))
  d_Filter_init : Stands K "__init__" "Filter.__init__" s_Filter_init [(He.Dv.str "" : He.Dv).v K] (He.fAd K ("Filter", some "__init__"))
  d_Filter_passes : Stands K "passes" "Filter.passes" s_Filter_passes [] (He.fAd K ("Filter", some "passes"))
  d_Handler_init : Stands K "__init__" "Handler.__init__" s_Handler_init [] (He.fAd K ("Handler", some "__init__"))
  d_StreamHandler_init : Stands K "__init__" "StreamHandler.__init__" s_StreamHandler_init [(He.Dv.str "stderr" : He.Dv).v K] (He.fAd K ("StreamHandler", some "__init__"))
  d_MemoryHandler_init : Stands K "__init__" "MemoryHandler.__init__" s_MemoryHandler_init [(He.Dv.int 40 : He.Dv).v K, (He.Dv.non : He.Dv).v K, (He.Dv.bl true : He.Dv).v K] (He.fAd K ("MemoryHandler", some "__init__"))
  d_Queue_init : Stands K "__init__" "Queue.__init__" s_Queue_init [] (He.fAd K ("Queue", some "__init__"))
  d_Queue___len__ : Stands K "__len__" "Queue.__len__" s_Queue___len__ [] (He.fAd K ("Queue", some "__len__"))
  d_Queue_put : Stands K "put" "Queue.put" s_Queue_put [] (He.fAd K ("Queue", some "put"))
  d_Queue_get : Stands K "get" "Queue.get" s_Queue_get [] (He.fAd K ("Queue", some "get"))
  d_QueueListener_init : Stands K "__init__" "QueueListener.__init__" s_QueueListener_init [(He.Dv.bl false : He.Dv).v K] (He.fAd K ("QueueListener", some "__init__"))
  d_QueueListener_lead : Stands K "lead" "QueueListener.lead" s_QueueListener_lead [] (He.fAd K ("QueueListener", some "lead"))
  d_QueueListener_run : Stands K "run" "QueueListener.run" s_QueueListener_run [(He.Dv.non : He.Dv).v K] (He.fAd K ("QueueListener", some "run"))
  d_StreamHandler_addFilter : Stands K "addFilter" "Filterer.addFilter" s_Filterer_addFilter [] (He.fAd K ("StreamHandler", some "addFilter"))
  d_StreamHandler_filtered : Stands K "filtered" "Filterer.filtered" s_Filterer_filtered [] (He.fAd K ("StreamHandler", some "filtered"))
  d_StreamHandler_setLevel : Stands K "setLevel" "Handler.setLevel" s_Handler_setLevel [] (He.fAd K ("StreamHandler", some "setLevel"))
  d_StreamHandler_setFormatter : Stands K "setFormatter" "Handler.setFormatter" s_Handler_setFormatter [] (He.fAd K ("StreamHandler", some "setFormatter"))
  d_StreamHandler_handle : Stands K "handle" "Handler.handle" s_Handler_handle [] (He.fAd K ("StreamHandler", some "handle"))
  d_StreamHandler_emit : Stands K "emit" "StreamHandler.emit" s_StreamHandler_emit [] (He.fAd K ("StreamHandler", some "emit"))
  d_StreamHandler_formatted : Stands K "formatted" "Handler.formatted" s_Handler_formatted [] (He.fAd K ("StreamHandler", some "formatted"))
  d_StreamHandler_text_of : Stands K "text_of" "Handler.text_of" s_Handler_text_of [] (He.fAd K ("StreamHandler", some "text_of"))
  d_MemoryHandler_addFilter : Stands K "addFilter" "Filterer.addFilter" s_Filterer_addFilter [] (He.fAd K ("MemoryHandler", some "addFilter"))
  d_MemoryHandler_filtered : Stands K "filtered" "Filterer.filtered" s_Filterer_filtered [] (He.fAd K ("MemoryHandler", some "filtered"))
  d_MemoryHandler_handle : Stands K "handle" "Handler.handle" s_Handler_handle [] (He.fAd K ("MemoryHandler", some "handle"))
  d_MemoryHandler_emit : Stands K "emit" "MemoryHandler.emit" s_MemoryHandler_emit [] (He.fAd K ("MemoryHandler", some "emit"))
  d_MemoryHandler_buffer : Stands K "buffer" "MemoryHandler.buffer" s_MemoryHandler_buffer [] (He.fAd K ("MemoryHandler", some "buffer"))
  d_MemoryHandler_shouldFlush : Stands K "shouldFlush" "MemoryHandler.shouldFlush" s_MemoryHandler_shouldFlush [] (He.fAd K ("MemoryHandler", some "shouldFlush"))
  d_MemoryHandler_flush : Stands K "flush" "MemoryHandler.flush" s_MemoryHandler_flush [] (He.fAd K ("MemoryHandler", some "flush"))
  d_MemoryHandler_setLevel : Stands K "setLevel" "Handler.setLevel" s_Handler_setLevel [] (He.fAd K ("MemoryHandler", some "setLevel"))
  d_is_integer : Stands K "is_integer" "is_integer" s_is_integer [] (He.fAd K ("is_integer", none))
  d_Field_init : Stands K "__init__" "Field.__init__" s_Field_init [(He.Dv.str "" : He.Dv).v K, (He.Dv.str " " : He.Dv).v K, (He.Dv.str "" : He.Dv).v K, (He.Dv.int 0 : He.Dv).v K] (He.fAd K ("Field", some "__init__"))
  d_Field_side_of : Stands K "side_of" "Field.side_of" s_Field_side_of [] (He.fAd K ("Field", some "side_of"))
  d_Field_written : Stands K "written" "Field.written" s_Field_written [] (He.fAd K ("Field", some "written"))
  d_name_end : Stands K "name_end" "name_end" s_name_end [] (He.fAd K ("name_end", none))
  d_field_of : Stands K "field_of" "field_of" s_field_of [] (He.fAd K ("field_of", none))
  d_parts_of_braces : Stands K "parts_of_braces" "parts_of_braces" s_parts_of_braces [] (He.fAd K ("parts_of_braces", none))
  d_joined_texts : Stands K "joined_texts" "joined_texts" s_joined_texts [] (He.fAd K ("joined_texts", none))
  d_Formatter_init : Stands K "__init__" "Formatter.__init__" s_Formatter_init [(He.Dv.non : He.Dv).v K, (He.Dv.str "{" : He.Dv).v K, (He.Dv.bl true : He.Dv).v K, (He.Dv.non : He.Dv).v K] (He.fAd K ("Formatter", some "__init__"))
  d_Formatter_value_of : Stands K "value_of" "Formatter.value_of" s_Formatter_value_of [] (He.fAd K ("Formatter", some "value_of"))
  d_Formatter_formatted : Stands K "formatted" "Formatter.formatted" s_Formatter_formatted [] (He.fAd K ("Formatter", some "formatted"))
  d_Logger_init : Stands K "__init__" "Logger.__init__" s_Logger_init [] (He.fAd K ("Logger", some "__init__"))
  d_Yard_init : Stands K "__init__" "Yard.__init__" s_Yard_init [(He.Dv.int 0 : He.Dv).v K] (He.fAd K ("Yard", some "__init__"))
  d_Yard_text : Stands K "text" "Yard.text" s_Yard_text [] (He.fAd K ("Yard", some "text"))
  d_Yard_streams : Stands K "streams" "Yard.streams" s_Yard_streams [] (He.fAd K ("Yard", some "streams"))
  d_Yard_write_stream : Stands K "write_stream" "Yard.write_stream" s_Yard_write_stream [] (He.fAd K ("Yard", some "write_stream"))
  d_Yard_level_name : Stands K "level_name" "Yard.level_name" s_Yard_level_name [] (He.fAd K ("Yard", some "level_name"))
  d_Yard_level_of : Stands K "level_of" "Yard.level_of" s_Yard_level_of [] (He.fAd K ("Yard", some "level_of"))
  d_Yard_make_record : Stands K "make_record" "Yard.make_record" s_Yard_make_record [(He.Dv.adr (He.dflAt ("Yard", some "make_record") 0) : He.Dv).v K, (He.Dv.non : He.Dv).v K] (He.fAd K ("Yard", some "make_record"))
  d_Yard_enrol : Stands K "enrol" "Yard.enrol" s_Yard_enrol [] (He.fAd K ("Yard", some "enrol"))
  d_Yard_keep_failure : Stands K "keep_failure" "Yard.keep_failure" s_Yard_keep_failure [] (He.fAd K ("Yard", some "keep_failure"))
  d_Yard_failures : Stands K "failures" "Yard.failures" s_Yard_failures [] (He.fAd K ("Yard", some "failures"))
  d__law_draw : Stands K "_law_draw" "_law_draw" s__law_draw [] (He.fAd K ("_law_draw", none))
  d__law_pick : Stands K "_law_pick" "_law_pick" s__law_pick [] (He.fAd K ("_law_pick", none))
  d__law_same : Stands K "_law_same" "_law_same" s__law_same [] (He.fAd K ("_law_same", none))
  d__law_record : Stands K "_law_record" "_law_record" s__law_record [] (He.fAd K ("_law_record", none))
  d__law_writer : Stands K "_law_writer" "_law_writer" s__law_writer [] (He.fAd K ("_law_writer", none))
  d__law_memory : Stands K "_law_memory" "_law_memory" s__law_memory [] (He.fAd K ("_law_memory", none))
  d__law_let_by : Stands K "_law_let_by" "_law_let_by" s__law_let_by [] (He.fAd K ("_law_let_by", none))
  d__law_shaped : Stands K "_law_shaped" "_law_shaped" s__law_shaped [] (He.fAd K ("_law_shaped", none))
  d__law_written : Stands K "_law_written" "_law_written" s__law_written [] (He.fAd K ("_law_written", none))
  d__law_handled : Stands K "_law_handled" "_law_handled" s__law_handled [] (He.fAd K ("_law_handled", none))
  d__law_flushed : Stands K "_law_flushed" "_law_flushed" s__law_flushed [] (He.fAd K ("_law_flushed", none))
  d__law_stands : Stands K "_law_stands" "_law_stands" s__law_stands [] (He.fAd K ("_law_stands", none))
  d_law : Stands K "law" "law" s_law [] (He.fAd K ("law", none))
  t_FIRST_NAMES : RB.KD P w K (He.ga K "FIRST_NAMES") (kv_FIRST_NAMES.map fun q => (q.1, q.2.v K))
  t_FIRST_NUMBERS : RB.KD P w K (He.ga K "FIRST_NUMBERS") (kv_FIRST_NUMBERS.map fun q => (q.1, q.2.v K))
  t_MESSAGE_ALONE : RB.KD P w K (He.ga K "MESSAGE_ALONE") (kv_MESSAGE_ALONE.map fun q => (q.1, q.2.v K))
theorem Txt.of {P : Program} {w : World} {K : PySem.W.Frag} {h : Heap} {mg : Str → Option Value} (X : K.In h) (G : h.Ns mainGlobals mg) (c : RB.SaysB fa fx fn ts w K) : Txt P w K mg where
    g_BadMessage := He.glo_ok X G (c.fact 0 (f := .glo "BadMessage") (by rfl))
    g_BadField := He.glo_ok X G (c.fact 1 (f := .glo "BadField") (by rfl))
    g_LogRecord := He.glo_ok X G (c.fact 2 (f := .glo "LogRecord") (by rfl))
    g_Filter := He.glo_ok X G (c.fact 3 (f := .glo "Filter") (by rfl))
    g_Filterer := He.glo_ok X G (c.fact 4 (f := .glo "Filterer") (by rfl))
    g_Handler := He.glo_ok X G (c.fact 5 (f := .glo "Handler") (by rfl))
    g_StreamHandler := He.glo_ok X G (c.fact 6 (f := .glo "StreamHandler") (by rfl))
    g_MemoryHandler := He.glo_ok X G (c.fact 7 (f := .glo "MemoryHandler") (by rfl))
    g_Queue := He.glo_ok X G (c.fact 8 (f := .glo "Queue") (by rfl))
    g_QueueListener := He.glo_ok X G (c.fact 9 (f := .glo "QueueListener") (by rfl))
    g_Field := He.glo_ok X G (c.fact 10 (f := .glo "Field") (by rfl))
    g_Formatter := He.glo_ok X G (c.fact 11 (f := .glo "Formatter") (by rfl))
    g_Logger := He.glo_ok X G (c.fact 12 (f := .glo "Logger") (by rfl))
    g_Yard := He.glo_ok X G (c.fact 13 (f := .glo "Yard") (by rfl))
    g_copied_value := He.glo_ok X G (c.fact 14 (f := .glo "copied_value") (by rfl))
    g_message_of := He.glo_ok X G (c.fact 15 (f := .glo "message_of") (by rfl))
    g_is_below := He.glo_ok X G (c.fact 16 (f := .glo "is_below") (by rfl))
    g_let_by := He.glo_ok X G (c.fact 17 (f := .glo "let_by") (by rfl))
    g_is_integer := He.glo_ok X G (c.fact 18 (f := .glo "is_integer") (by rfl))
    g_name_end := He.glo_ok X G (c.fact 19 (f := .glo "name_end") (by rfl))
    g_field_of := He.glo_ok X G (c.fact 20 (f := .glo "field_of") (by rfl))
    g_parts_of_braces := He.glo_ok X G (c.fact 21 (f := .glo "parts_of_braces") (by rfl))
    g_joined_texts := He.glo_ok X G (c.fact 22 (f := .glo "joined_texts") (by rfl))
    g__law_draw := He.glo_ok X G (c.fact 23 (f := .glo "_law_draw") (by rfl))
    g__law_pick := He.glo_ok X G (c.fact 24 (f := .glo "_law_pick") (by rfl))
    g__law_same := He.glo_ok X G (c.fact 25 (f := .glo "_law_same") (by rfl))
    g__law_record := He.glo_ok X G (c.fact 26 (f := .glo "_law_record") (by rfl))
    g__law_writer := He.glo_ok X G (c.fact 27 (f := .glo "_law_writer") (by rfl))
    g__law_memory := He.glo_ok X G (c.fact 28 (f := .glo "_law_memory") (by rfl))
    g__law_let_by := He.glo_ok X G (c.fact 29 (f := .glo "_law_let_by") (by rfl))
    g__law_shaped := He.glo_ok X G (c.fact 30 (f := .glo "_law_shaped") (by rfl))
    g__law_written := He.glo_ok X G (c.fact 31 (f := .glo "_law_written") (by rfl))
    g__law_handled := He.glo_ok X G (c.fact 32 (f := .glo "_law_handled") (by rfl))
    g__law_flushed := He.glo_ok X G (c.fact 33 (f := .glo "_law_flushed") (by rfl))
    g__law_stands := He.glo_ok X G (c.fact 34 (f := .glo "_law_stands") (by rfl))
    g_law := He.glo_ok X G (c.fact 35 (f := .glo "law") (by rfl))
    g_WARNING := He.int_ok X G (c.fact 36 (f := .int "WARNING" 30) (by rfl))
    g_NOTSET := He.int_ok X G (c.fact 37 (f := .int "NOTSET" 0) (by rfl))
    g_OWN_FIELDS := He.glo_ok X G (c.fact 38 (f := .glo "OWN_FIELDS") (by rfl))
    g_FIRST_NAMES := He.glo_ok X G (c.fact 39 (f := .glo "FIRST_NAMES") (by rfl))
    g_FIRST_NUMBERS := He.glo_ok X G (c.fact 40 (f := .glo "FIRST_NUMBERS") (by rfl))
    g_LETTERS := He.str_ok X G (c.fact 41 (f := .str "LETTERS" "abcdefghijklmnopqrstuvwxyzABCDEFGHIJKLMNOPQRSTUVWXYZ_") (by rfl))
    g_DIGITS := He.str_ok X G (c.fact 42 (f := .str "DIGITS" "0123456789") (by rfl))
    g_MESSAGE_ALONE := He.glo_ok X G (c.fact 43 (f := .glo "MESSAGE_ALONE") (by rfl))
    b_len := He.free_ok X G (c.fact 44 (f := .free "len") (by rfl))
    b_isinstance := He.free_ok X G (c.fact 45 (f := .free "isinstance") (by rfl))
    b_int := He.free_ok X G (c.fact 46 (f := .free "int") (by rfl))
    b_str := He.free_ok X G (c.fact 47 (f := .free "str") (by rfl))
    b_list := He.free_ok X G (c.fact 48 (f := .free "list") (by rfl))
    b_tuple := He.free_ok X G (c.fact 49 (f := .free "tuple") (by rfl))
    b_bool := He.free_ok X G (c.fact 50 (f := .free "bool") (by rfl))
    b_dict := He.free_ok X G (c.fact 51 (f := .free "dict") (by rfl))
    b_range := He.free_ok X G (c.fact 52 (f := .free "range") (by rfl))
    b_sorted := He.free_ok X G (c.fact 53 (f := .free "sorted") (by rfl))
    b_all := He.free_ok X G (c.fact 54 (f := .free "all") (by rfl))
    b_any := He.free_ok X G (c.fact 55 (f := .free "any") (by rfl))
    b_zip := He.free_ok X G (c.fact 56 (f := .free "zip") (by rfl))
    b_max := He.free_ok X G (c.fact 57 (f := .free "max") (by rfl))
    b_min := He.free_ok X G (c.fact 58 (f := .free "min") (by rfl))
    c_LogRecord := He.cls_ok (c.fact 59 (f := .cls "LogRecord") (by rfl))
    n_LogRecord_name := He.noat_ok (c.fact 60 (f := .noat "LogRecord" "name") (by rfl))
    n_LogRecord_levelno := He.noat_ok (c.fact 61 (f := .noat "LogRecord" "levelno") (by rfl))
    n_LogRecord_levelname := He.noat_ok (c.fact 62 (f := .noat "LogRecord" "levelname") (by rfl))
    n_LogRecord_msg := He.noat_ok (c.fact 63 (f := .noat "LogRecord" "msg") (by rfl))
    n_LogRecord_given := He.noat_ok (c.fact 64 (f := .noat "LogRecord" "given") (by rfl))
    n_LogRecord_created := He.noat_ok (c.fact 65 (f := .noat "LogRecord" "created") (by rfl))
    n_LogRecord_extra := He.noat_ok (c.fact 66 (f := .noat "LogRecord" "extra") (by rfl))
    c_Filter := He.cls_ok (c.fact 67 (f := .cls "Filter") (by rfl))
    n_Filter_name := He.noat_ok (c.fact 68 (f := .noat "Filter" "name") (by rfl))
    c_StreamHandler := He.cls_ok (c.fact 69 (f := .cls "StreamHandler") (by rfl))
    n_StreamHandler_filters := He.noat_ok (c.fact 70 (f := .noat "StreamHandler" "filters") (by rfl))
    n_StreamHandler_yard := He.noat_ok (c.fact 71 (f := .noat "StreamHandler" "yard") (by rfl))
    n_StreamHandler_level := He.noat_ok (c.fact 72 (f := .noat "StreamHandler" "level") (by rfl))
    n_StreamHandler_formatter := He.noat_ok (c.fact 73 (f := .noat "StreamHandler" "formatter") (by rfl))
    n_StreamHandler_name := He.noat_ok (c.fact 74 (f := .noat "StreamHandler" "name") (by rfl))
    n_StreamHandler_terminator := He.noat_ok (c.fact 75 (f := .noat "StreamHandler" "terminator") (by rfl))
    n_StreamHandler_closed := He.noat_ok (c.fact 76 (f := .noat "StreamHandler" "closed") (by rfl))
    n_StreamHandler_stream := He.noat_ok (c.fact 77 (f := .noat "StreamHandler" "stream") (by rfl))
    c_MemoryHandler := He.cls_ok (c.fact 78 (f := .cls "MemoryHandler") (by rfl))
    n_MemoryHandler_filters := He.noat_ok (c.fact 79 (f := .noat "MemoryHandler" "filters") (by rfl))
    n_MemoryHandler_yard := He.noat_ok (c.fact 80 (f := .noat "MemoryHandler" "yard") (by rfl))
    n_MemoryHandler_level := He.noat_ok (c.fact 81 (f := .noat "MemoryHandler" "level") (by rfl))
    n_MemoryHandler_formatter := He.noat_ok (c.fact 82 (f := .noat "MemoryHandler" "formatter") (by rfl))
    n_MemoryHandler_name := He.noat_ok (c.fact 83 (f := .noat "MemoryHandler" "name") (by rfl))
    n_MemoryHandler_terminator := He.noat_ok (c.fact 84 (f := .noat "MemoryHandler" "terminator") (by rfl))
    n_MemoryHandler_closed := He.noat_ok (c.fact 85 (f := .noat "MemoryHandler" "closed") (by rfl))
    n_MemoryHandler_capacity := He.noat_ok (c.fact 86 (f := .noat "MemoryHandler" "capacity") (by rfl))
    n_MemoryHandler_flush_level := He.noat_ok (c.fact 87 (f := .noat "MemoryHandler" "flush_level") (by rfl))
    n_MemoryHandler_target := He.noat_ok (c.fact 88 (f := .noat "MemoryHandler" "target") (by rfl))
    n_MemoryHandler_flush_on_close := He.noat_ok (c.fact 89 (f := .noat "MemoryHandler" "flush_on_close") (by rfl))
    n_MemoryHandler_kept := He.noat_ok (c.fact 90 (f := .noat "MemoryHandler" "kept") (by rfl))
    c_Queue := He.cls_ok (c.fact 91 (f := .cls "Queue") (by rfl))
    n_Queue_waiting := He.noat_ok (c.fact 92 (f := .noat "Queue" "waiting") (by rfl))
    c_QueueListener := He.cls_ok (c.fact 93 (f := .cls "QueueListener") (by rfl))
    n_QueueListener_queue := He.noat_ok (c.fact 94 (f := .noat "QueueListener" "queue") (by rfl))
    n_QueueListener_handler_list := He.noat_ok (c.fact 95 (f := .noat "QueueListener" "handler_list") (by rfl))
    n_QueueListener_respects := He.noat_ok (c.fact 96 (f := .noat "QueueListener" "respects") (by rfl))
    c_Field := He.cls_ok (c.fact 97 (f := .cls "Field") (by rfl))
    n_Field_name := He.noat_ok (c.fact 98 (f := .noat "Field" "name") (by rfl))
    n_Field_conversion := He.noat_ok (c.fact 99 (f := .noat "Field" "conversion") (by rfl))
    n_Field_fill := He.noat_ok (c.fact 100 (f := .noat "Field" "fill") (by rfl))
    n_Field_align := He.noat_ok (c.fact 101 (f := .noat "Field" "align") (by rfl))
    n_Field_width := He.noat_ok (c.fact 102 (f := .noat "Field" "width") (by rfl))
    c_Formatter := He.cls_ok (c.fact 103 (f := .cls "Formatter") (by rfl))
    n_Formatter_fmt := He.noat_ok (c.fact 104 (f := .noat "Formatter" "fmt") (by rfl))
    n_Formatter_style := He.noat_ok (c.fact 105 (f := .noat "Formatter" "style") (by rfl))
    n_Formatter_parts := He.noat_ok (c.fact 106 (f := .noat "Formatter" "parts") (by rfl))
    n_Formatter_defaults := He.noat_ok (c.fact 107 (f := .noat "Formatter" "defaults") (by rfl))
    c_Logger := He.cls_ok (c.fact 108 (f := .cls "Logger") (by rfl))
    n_Logger_filters := He.noat_ok (c.fact 109 (f := .noat "Logger" "filters") (by rfl))
    n_Logger_yard := He.noat_ok (c.fact 110 (f := .noat "Logger" "yard") (by rfl))
    n_Logger_name := He.noat_ok (c.fact 111 (f := .noat "Logger" "name") (by rfl))
    n_Logger_level := He.noat_ok (c.fact 112 (f := .noat "Logger" "level") (by rfl))
    n_Logger_propagate := He.noat_ok (c.fact 113 (f := .noat "Logger" "propagate") (by rfl))
    n_Logger_disabled := He.noat_ok (c.fact 114 (f := .noat "Logger" "disabled") (by rfl))
    n_Logger_handlers := He.noat_ok (c.fact 115 (f := .noat "Logger" "handlers") (by rfl))
    n_Logger_parent := He.noat_ok (c.fact 116 (f := .noat "Logger" "parent") (by rfl))
    c_Yard := He.cls_ok (c.fact 117 (f := .cls "Yard") (by rfl))
    n_Yard_clock := He.noat_ok (c.fact 118 (f := .noat "Yard" "clock") (by rfl))
    n_Yard_stream_texts := He.noat_ok (c.fact 119 (f := .noat "Yard" "stream_texts") (by rfl))
    n_Yard_file_rows := He.noat_ok (c.fact 120 (f := .noat "Yard" "file_rows") (by rfl))
    n_Yard_names_of := He.noat_ok (c.fact 121 (f := .noat "Yard" "names_of") (by rfl))
    n_Yard_numbers_of := He.noat_ok (c.fact 122 (f := .noat "Yard" "numbers_of") (by rfl))
    n_Yard_bar_level := He.noat_ok (c.fact 123 (f := .noat "Yard" "bar_level") (by rfl))
    n_Yard_logger_map := He.noat_ok (c.fact 124 (f := .noat "Yard" "logger_map") (by rfl))
    n_Yard_made := He.noat_ok (c.fact 125 (f := .noat "Yard" "made") (by rfl))
    n_Yard_handler_names := He.noat_ok (c.fact 126 (f := .noat "Yard" "handler_names") (by rfl))
    n_Yard_failure_rows := He.noat_ok (c.fact 127 (f := .noat "Yard" "failure_rows") (by rfl))
    n_Yard_root := He.noat_ok (c.fact 128 (f := .noat "Yard" "root") (by rfl))
    n_Yard_last_resort := He.noat_ok (c.fact 129 (f := .noat "Yard" "last_resort") (by rfl))
    m_LogRecord_message := He.meth_ok (c.fact 130 (f := .meth "LogRecord" "message") (by rfl))
    m_LogRecord_field := He.meth_ok (c.fact 131 (f := .meth "LogRecord" "field") (by rfl))
    m_Filter_passes := He.meth_ok (c.fact 132 (f := .meth "Filter" "passes") (by rfl))
    m_Queue___len__ := He.meth_ok (c.fact 133 (f := .meth "Queue" "__len__") (by rfl))
    m_Queue_put := He.meth_ok (c.fact 134 (f := .meth "Queue" "put") (by rfl))
    m_Queue_get := He.meth_ok (c.fact 135 (f := .meth "Queue" "get") (by rfl))
    m_QueueListener_lead := He.meth_ok (c.fact 136 (f := .meth "QueueListener" "lead") (by rfl))
    m_QueueListener_run := He.meth_ok (c.fact 137 (f := .meth "QueueListener" "run") (by rfl))
    m_StreamHandler_addFilter := He.meth_ok (c.fact 138 (f := .meth "StreamHandler" "addFilter") (by rfl))
    m_StreamHandler_filtered := He.meth_ok (c.fact 139 (f := .meth "StreamHandler" "filtered") (by rfl))
    m_StreamHandler_setLevel := He.meth_ok (c.fact 140 (f := .meth "StreamHandler" "setLevel") (by rfl))
    m_StreamHandler_setFormatter := He.meth_ok (c.fact 141 (f := .meth "StreamHandler" "setFormatter") (by rfl))
    m_StreamHandler_handle := He.meth_ok (c.fact 142 (f := .meth "StreamHandler" "handle") (by rfl))
    m_StreamHandler_emit := He.meth_ok (c.fact 143 (f := .meth "StreamHandler" "emit") (by rfl))
    m_StreamHandler_formatted := He.meth_ok (c.fact 144 (f := .meth "StreamHandler" "formatted") (by rfl))
    m_StreamHandler_text_of := He.meth_ok (c.fact 145 (f := .meth "StreamHandler" "text_of") (by rfl))
    m_MemoryHandler_addFilter := He.meth_ok (c.fact 146 (f := .meth "MemoryHandler" "addFilter") (by rfl))
    m_MemoryHandler_filtered := He.meth_ok (c.fact 147 (f := .meth "MemoryHandler" "filtered") (by rfl))
    m_MemoryHandler_handle := He.meth_ok (c.fact 148 (f := .meth "MemoryHandler" "handle") (by rfl))
    m_MemoryHandler_emit := He.meth_ok (c.fact 149 (f := .meth "MemoryHandler" "emit") (by rfl))
    m_MemoryHandler_buffer := He.meth_ok (c.fact 150 (f := .meth "MemoryHandler" "buffer") (by rfl))
    m_MemoryHandler_shouldFlush := He.meth_ok (c.fact 151 (f := .meth "MemoryHandler" "shouldFlush") (by rfl))
    m_MemoryHandler_flush := He.meth_ok (c.fact 152 (f := .meth "MemoryHandler" "flush") (by rfl))
    m_MemoryHandler_setLevel := He.meth_ok (c.fact 153 (f := .meth "MemoryHandler" "setLevel") (by rfl))
    m_Field_side_of := He.meth_ok (c.fact 154 (f := .meth "Field" "side_of") (by rfl))
    m_Field_written := He.meth_ok (c.fact 155 (f := .meth "Field" "written") (by rfl))
    m_Formatter_value_of := He.meth_ok (c.fact 156 (f := .meth "Formatter" "value_of") (by rfl))
    m_Formatter_formatted := He.meth_ok (c.fact 157 (f := .meth "Formatter" "formatted") (by rfl))
    m_Yard_text := He.meth_ok (c.fact 158 (f := .meth "Yard" "text") (by rfl))
    m_Yard_streams := He.meth_ok (c.fact 159 (f := .meth "Yard" "streams") (by rfl))
    m_Yard_write_stream := He.meth_ok (c.fact 160 (f := .meth "Yard" "write_stream") (by rfl))
    m_Yard_level_name := He.meth_ok (c.fact 161 (f := .meth "Yard" "level_name") (by rfl))
    m_Yard_level_of := He.meth_ok (c.fact 162 (f := .meth "Yard" "level_of") (by rfl))
    m_Yard_make_record := He.meth_ok (c.fact 163 (f := .meth "Yard" "make_record") (by rfl))
    m_Yard_enrol := He.meth_ok (c.fact 164 (f := .meth "Yard" "enrol") (by rfl))
    m_Yard_keep_failure := He.meth_ok (c.fact 165 (f := .meth "Yard" "keep_failure") (by rfl))
    m_Yard_failures := He.meth_ok (c.fact 166 (f := .meth "Yard" "failures") (by rfl))
    k_LogRecord := He.mkr_ok (c.fact 167 (f := .mkr "LogRecord") (by rfl))
    k_Filter := He.mkr_ok (c.fact 168 (f := .mkr "Filter") (by rfl))
    k_StreamHandler := He.mkr_ok (c.fact 169 (f := .mkr "StreamHandler") (by rfl))
    k_MemoryHandler := He.mkr_ok (c.fact 170 (f := .mkr "MemoryHandler") (by rfl))
    k_Queue := He.mkr_ok (c.fact 171 (f := .mkr "Queue") (by rfl))
    k_QueueListener := He.mkr_ok (c.fact 172 (f := .mkr "QueueListener") (by rfl))
    k_Field := He.mkr_ok (c.fact 173 (f := .mkr "Field") (by rfl))
    k_Formatter := He.mkr_ok (c.fact 174 (f := .mkr "Formatter") (by rfl))
    k_Logger := He.mkr_ok (c.fact 175 (f := .mkr "Logger") (by rfl))
    k_Yard := He.mkr_ok (c.fact 176 (f := .mkr "Yard") (by rfl))
    x_BadMessage := RB.exc_ok (c.more 0 (f := .exc "BadMessage" "msg") (by rfl))
    x_BadField := RB.exc_ok (c.more 1 (f := .exc "BadField" "name") (by rfl))
    e_BadMessage_BadMessage := RB.exm_ok (c.more 2 (f := .exm "BadMessage" "BadMessage" true) (by rfl))
    e_BadMessage_BadField := RB.exm_ok (c.more 3 (f := .exm "BadMessage" "BadField" false) (by rfl))
    e_BadField_BadMessage := RB.exm_ok (c.more 4 (f := .exm "BadField" "BadMessage" false) (by rfl))
    e_BadField_BadField := RB.exm_ok (c.more 5 (f := .exm "BadField" "BadField" true) (by rfl))
    p_Logger := RB.pl_ok (c.more 6 (f := .pl "Logger") (by rfl))
    p_StreamHandler := RB.pl_ok (c.more 7 (f := .pl "StreamHandler") (by rfl))
    p_LogRecord := RB.pl_ok (c.more 8 (f := .pl "LogRecord") (by rfl))
    p_Filter := RB.pl_ok (c.more 9 (f := .pl "Filter") (by rfl))
    p_MemoryHandler := RB.pl_ok (c.more 10 (f := .pl "MemoryHandler") (by rfl))
    sub_Logger_Logger := RB.sub_ok (c.more 11 (f := .sub "Logger" "Logger") (by rfl))
    sub_StreamHandler_StreamHandler := RB.sub_ok (c.more 12 (f := .sub "StreamHandler" "StreamHandler") (by rfl))
    sub_MemoryHandler_MemoryHandler := RB.sub_ok (c.more 13 (f := .sub "MemoryHandler" "MemoryHandler") (by rfl))
    sub_LogRecord_LogRecord := RB.sub_ok (c.more 14 (f := .sub "LogRecord" "LogRecord") (by rfl))
    sub_Filter_Filter := RB.sub_ok (c.more 15 (f := .sub "Filter" "Filter") (by rfl))
    cf_Filterer_init := RB.cf_ok (c.more 16 (f := .cf "Filterer" "__init__") (by rfl))
    cf_Handler_init := RB.cf_ok (c.more 17 (f := .cf "Handler" "__init__") (by rfl))
    ty_Field := RB.ty_ok (c.more 18 (f := .ty "Field") (by rfl))
    ty_Filter := RB.ty_ok (c.more 19 (f := .ty "Filter") (by rfl))
    kit_Filter_Filter := RB.kit_ok (c.more 20 (f := .kit "Filter" "Filter" true) (by rfl))
    kiy_Field_str := RB.kiy_ok (c.more 21 (f := .kiy "Field" "str" false) (by rfl))
    dt_Yard_make_record_0 := RB.dtup_ok (c.more 22 (f := .dtup ("Yard", some "make_record") 0) (by rfl))
    d_Filterer_init := c.d.def_ 0 (d := dd_Filterer_init) (by rfl)
    d_copied_value := c.d.def_ 1 (d := dd_copied_value) (by rfl)
    d_message_of := c.d.def_ 2 (d := dd_message_of) (by rfl)
    d_BadMessage_init := c.d.def_ 3 (d := dd_BadMessage_init) (by rfl)
    d_BadField_init := c.d.def_ 4 (d := dd_BadField_init) (by rfl)
    d_LogRecord_init := c.d.def_ 5 (d := dd_LogRecord_init) (by rfl)
    d_LogRecord_message := c.d.def_ 6 (d := dd_LogRecord_message) (by rfl)
    d_LogRecord_field := c.d.def_ 7 (d := dd_LogRecord_field) (by rfl)
    d_is_below := c.d.def_ 8 (d := dd_is_below) (by rfl)
    d_let_by := c.d.def_ 9 (d := dd_let_by) (by rfl)
    d_Filter_init := c.d.def_ 10 (d := dd_Filter_init) (by rfl)
    d_Filter_passes := c.d.def_ 11 (d := dd_Filter_passes) (by rfl)
    d_Handler_init := c.d.def_ 12 (d := dd_Handler_init) (by rfl)
    d_StreamHandler_init := c.d.def_ 13 (d := dd_StreamHandler_init) (by rfl)
    d_MemoryHandler_init := c.d.def_ 14 (d := dd_MemoryHandler_init) (by rfl)
    d_Queue_init := c.d.def_ 15 (d := dd_Queue_init) (by rfl)
    d_Queue___len__ := c.d.def_ 16 (d := dd_Queue___len__) (by rfl)
    d_Queue_put := c.d.def_ 17 (d := dd_Queue_put) (by rfl)
    d_Queue_get := c.d.def_ 18 (d := dd_Queue_get) (by rfl)
    d_QueueListener_init := c.d.def_ 19 (d := dd_QueueListener_init) (by rfl)
    d_QueueListener_lead := c.d.def_ 20 (d := dd_QueueListener_lead) (by rfl)
    d_QueueListener_run := c.d.def_ 21 (d := dd_QueueListener_run) (by rfl)
    d_StreamHandler_addFilter := c.d.def_ 22 (d := dd_StreamHandler_addFilter) (by rfl)
    d_StreamHandler_filtered := c.d.def_ 23 (d := dd_StreamHandler_filtered) (by rfl)
    d_StreamHandler_setLevel := c.d.def_ 24 (d := dd_StreamHandler_setLevel) (by rfl)
    d_StreamHandler_setFormatter := c.d.def_ 25 (d := dd_StreamHandler_setFormatter) (by rfl)
    d_StreamHandler_handle := c.d.def_ 26 (d := dd_StreamHandler_handle) (by rfl)
    d_StreamHandler_emit := c.d.def_ 27 (d := dd_StreamHandler_emit) (by rfl)
    d_StreamHandler_formatted := c.d.def_ 28 (d := dd_StreamHandler_formatted) (by rfl)
    d_StreamHandler_text_of := c.d.def_ 29 (d := dd_StreamHandler_text_of) (by rfl)
    d_MemoryHandler_addFilter := c.d.def_ 30 (d := dd_MemoryHandler_addFilter) (by rfl)
    d_MemoryHandler_filtered := c.d.def_ 31 (d := dd_MemoryHandler_filtered) (by rfl)
    d_MemoryHandler_handle := c.d.def_ 32 (d := dd_MemoryHandler_handle) (by rfl)
    d_MemoryHandler_emit := c.d.def_ 33 (d := dd_MemoryHandler_emit) (by rfl)
    d_MemoryHandler_buffer := c.d.def_ 34 (d := dd_MemoryHandler_buffer) (by rfl)
    d_MemoryHandler_shouldFlush := c.d.def_ 35 (d := dd_MemoryHandler_shouldFlush) (by rfl)
    d_MemoryHandler_flush := c.d.def_ 36 (d := dd_MemoryHandler_flush) (by rfl)
    d_MemoryHandler_setLevel := c.d.def_ 37 (d := dd_MemoryHandler_setLevel) (by rfl)
    d_is_integer := c.d.def_ 38 (d := dd_is_integer) (by rfl)
    d_Field_init := c.d.def_ 39 (d := dd_Field_init) (by rfl)
    d_Field_side_of := c.d.def_ 40 (d := dd_Field_side_of) (by rfl)
    d_Field_written := c.d.def_ 41 (d := dd_Field_written) (by rfl)
    d_name_end := c.d.def_ 42 (d := dd_name_end) (by rfl)
    d_field_of := c.d.def_ 43 (d := dd_field_of) (by rfl)
    d_parts_of_braces := c.d.def_ 44 (d := dd_parts_of_braces) (by rfl)
    d_joined_texts := c.d.def_ 45 (d := dd_joined_texts) (by rfl)
    d_Formatter_init := c.d.def_ 46 (d := dd_Formatter_init) (by rfl)
    d_Formatter_value_of := c.d.def_ 47 (d := dd_Formatter_value_of) (by rfl)
    d_Formatter_formatted := c.d.def_ 48 (d := dd_Formatter_formatted) (by rfl)
    d_Logger_init := c.d.def_ 49 (d := dd_Logger_init) (by rfl)
    d_Yard_init := c.d.def_ 50 (d := dd_Yard_init) (by rfl)
    d_Yard_text := c.d.def_ 51 (d := dd_Yard_text) (by rfl)
    d_Yard_streams := c.d.def_ 52 (d := dd_Yard_streams) (by rfl)
    d_Yard_write_stream := c.d.def_ 53 (d := dd_Yard_write_stream) (by rfl)
    d_Yard_level_name := c.d.def_ 54 (d := dd_Yard_level_name) (by rfl)
    d_Yard_level_of := c.d.def_ 55 (d := dd_Yard_level_of) (by rfl)
    d_Yard_make_record := c.d.def_ 56 (d := dd_Yard_make_record) (by rfl)
    d_Yard_enrol := c.d.def_ 57 (d := dd_Yard_enrol) (by rfl)
    d_Yard_keep_failure := c.d.def_ 58 (d := dd_Yard_keep_failure) (by rfl)
    d_Yard_failures := c.d.def_ 59 (d := dd_Yard_failures) (by rfl)
    d__law_draw := c.d.def_ 60 (d := dd__law_draw) (by rfl)
    d__law_pick := c.d.def_ 61 (d := dd__law_pick) (by rfl)
    d__law_same := c.d.def_ 62 (d := dd__law_same) (by rfl)
    d__law_record := c.d.def_ 63 (d := dd__law_record) (by rfl)
    d__law_writer := c.d.def_ 64 (d := dd__law_writer) (by rfl)
    d__law_memory := c.d.def_ 65 (d := dd__law_memory) (by rfl)
    d__law_let_by := c.d.def_ 66 (d := dd__law_let_by) (by rfl)
    d__law_shaped := c.d.def_ 67 (d := dd__law_shaped) (by rfl)
    d__law_written := c.d.def_ 68 (d := dd__law_written) (by rfl)
    d__law_handled := c.d.def_ 69 (d := dd__law_handled) (by rfl)
    d__law_flushed := c.d.def_ 70 (d := dd__law_flushed) (by rfl)
    d__law_stands := c.d.def_ 71 (d := dd__law_stands) (by rfl)
    d_law := c.d.def_ 72 (d := dd_law) (by rfl)
    t_FIRST_NAMES := c.tb 0 (t := ("FIRST_NAMES", kv_FIRST_NAMES)) (by rfl) P
    t_FIRST_NUMBERS := c.tb 1 (t := ("FIRST_NUMBERS", kv_FIRST_NUMBERS)) (by rfl) P
    t_MESSAGE_ALONE := c.tb 2 (t := ("MESSAGE_ALONE", kv_MESSAGE_ALONE)) (by rfl) P
end K17

set_option Elab.async false
set_option linter.all false
set_option maxRecDepth 100000
set_option maxHeartbeats 4000000
/-! The head's facts over the objects that the module's names reach, level by level. -/
namespace RHd
open PySem PySem.Spec PyProof.Rows L2 He RB
/-- what the objects at a level name -/
def lvl (g : Addr → Option Obj) : Nat → List Addr → List Addr
  | 0, as => as
  | n + 1, as => as ++ lvl g n (as.flatMap fun a => match g a with
    | some o => (refsD o).filter fun b => !Nat.beq b a
    | none => [])
def asL (g : Addr → Option Obj) (n : Nat) : List Addr := lvl g n [mainGlobals]
def obsLG (n : Nat) (fa : List Fa) (fx : List Fx) (fn : List DefD) (ts : List Tb) (g : Addr → Option Obj) : AlB := obsB fa fx fn ts (frG g (extraB g fx (asL g n)))
def hookL (n : Nat) (fa : List Fa) (fx : List Fx) (fn : List DefD) (ts : List Tb) : PySem.W.Hook where
  α := AlB
  obs := fun s => obsLG n fa fx fn ts s.heap.get?
  val := fun w => valB fn ts w
  says := fun w h => ∃ K : PySem.W.Frag, K.In h ∧ SaysB fa fx fn ts w K
  of := fun _ _ e => ⟨_, frG_in, e⟩
  keeps := fun _ _ _ ⟨K, hK, c⟩ k => ⟨K, PySem.W.Frag.In.keeps hK k, c⟩
theorem obsLG_eq {n : Nat} {fa : List Fa} {fx : List Fx} {fn : List DefD} {ts : List Tb} {g : Addr → Option Obj} {s : Shared} (h : ∀ a, g a = s.heap.get? a) : obsLG n fa fx fn ts g = (hookL n fa fx fn ts).obs s := by
  have e : g = s.heap.get? := funext h
  rw [e] <;> rfl
end RHd

set_option Elab.async false
set_option linter.all false
set_option maxRecDepth 100000
set_option maxHeartbeats 0
namespace K17
open PySem PySem.Spec PyProof.Rows L2 RC
/-! ### the head -/
abbrev R : PySem.W.OpenRow := PySem.W.OpenLaw.row PySem.Challenge.rw_recordyard_k53_listeners
abbrev hk : PySem.W.Hook := RHd.hookL 4 fa fx fn ts
def ob (s : PySem.W.SharedT) : RB.AlB := RHd.obsLG 4 fa fx fn ts (HandSHeadRun.getT s)
theorem ob_eq (s : PySem.W.SharedT) : ob s = hk.obs s.abs := RHd.obsLG_eq (HandSHeadRun.getT_eq s)
open HandSHeadRun PySem.W
abbrev AlR : Type := List (Option (List (Option (Key × Int)))) × Bool
noncomputable def fr (s : PySem.W.SharedT) : PySem.W.Frag := He.frG (HandSHeadRun.getT s) (RB.extraB (HandSHeadRun.getT s) fx (RHd.asL (HandSHeadRun.getT s) 4))
noncomputable def obD (s : PySem.W.SharedT) : He.AlD := He.obsD fa fn (fr s)
noncomputable def obR (s : PySem.W.SharedT) : AlR := (ts.map fun t => RB.tbRow (fr s) t.1, (fx.all fun f => f.ok (fr s)) && ts.all fun t => RB.tbVals (fr s) t)
noncomputable abbrev lk (w : World) (s : PySem.W.SharedT) : Bool := HandSHeadRun.looksF R.prog (boot_heap w.params) s.abs
noncomputable abbrev sn (s : PySem.W.SharedT) := HandSHeadRun.seenQ (PySem.W.view R.prog [83]) names (importedModules R.prog.main.body) (fun s => xlAt (PySem.W.view R.prog [83]) [] s && recOk R.toRowW.records s) s.abs
theorem join3 {S A B D C : Type} {o : Option S} {a : S → A} {b : S → B} {d : S → D} {r : S → C} {x : A} {y : B} {v : D} {z : C} (h1 : o.map (fun s => (a s, b s, r s)) = some (x, y, z)) (h2 : o.map d = some v) : o.map (fun s => (a s, b s, (d s, r s))) = some (x, y, (v, z)) := by
  cases o with
  | none => cases h1
  | some s =>
    have e1 := Option.some.inj h1
    have e2 := Option.some.inj h2
    injection e1 with p1 p2
    injection p2 with p2 p3
    show some (a s, b s, (d s, r s)) = _
    rw [p1, p2, p3, e2]
theorem r1_f (w : World) (os : OsState) : (HandSHeadRun.endF (HandSHeadRun.stepQ (HandSHeadRun.denQ tabQ) R.prog (w.withFollow "special-get-raises" false)) 15000 R.prog (w.withFollow "special-get-raises" false) os).map (fun s => (lk (w.withFollow "special-get-raises" false) s, sn s, obR s)) = some (true, openGood (PySem.W.view R.prog [83]) names, (ts.map fun t => RB.tbWant (w.withFollow "special-get-raises" false).params t.2, true)) := by
  kernel_rfl
theorem r2_f (w : World) (os : OsState) : (HandSHeadRun.endF (HandSHeadRun.stepQ (HandSHeadRun.denQ tabQ) R.prog (w.withFollow "special-get-raises" false)) 15000 R.prog (w.withFollow "special-get-raises" false) os).map obD = some (He.valD fn) := by
  kernel_rfl
theorem run_f (w : World) : HandSHeadRun.RunEq R (PySem.W.view R.prog [83]) hk ob 15000 names (w.withFollow "special-get-raises" false) := fun os => join3 (r1_f w os) (r2_f w os)
theorem r1_t (w : World) (os : OsState) : (HandSHeadRun.endF (HandSHeadRun.stepQ (HandSHeadRun.denQ tabQ) R.prog (w.withFollow "special-get-raises" true)) 15000 R.prog (w.withFollow "special-get-raises" true) os).map (fun s => (lk (w.withFollow "special-get-raises" true) s, sn s, obR s)) = some (true, openGood (PySem.W.view R.prog [83]) names, (ts.map fun t => RB.tbWant (w.withFollow "special-get-raises" true).params t.2, true)) := by
  kernel_rfl
theorem r2_t (w : World) (os : OsState) : (HandSHeadRun.endF (HandSHeadRun.stepQ (HandSHeadRun.denQ tabQ) R.prog (w.withFollow "special-get-raises" true)) 15000 R.prog (w.withFollow "special-get-raises" true) os).map obD = some (He.valD fn) := by
  kernel_rfl
theorem run_t (w : World) : HandSHeadRun.RunEq R (PySem.W.view R.prog [83]) hk ob 15000 names (w.withFollow "special-get-raises" true) := fun os => join3 (r1_t w os) (r2_t w os)
theorem run (w : World) : HandSHeadRun.RunEq R (PySem.W.view R.prog [83]) hk ob 15000 names w := PySem.W.byRow2 "special-get-raises" (P := fun w => HandSHeadRun.RunEq R (PySem.W.view R.prog [83]) hk ob 15000 names w) run_f run_t w
end K17

set_option Elab.async false
set_option linter.all false
set_option maxRecDepth 100000
set_option maxHeartbeats 4000000
/-! What changes: all but some places stay; what is apart from these places. -/
namespace RC
open PySem PySem.Spec PyProof.Rows L2
theorem yes_if {σ : L2.St} {H : Hp} {A B : Hp → Prop} (h : A H) : tYes σ H (fun b H3 => if b = true then A H3 else B H3) := by
  show if true = true then A H else B H
  rw [if_pos rfl]; exact h
theorem seq_of {a b : TS} {D : Ends} {σ : L2.St} {H : Hp} (Mid : L2.St → Hp → Prop) (hA : ∀ b' : TS, (∀ σ' H', Mid σ' H' → b' D σ' H') → tSeq a b' D σ H) (hB : ∀ σ' H', Mid σ' H' → b D σ' H') : tSeq a b D σ H := hA b hB
theorem free_same {H H' : Hp} {a : Addr} (s : Same H H') (h : H' a = none) : H a = none := by
  cases e : H a with
  | none => rfl
  | some o => rw [s _ _ e] at h; cases h
theorem cxK2 {CX : CXT} {P : Program} {w : World} {K : PySem.W.Frag} {mg : Str → Option Value} {base : Heap} {N : List Str} {qual : Str} {scope : Scope} {f : Addr} {cd : Value} {A : Around} {outer : List Env} {sh : Shared} {H : Hp} {E : XK} :
    (cxOf CX P w K mg base N qual scope f cd A outer sh H E).K = K := rfl
theorem cxK3 {CX : CXT} {P : Program} {w : World} {K : PySem.W.Frag} {mg : Str → Option Value} {base : Heap} {N : List Str} {qual : Str} {scope : Scope} {f : Addr} {cd : Value} {A : Around} {outer : List Env} {sh : Shared} {H : Hp} {E : XK} {p : Addr × Obj} :
    (L2H.cxH CX P w K mg base N qual scope f cd A outer sh H E p).K = K := rfl
theorem hu_hot {A : Around} {k : Nat} {h : Option Value} (hr : Room k A) : (A.mark h).units + 1 < cLine := (show A.units + 1 < cLine from hu_of hr)
/-- all that stands outside of ms is as it was -/
def Chg (ms : List Addr) (H H' : Hp) : Prop := ∀ b o, b ∉ ms → H b = some o → H' b = some o
section
variable {ms ns : List Addr} {H H' H'' G : Hp} {a b p : Addr} {o o' : HO}
theorem Chg.refl : Chg ms H H := fun _ _ _ e => e
theorem Chg.of (s : Same H H') : Chg ms H H' := fun b o _ e => s b o e
theorem Chg.trans (c : Chg ms H H') (d : Chg ms H' H'') : Chg ms H H'' := fun b o n e => d b o n (c b o n e)
theorem Chg.mono (c : Chg ms H H') (h : ∀ b ∈ ms, b ∈ ns) : Chg ns H H' := fun b o n e => c b o (fun z => n (h b z)) e
theorem Chg.put (h : a ∈ ms) : Chg ms H (upd H a o) := fun b u n e => by rw [upd_ne (fun z => n (by rw [z]; exact h))]; exact e
theorem Chg.sameR (c : Chg ms H H') (s : Same H' H'') : Chg ms H H'' := fun b o n e => s b o (c b o n e)
theorem Chg.sameL (s : Same H H') (c : Chg ms H' H'') : Chg ms H H'' := fun b o n e => c b o n (s b o e)
theorem Chg.new (c : Chg ms H H') (h : H a = none) : Chg ms H (upd H' a o) := fun b u n e => by rw [upd_ne (ne_of_none e h)]; exact c b u n e
theorem Chg.set (c : Chg ms H H') (h : a ∈ ms) : Chg ms H (upd H' a o) := c.trans (Chg.put h)
theorem nin1 (h : b ≠ a) : b ∉ [a] := fun z => h (List.mem_singleton.mp z)
theorem nin2 {c : Addr} (h : b ≠ a) (k : b ≠ c) : b ∉ [a, c] := fun z => (List.mem_cons.mp z).elim h fun z => k (List.mem_singleton.mp z)
/-- what an apart heap holds stays -/
theorem Chg.apart (c : Chg ms H H') (s : Same G H) (out : ∀ m ∈ ms, G m = none) : Same G H' := fun b o e => c b o (fun z => by rw [out b z] at e; cases e) (s b o e)
/-- the heap without some places -/
noncomputable def rst (S : Addr → Prop) (H : Hp) : Hp := open Classical in fun b => if S b then none else H b
variable {S S' : Addr → Prop}
theorem rst_same : Same (rst S H) H := fun b o e => by
  unfold rst at e
  split at e
  · cases e
  · exact e
theorem rst_at (h : H b = some o) (n : ¬ S b) : rst S H b = some o := by unfold rst; rw [if_neg n]; exact h
theorem rst_none (h : S b) : rst S H b = none := by unfold rst; rw [if_pos h]
theorem rst_next (c : ∀ b o, ¬ S b → H b = some o → H' b = some o) (h : ∀ b, S' b → S b ∨ H b = none) : Same (rst S H) (rst S' H') := fun b o e => by
  have e2 := rst_same _ _ e
  have n : ¬ S b := fun z => by rw [rst_none z] at e; cases e
  refine rst_at (c b o n e2) fun z => ?_
  rcases h b z with k | k
  · exact n k
  · rw [k] at e2; cases e2
end
end RC

set_option Elab.async false
set_option linter.all false
set_option maxRecDepth 100000
set_option maxHeartbeats 4000000
/-! Further rules: two lists of the same objects are equal; a text times an int. -/
namespace RX
open PySem PySem.Spec PyProof.Rows PySem.SeqAt L2
open RD
/-- two lists of objects that are the same, or of unlike lengths -/
def rEqLL (K : PySem.W.Frag) : R2 := fun x y H Q => ∃ (a b : Addr) (as bs : List Addr), x = .ref a ∧ y = .ref b ∧ SqL K H a (as.map V.ref) ∧ SqL K H b (bs.map V.ref) ∧ (as = bs ∨ as.length ≠ bs.length) ∧ Q (.bl (decide (as = bs))) H
def rNeLL (K : PySem.W.Frag) : R2 := fun x y H Q => ∃ (a b : Addr) (as bs : List Addr), x = .ref a ∧ y = .ref b ∧ SqL K H a (as.map V.ref) ∧ SqL K H b (bs.map V.ref) ∧ (as = bs ∨ as.length ≠ bs.length) ∧ Q (.bl (!decide (as = bs))) H
section
variable {X : Cx}
theorem size_ne {as bs : List Addr} (h : as.length ≠ bs.length) : ((as.map Value.ref).toArray.size != (bs.map Value.ref).toArray.size) = true := by simpa using h
theorem op_eqLL (hu : X.A.units < cLine) : OpR X (compareOp .Eq) (rEqLL X.K) := by
  intro pins s σ H x y v u Q I rx ry h
  obtain ⟨a, b, as, bs, rfl, rfl, ha, hb, c, q⟩ := h
  cases rx
  cases ry
  obtain ⟨its, rv, hl, _⟩ := I.list ha
  obtain ⟨its2, rv2, hl2, _⟩ := I.list hb
  obtain rfl := vals_refs rv
  obtain rfl := vals_refs rv2
  rcases c with rfl | c
  · refine eq_listAt (e := fun _ => true) hl.isList hl2.isList rfl hu (fun j h1 h2 => EqAt.same _) ?_
    rw [all_true]
    rw [decide_eq_true rfl] at q
    exact fin_bl I q rfl
  · rw [decide_eq_false (fun z => c (by rw [z]))] at q
    exact eq_list_lengthsAt hl.isList hl2.isList (size_ne c) hu (fin_bl I q rfl)
theorem op_neLL (hu : X.A.units < cLine) : OpR X (compareOp .NotEq) (rNeLL X.K) := by
  intro pins s σ H x y v u Q I rx ry h
  obtain ⟨a, b, as, bs, rfl, rfl, ha, hb, c, q⟩ := h
  cases rx
  cases ry
  obtain ⟨its, rv, hl, _⟩ := I.list ha
  obtain ⟨its2, rv2, hl2, _⟩ := I.list hb
  obtain rfl := vals_refs rv
  obtain rfl := vals_refs rv2
  rcases c with rfl | c
  · refine RcNeAt.lists (e := fun _ => true) hl.isList hl2.isList rfl hu (fun j h1 h2 => EqAt.same _) X.prog X.w X.xe _ ?_
    rw [all_true]
    rw [decide_eq_true rfl] at q
    exact fin_bl I q rfl
  · rw [decide_eq_false (fun z => c (by rw [z]))] at q
    exact RcNeAt.lists_lengths hl.isList hl2.isList (size_ne c) hu X.prog X.w X.xe _ (fin_bl I q rfl)
end
end RX

set_option Elab.async false
set_option linter.all false
set_option maxRecDepth 100000
set_option maxHeartbeats 4000000
/-! How long the text of a number is. -/
namespace RN
open PySem PySem.Spec PyProof.Rows L2
theorem log2_div (n : Nat) (h : 10 ≤ n) : (n / 10).log2 + 1 ≤ n.log2 := by
  have h1 : n / 10 ≤ n / 2 := by omega
  have h2 : n / 10 ≠ 0 := by omega
  have h3 : n ≠ 0 := by omega
  have h4 := Nat.log2_self_le h2
  have h5 : 2 ^ ((n / 10).log2 + 1) ≤ n := by rw [Nat.pow_succ]; omega
  exact (Nat.le_log2 h3).mpr h5
theorem len_numL (n : Nat) : (TL.numL n).length ≤ n.log2 + 1 := by
  induction n using Nat.strongRecOn with
  | ind n ih =>
    by_cases h : n < 10
    · rw [TL.numL_lt h]; simp
    · have h : 10 ≤ n := by omega
      rw [TL.numL_step h, List.length_append]
      have := ih (n / 10) (by omega)
      have := log2_div n h
      simp only [List.length_singleton]
      omega
theorem len_toString (i : Int) : (Str.ofString (toString i)).length ≤ i.natAbs.log2 + 2 := by
  cases i with
  | ofNat n =>
    have e := TL.tl_num n
    rw [TL.len_tl]
    show (TL.tl (Str.ofString (toString ((n : Nat) : Int)))).length ≤ _
    rw [e]
    have := len_numL n
    show _ ≤ n.log2 + 2
    omega
  | negSucc n =>
    have e := TL.tl_num (n + 1)
    have e2 : toString (Int.negSucc n) = "-" ++ toString (((n + 1 : Nat)) : Int) := rfl
    rw [TL.len_tl, e2]
    have e3 : TL.tl (Str.ofString ("-" ++ toString (((n + 1 : Nat)) : Int))) = 45 :: TL.tl (Str.ofString (toString (((n + 1 : Nat)) : Int))) := by
      show (Str.ofString _).cps.toList = 45 :: (Str.ofString _).cps.toList
      rw [signs_ofString, signs_ofString, String.toList_append, List.map_append]; rfl
    rw [e3, e, List.length_cons]
    have := len_numL (n + 1)
    show _ ≤ (n + 1).log2 + 2
    omega
end RN

set_option Elab.async false
set_option linter.all false
set_option maxRecDepth 100000
set_option maxHeartbeats 4000000
/-! Further rules: a list and an empty one. -/
namespace RY
open PySem PySem.Spec PyProof.Rows PySem.SeqAt L2
open RD
def rEqE (K : PySem.W.Frag) : R2 := fun x y H Q => ∃ (a b : Addr) (xs : List V), x = .ref a ∧ y = .ref b ∧ SqL K H a xs ∧ SqL K H b [] ∧ Q (.bl (xs.isEmpty)) H
def rNeE (K : PySem.W.Frag) : R2 := fun x y H Q => ∃ (a b : Addr) (xs : List V), x = .ref a ∧ y = .ref b ∧ SqL K H a xs ∧ SqL K H b [] ∧ Q (.bl (!xs.isEmpty)) H
section
variable {X : Cx}
theorem vals_nil {us : List Value} (h : Vals [] us) : us = [] := by cases h; rfl
theorem vals_cons {x : V} {xs : List V} {us : List Value} (h : Vals (x :: xs) us) : (us.toArray.size != (([] : List Value)).toArray.size) = true := by cases h; simp
theorem op_eqE (hu : X.A.units < cLine) : OpR X (compareOp .Eq) (rEqE X.K) := by
  intro pins s σ H x y v u Q I rx ry h
  obtain ⟨a, b, xs, rfl, rfl, ha, hb, q⟩ := h
  cases rx
  cases ry
  obtain ⟨its, rv, hl, _⟩ := I.list ha
  obtain ⟨its2, rv2, hl2, _⟩ := I.list hb
  obtain rfl := vals_nil rv2
  cases xs with
  | nil =>
    obtain rfl := vals_nil rv
    refine eq_listAt (e := fun _ => true) hl.isList hl2.isList rfl hu (fun j h1 h2 => EqAt.same _) ?_
    rw [all_true]
    exact fin_bl I q rfl
  | cons x xs => exact eq_list_lengthsAt hl.isList hl2.isList (vals_cons rv) hu (fin_bl I q rfl)
theorem op_neE (hu : X.A.units < cLine) : OpR X (compareOp .NotEq) (rNeE X.K) := by
  intro pins s σ H x y v u Q I rx ry h
  obtain ⟨a, b, xs, rfl, rfl, ha, hb, q⟩ := h
  cases rx
  cases ry
  obtain ⟨its, rv, hl, _⟩ := I.list ha
  obtain ⟨its2, rv2, hl2, _⟩ := I.list hb
  obtain rfl := vals_nil rv2
  cases xs with
  | nil =>
    obtain rfl := vals_nil rv
    refine RcNeAt.lists (e := fun _ => true) hl.isList hl2.isList rfl hu (fun j h1 h2 => EqAt.same _) X.prog X.w X.xe _ ?_
    rw [all_true]
    exact fin_bl I q rfl
  | cons x xs => exact RcNeAt.lists_lengths hl.isList hl2.isList (vals_cons rv) hu X.prog X.w X.xe _ (fin_bl I q rfl)

def flatW : V → Bool
  | .int _ => true
  | .bl _ => true
  | .str _ => true
  | .non => true
  | .ref _ => true
  | _ => false
/-- two lists of the same plain values -/
def rEqV (K : PySem.W.Frag) : R2 := fun x y H Q => ∃ (a b : Addr) (xs : List V), x = .ref a ∧ y = .ref b ∧ SqL K H a xs ∧ SqL K H b xs ∧ xs.all flatW = true ∧ Q (.bl true) H
def rNeV (K : PySem.W.Frag) : R2 := fun x y H Q => ∃ (a b : Addr) (xs : List V), x = .ref a ∧ y = .ref b ∧ SqL K H a xs ∧ SqL K H b xs ∧ xs.all flatW = true ∧ Q (.bl false) H
theorem eq_same {A : Around} {s : Shared} {x : V} {u u' : Value} (h : RelV x u) (h' : RelV x u') (hf : flatW x = true) : EqAt A s u u' true := by
  cases x with
  | int i =>
    obtain ⟨t, rfl⟩ := h
    obtain ⟨t', rfl⟩ := h'
    have e := EqAt.int_int (A := A) (s := s) i t i t'
    rw [beq_self_eq_true] at e; exact e
  | str i =>
    obtain ⟨t, rfl⟩ := h
    obtain ⟨t', rfl⟩ := h'
    have e := EqAt.str_str (A := A) (s := s) i t i t'
    rw [beq_self_eq_true] at e; exact e
  | bl b => cases h; cases h'; exact EqAt.same _
  | non => cases h; cases h'; exact EqAt.same _
  | ref a => cases h; cases h'; exact EqAt.same _
  | _ => cases hf
theorem eq_all {A : Around} {s : Shared} : ∀ {xs : List V} {us us' : List Value}, Vals xs us → Vals xs us' → xs.all flatW = true → us.length = us'.length ∧ ∀ (j : Nat) (h1 : j < us.length) (h2 : j < us'.length), EqAt A s us[j] us'[j] true
  | [], _, _, .nil, .nil, _ => ⟨rfl, fun j h1 _ => absurd h1 (Nat.not_lt_zero _)⟩
  | x :: xs, _, _, .cons h t, .cons h' t', hf => by
    rw [List.all_cons, Bool.and_eq_true] at hf
    have ih := eq_all (A := A) (s := s) t t' hf.2
    refine ⟨congrArg (· + 1) ih.1, fun j h1 h2 => ?_⟩
    cases j with
    | zero => exact eq_same h h' hf.1
    | succ j => exact ih.2 j (Nat.lt_of_succ_lt_succ h1) (Nat.lt_of_succ_lt_succ h2)
theorem all_tt (n : Nat) : (List.range n).all (fun _ => true) = true := by simp
theorem op_eqV (hu : X.A.units < cLine) : OpR X (compareOp .Eq) (rEqV X.K) := by
  intro pins s σ H x y v u Q I rx ry h
  obtain ⟨a, b, xs, rfl, rfl, ha, hb, hf, q⟩ := h
  cases rx
  cases ry
  obtain ⟨its, rv, hl, _⟩ := I.list ha
  obtain ⟨its2, rv2, hl2, _⟩ := I.list hb
  have e := eq_all (A := X.A.in1) (s := s) rv rv2 hf
  refine eq_listAt (e := fun _ => true) hl.isList hl2.isList (by simpa using e.1) hu (fun j h1 h2 => by simpa using e.2 j (by simpa using h1) (by simpa using h2)) ?_
  rw [all_tt]
  exact fin_bl I q rfl
theorem op_neV (hu : X.A.units < cLine) : OpR X (compareOp .NotEq) (rNeV X.K) := by
  intro pins s σ H x y v u Q I rx ry h
  obtain ⟨a, b, xs, rfl, rfl, ha, hb, hf, q⟩ := h
  cases rx
  cases ry
  obtain ⟨its, rv, hl, _⟩ := I.list ha
  obtain ⟨its2, rv2, hl2, _⟩ := I.list hb
  have e := eq_all (A := X.A.in1) (s := s) rv rv2 hf
  refine RcNeAt.lists (e := fun _ => true) hl.isList hl2.isList (by simpa using e.1) hu (fun j h1 h2 => by simpa using e.2 j (by simpa using h1) (by simpa using h2)) X.prog X.w X.xe _ ?_
  rw [all_tt]
  exact fin_bl I q rfl
end
end RY

set_option Elab.async false
set_option linter.all false
set_option maxRecDepth 100000
set_option maxHeartbeats 0
namespace K17
open PySem PySem.Spec PyProof.Rows L2 RC
section
variable {P : Program} {w : World} {K : PySem.W.Frag} {mg : Str → Option Value} {base : Heap}
theorem dp_ints {K : PySem.W.Frag} {H : Hp} : ∀ ns : List Int, DpAll K H (ns.map V.int) (ns.map PyData.int)
  | [] => .nil
  | n :: r => .cons (.int n) (dp_ints r)
theorem can_ints : ∀ ns : List Int, PyData.canLayAll0 (ns.map PyData.int) = true
  | [] => by simp [PyData.canLayAll0]
  | n :: r => by simp [PyData.canLayAll0, PyData.canLay0, can_ints r]
theorem dep_ints : ∀ ns : List Int, PyData.depthAll (ns.map PyData.int) = 0
  | [] => by simp [PyData.depthAll]
  | n :: r => by simp [PyData.depthAll, PyData.depth, dep_ints r]
theorem sh_ints (ns : List Int) : SeqAt.shaped (.list (ns.map PyData.int)) = true := by
  unfold SeqAt.shaped
  simp [PyData.canLay0, PyData.depth, can_ints, dep_ints]
theorem seq0 (v : Int) (r : List Int) : seqIndex? 0 ((v :: r).map V.int).length = some 0 := by
  unfold seqIndex?
  simp
def spDraw : Sp := fun vs H Q _ => ∃ (s l : Addr) (n : Nat) (many : Int), vs = [.ref s, .int many] ∧ Stm H s l n ∧ n ≤ 1000000 ∧ 1 ≤ many ∧ many < 1073741824 ∧
  ∀ (H' : Hp) (d : Int), Old s l H H' → Stm H' s l (n + 1) → 0 ≤ d → d < many → Q (.int d) H'
theorem old_upd {s l : Addr} {H H' : Hp} {a : Addr} {o : HO} (h : Old s l H H') (ha : a = s ∨ a = l ∨ H' a = none) : Old s l H (upd H' a o) := fun b u h1 h2 e => by
  have e2 := h b u h1 h2 e
  have hb : b ≠ a := by
    rintro rfl
    rcases ha with z | z | z
    · exact h1 z
    · exact h2 z
    · rw [z] at e2; cases e2
  rw [upd_ne hb]; exact e2
theorem stm_small {d c : Int} (h : 0 ≤ d) (h1 : d < 2147483647) (h2 : 0 ≤ c) (h3 : c ≤ 1000001) : (d + 104729 * c + 17).natAbs < 2 ^ 64 := by omega
theorem stm_small2 {m c : Int} (h : 0 ≤ m) (h1 : m < 2147483629) (h2 : 0 ≤ c) (h3 : c ≤ 1000001) : (m * 48271 + 40503 * c * c + 13).natAbs < 2 ^ 64 := by
  have q1 : 0 ≤ 40503 * c * c := Int.mul_nonneg (by omega) h2
  have q2 : 40503 * c * c ≤ 40503 * c * 1000001 := Int.mul_le_mul_of_nonneg_left h3 (by omega)
  omega
theorem ok_draw {f : Addr} (T : Txt P w K mg) (F : Stands K "_law_draw" "_law_draw" s__law_draw [] f) : Callable P w K mg base 1 f ["_law_stream", "_law_many"] [] spDraw := by
  refine F.call0 sc__law_draw (fun vs H Q E h => ?_) (fun cdv A outer s H vs Q E hr h => ?_) (fun _ _ _ _ _ _ us hl => match us, hl with | [_, _], _ => rfl)
  · obtain ⟨s, l, n, m, rfl, _⟩ := h
    rfl
  obtain ⟨p, l, n, many, rfl, hS, hn, hm1, hm2, hQ⟩ := h
  refine ⟨_, (pss_cons (ps_while PassesOwn.never (PW.pt (pw_and (pt_cmpR op_eq (pe_ix ix_list (pv 0) pe_int (fun _ _ => rfl)) pe_int (nomark _)) (pw_and1 (pt_cmpR (op_neD hr.units) (pe_ix ix_list (pv 0) pe_int (fun _ _ => rfl)) (pe_lst pa_nil) (nomark _))))) (pss_cons (ps_asg (pe_bm PySem.F.plainAttrs_list PySem.F.slot_list_pop PySem.F.type_list_pop mt_popAt (pe_ix ix_list (pv 0) pe_int (fun _ _ => rfl)) (pa_cons pe_int pa_nil)) (pg_sub (pv 0) pe_int set_list))
      (pss_one (ps_if (pt_cmpR op_lt (pe_ix ix_list (pv 0) pe_int (fun _ _ => rfl)) (pe_op op_pow pe_int pe_int) (nomark _)) (pss_cons (ps_asg (pe_op op_mod (pe_callTy call_int1 (by rfl) T.b_int (by decide +kernel) (pa_cons (pe_op op_add (pe_op op_add (pe_op op_mul (pe_ix ix_list (pv 0) pe_int (fun _ _ => rfl)) pe_int) (pe_ix ix_list (pv 0) pe_int (fun _ _ => rfl))) pe_int) pa_nil)) pe_int) (pg_sub (pv 0) pe_int set_list))
      (pss_one (ps_asg pe_int (pg_sub (pv 0) pe_int set_list)))) pss_nil))))
      (pss_cons (ps_if (pt_cmpR op_gt (pe_ix ix_list (pv 0) pe_int (fun _ _ => rfl)) pe_int (nomark _)) (pss_cons (ps_set (i := 2) sc__law_draw.nd rfl (by first | exact Or.inl rfl | exact Or.inr rfl) (pe_op op_mod (pe_callTy call_int1 (by rfl) T.b_int (by decide +kernel) (pa_cons (pe_ix ix_list (pv 0) pe_int (fun _ _ => rfl)) pa_nil)) (pv 1)))
      (pss_cons (ps_asg (pe_op op_fdiv (pe_ix ix_list (pv 0) pe_int (fun _ _ => rfl)) (pv 1)) (pg_sub (pv 0) pe_int set_list))
      (pss_one (ps_ret (pv 2))))) pss_nil)
      (pss_cons (ps_asg (pe_op op_add (pe_ix ix_list (pv 0) pe_int (fun _ _ => rfl)) pe_int) (pg_sub (pv 0) pe_int set_list))
      (pss_cons (ps_set (i := 3) sc__law_draw.nd rfl (by first | exact Or.inl rfl | exact Or.inr rfl) (pe_op op_mod (pe_callTy call_int1 (by rfl) T.b_int (by decide +kernel) (pa_cons (pe_op op_pow (pe_op op_add (pe_op op_add (pe_ix ix_list (pv 0) pe_int (fun _ _ => rfl)) (pe_op op_mul pe_int (pe_ix ix_list (pv 0) pe_int (fun _ _ => rfl)))) pe_int) pe_int) pa_nil)) pe_int))
      (pss_cons (ps_set (i := 4) sc__law_draw.nd rfl (by first | exact Or.inl rfl | exact Or.inr rfl) (pe_op op_mod (pe_callTy call_int1 (by rfl) T.b_int (by decide +kernel) (pa_cons (pe_op op_pow (pe_op op_add (pe_op op_add (pe_op op_mul (pv 3) pe_int) (pe_op op_mul (pe_op op_mul pe_int (pe_ix ix_list (pv 0) pe_int (fun _ _ => rfl))) (pe_ix ix_list (pv 0) pe_int (fun _ _ => rfl)))) pe_int) pe_int) pa_nil)) pe_int))
      (pss_one (ps_ret (pe_op op_mod (pe_callTy call_int1 (by rfl) T.b_int (by decide +kernel) (pa_cons (pv 4) pa_nil)) (pv 1))))))))), ?_⟩
  obtain ⟨hne, ns, x, c, d, h1, h2, h3, h4, h5, h6, h7, h8⟩ := hS
  refine ⟨fun m σ H' => σ = [some (.ref p), some (.int many), none, none, none] ∧ Old p l H H' ∧ ∃ (ns : List Int) (x c d : Int), m = ns.length ∧ H' p = some (.lst [.ref l, .int x, .int c, .int d]) ∧ H' l = some (.lst (ns.map V.int)) ∧ ns.length ≤ 63 ∧ 0 ≤ x ∧ 0 ≤ c ∧ c ≤ n ∧ 0 ≤ d ∧ d < 2147483647,
    ⟨_, rfl, Old.refl _, ns, x, c, d, rfl, h1, h2, h3, h4, h5, h6, h7, h8⟩, ?_⟩
  clear h1 h2 h3 h4 h5 h6 h7 h8 ns x c d
  rintro m σ H1 ⟨rfl, hO, ns, x, c, d, rfl, h1, h2, h3, h4, h5, h6, h7, h8⟩
  refine ⟨_, rfl, p, _, _, _, rfl, rfl, SqL.of h1, rfl, rfl, _, rfl, ?_⟩
  by_cases hx : x = 0
  · subst hx
    refine iteT' (decide_eq_true rfl) ?_
    refine ⟨_, rfl, p, _, _, _, rfl, rfl, SqL.of h1, rfl, (by show 0 ≤ sizeLine; decide), fun q hq => ?_⟩
    have g1 : upd H1 q (.lst []) p = some (.lst [.ref l, .int 0, .int c, .int d]) := by rw [upd_ne (ne_of_none h1 hq)]; exact h1
    have g2 : upd H1 q (.lst []) l = some (.lst (ns.map V.int)) := by rw [upd_ne (ne_of_none h2 hq)]; exact h2
    have gO : Old p l H (upd H1 q (.lst [])) := old_upd hO (.inr (.inr hq))
    refine ⟨_, _, Dp.lst (SqL.of g2) (dp_ints ns), Dp.lst (SqL.of upd_same) .nil, sh_ints ns, by decide +kernel, _, rfl, ?_⟩
    generalize upd H1 q (.lst []) = H2 at g1 g2 gO
    cases ns with
    | cons v r =>
      refine iteT' (by rfl) ?_
      refine ⟨fun σ' H' => ∃ m', m' < (v :: r).length ∧ (σ' = [some (.ref p), some (.int many), none, none, none] ∧ Old p l H H' ∧ ∃ (ns : List Int) (x c d : Int), m' = ns.length ∧ H' p = some (.lst [.ref l, .int x, .int c, .int d]) ∧ H' l = some (.lst (ns.map V.int)) ∧ ns.length ≤ 63 ∧ 0 ≤ x ∧ 0 ≤ c ∧ c ≤ n ∧ 0 ≤ d ∧ d < 2147483647), fun σ' H' z => z, ?_⟩
      -- s[1] = s[0].pop(0)
      refine ⟨_, rfl, p, _, _, _, rfl, rfl, SqL.of g1, rfl, .inl ⟨rfl, _, SqL.of g2⟩, l, (v :: r).map V.int, 0, 0, .int v, rfl, rfl, g2, by decide, by decide, seq0 _ _, rfl, ?_⟩
      generalize e3 : upd H2 l _ = H3
      have k1 : H3 p = some (.lst [.ref l, .int 0, .int c, .int d]) := by rw [← e3, upd_ne hne]; exact g1
      have kO : Old p l H H3 := by rw [← e3]; exact old_upd gO (.inr (.inl rfl))
      have k2 : H3 l = some (.lst (r.map V.int)) := by rw [← e3]; exact upd_same
      clear e3
      refine ⟨_, rfl, p, _, 1, 1, rfl, rfl, k1, rfl, ?_⟩
      generalize e4 : upd H3 p _ = H4
      have j1 : H4 p = some (.lst [.ref l, .int v, .int c, .int d]) := by rw [← e4]; exact upd_same
      have j2 : H4 l = some (.lst (r.map V.int)) := by rw [← e4, upd_ne (Ne.symm hne)]; exact k2
      have jO : Old p l H H4 := by rw [← e4]; exact old_upd kO (.inl rfl)
      clear e4
      have hl : r.length ≤ 63 := Nat.le_of_succ_le h3
      refine ⟨_, rfl, p, _, _, _, rfl, rfl, SqL.of j1, rfl, _, _, rfl, rfl, ⟨by decide, by decide, by decide⟩, _, _, rfl, rfl, _, rfl, ?_⟩
      refine ite2 (fun hv => ?_) (fun hv => ?_)
      · -- s[3] = int(..) % 2147483647
        refine ⟨_, rfl, p, _, _, _, rfl, rfl, SqL.of j1, rfl, _, _, rfl, rfl, .inr ⟨by decide, by decide⟩, _, rfl, p, _, _, _, rfl, rfl, SqL.of j1, rfl, _, _, rfl, rfl, _, _, rfl, rfl, .inl ⟨_, rfl, _, _, rfl, rfl, (by show (0 : Int) < 2147483647; decide), _, rfl, p, _, 3, 3, rfl, rfl, j1, rfl, ?_⟩⟩
        have m1 := Int.emod_nonneg (d * 31 + v + 7) (show (2147483647 : Int) ≠ 0 by decide)
        have m2 := Int.emod_lt_of_pos (d * 31 + v + 7) (show (0 : Int) < 2147483647 by decide)
        refine ⟨_, rfl, p, _, 1, 1, rfl, rfl, upd_same, rfl, r.length, Nat.lt_succ_self _, rfl, old_upd (old_upd jO (.inl rfl)) (.inl rfl), r, 0, c, (d * 31 + v + 7) % 2147483647, rfl, upd_same, ?_, hl, Int.le_refl 0, h5, h6, m1, m2⟩
        rw [upd_ne (Ne.symm hne), upd_ne (Ne.symm hne)]; exact j2
      · have hv : 10 ^ 18 ≤ v := by
          have z : ¬ v < 10 ^ (18 : Int).toNat := fun z => hv (decide_eq_true z)
          have e : (18 : Int).toNat = 18 := rfl
          rw [e] at z; omega
        exact ⟨r.length, Nat.lt_succ_self _, rfl, jO, r, v, c, d, rfl, j1, j2, hl, by omega, h5, h6, h7, h8⟩
    | nil =>
      refine iteF' (by rfl) ?_
      refine ⟨_, rfl, p, _, _, _, rfl, rfl, SqL.of g1, rfl, _, _, rfl, rfl, _, rfl, ?_⟩
      refine iteF' (by rfl) ?_
      -- s[2] = s[2] + 1
      refine ⟨_, rfl, p, _, _, _, rfl, rfl, SqL.of g1, rfl, _, _, rfl, rfl, _, rfl, p, _, 2, 2, rfl, rfl, g1, rfl, ?_⟩
      generalize e3 : upd H2 p _ = H3
      have a1 : H3 p = some (.lst [.ref l, .int 0, .int (c + 1), .int d]) := by rw [← e3]; exact upd_same
      have a2 : H3 l = some (.lst (([] : List Int).map V.int)) := by rw [← e3, upd_ne (Ne.symm hne)]; exact g2
      have aO : Old p l H H3 := by rw [← e3]; exact old_upd gO (.inl rfl)
      have hc : c + 1 ≤ 1000001 := by omega
      clear e3
      refine ⟨_, rfl, p, _, _, _, rfl, rfl, SqL.of a1, rfl, _, rfl, p, _, _, _, rfl, rfl, SqL.of a1, rfl, _, _, rfl, rfl, .inl ⟨by decide, by decide⟩, _, _, rfl, rfl, _, _, rfl, rfl, _, _, rfl, rfl, ⟨by decide, by decide, stm_small h7 h8 (by omega) hc⟩, .inl ⟨_, rfl, _, _, rfl, rfl, (by show (0 : Int) < 2147483629; decide), ?_⟩⟩
      have m1 := Int.emod_nonneg ((d + 104729 * (c + 1) + 17) ^ (5 : Int).toNat) (show (2147483629 : Int) ≠ 0 by decide)
      have m2 := Int.emod_lt_of_pos ((d + 104729 * (c + 1) + 17) ^ (5 : Int).toNat) (show (0 : Int) < 2147483629 by decide)
      refine ⟨_, rfl, _, _, rfl, rfl, .inr ⟨by decide, by decide⟩, _, rfl, p, _, _, _, rfl, rfl, SqL.of a1, rfl, _, _, rfl, rfl, .inl ⟨by decide, by decide⟩, _, rfl, p, _, _, _, rfl, rfl, SqL.of a1, rfl, _, _, rfl, rfl, .inr ⟨by omega, by omega⟩, _, _, rfl, rfl, _, _, rfl, rfl, _, _, rfl, rfl, ⟨by decide, by decide, stm_small2 m1 m2 (by omega) hc⟩, .inl ⟨_, rfl, _, _, rfl, rfl, (by show (0 : Int) < 1000000007; decide), ?_⟩⟩
      refine ⟨_, rfl, .inl ⟨_, rfl, _, rfl, _, _, rfl, rfl, (by show (0 : Int) < many; omega), ?_⟩⟩
      exact hQ _ _ aO ⟨hne, [], 0, c + 1, d, a1, a2, Nat.zero_le _, Int.le_refl 0, by omega, by omega, h7, h8⟩ (Int.emod_nonneg _ (by omega)) (Int.emod_lt_of_pos _ (by omega))
  · refine iteF' (decide_eq_false fun z => hx (V.int.inj z)) ?_
    have hx1 : 0 < x := by omega
    refine ⟨_, rfl, p, _, _, _, rfl, rfl, SqL.of h1, rfl, _, _, rfl, rfl, _, rfl, ?_⟩
    refine iteT' (decide_eq_true hx1) ?_
    refine ⟨_, rfl, p, _, _, _, rfl, rfl, SqL.of h1, rfl, .inl ⟨_, rfl, _, rfl, _, _, rfl, rfl, (by show (0 : Int) < many; omega), ?_⟩⟩
    refine ⟨_, rfl, p, _, _, _, rfl, rfl, SqL.of h1, rfl, _, rfl, _, _, rfl, rfl, ⟨by omega, by omega⟩, _, rfl, p, _, 1, 1, rfl, rfl, h1, rfl, _, rfl, ?_⟩
    refine hQ _ _ (old_upd hO (.inl rfl)) ⟨hne, ns, x / many, c, d, upd_same, by rw [upd_ne (Ne.symm hne)]; exact h2, h3, Int.ediv_nonneg h4 (by omega), h5, by omega, h7, h8⟩ (Int.emod_nonneg _ (by omega)) (Int.emod_lt_of_pos _ (by omega))
end
end K17

set_option Elab.async false
set_option linter.all false
set_option maxRecDepth 100000
set_option maxHeartbeats 0
namespace K17
open PySem PySem.Spec PyProof.Rows L2 RC
section
variable {P : Program} {w : World} {K : PySem.W.Frag} {mg : Str → Option Value} {base : Heap}
/-- all but p is as it was -/
def SameBut (p : Addr) (H H' : Hp) : Prop := ∀ b o, b ≠ p → H b = some o → H' b = some o
theorem SameBut.trans {p : Addr} {H H1 H2 : Hp} (a : SameBut p H H1) (b : SameBut p H1 H2) : SameBut p H H2 := fun c o h e => b c o h (a c o h e)
theorem SameBut.of {p : Addr} {H H' : Hp} (a : Same H H') : SameBut p H H' := fun c o _ e => a c o e
theorem SameBut.put {p : Addr} {H : Hp} {o : HO} : SameBut p H (upd H p o) := fun c u h e => by rw [upd_ne h]; exact e
theorem made_same {H H' : Hp} {x dx C : Addr} {o : HO} {fs : List (Str × V)} (hx : H x = none) (hd : H dx = none) (b : SameBut x (upd (upd H dx o) x (.ins C dx fs)) H') : Same H H' := fun c u e => by
  have h1 : c ≠ x := ne_of_none e hx
  have h2 : c ≠ dx := ne_of_none e hd
  exact b c u h1 (by rw [upd_ne h1, upd_ne h2]; exact e)
def spFiltererInit (K : PySem.W.Frag) : Sp := fun vs H Q _ => ∃ (C p dx : Addr) (fs : List (Str × V)), vs = [.ref p] ∧ H p = some (.ins C dx fs) ∧ Cls K C ∧ NoAttr K C "filters" ∧ fs.length < 100 ∧ ∀ l, H l = none → Q .non (upd (upd H l (.lst [])) p (.ins C dx (putF "filters" (.ref l) fs)))
theorem ok_filterer_init {f : Addr} (T : Txt P w K mg) (F : Stands K "__init__" "Filterer.__init__" s_Filterer_init [] f) : Callable P w K mg base 1 f ["self"] [] (spFiltererInit K) := by
  refine F.call0 sc_Filterer_init (fun vs H Q E h => ?_) (fun cdv A outer s H vs Q E hr h => ?_) (fun _ _ _ _ _ _ us hl => match us, hl with | [_], _ => rfl)
  · obtain ⟨C, p, dx, fs, rfl, _⟩ := h; rfl
  obtain ⟨C, p, dx, fs, rfl, hp, c, n, hl, hQ⟩ := h
  refine ⟨_, (pss_one (ps_fld (pv 0) (pe_lst pa_nil) rfl)), ?_⟩
  refine ⟨(by show 0 ≤ sizeLine; decide), fun l hl' => ?_⟩
  exact ⟨_, rfl, p, C, dx, fs, rfl, (by rw [upd_ne (ne_of_none hp hl')]; exact hp), c, n, (by omega), hQ l hl'⟩
end
end K17

set_option Elab.async false
set_option linter.all false
set_option maxRecDepth 100000
set_option maxHeartbeats 0
namespace K17
open PySem PySem.Spec PyProof.Rows L2 RC
section
variable {P : Program} {w : World} {K : PySem.W.Frag} {mg : Str → Option Value} {base : Heap}
/-! ### what is made -/
abbrev CY (K : PySem.W.Frag) : Addr := He.ga K "Yard"
abbrev CL (K : PySem.W.Frag) : Addr := He.ga K "Logger"
def spEnrol (K : PySem.W.Frag) : Sp := fun vs H Q _ => ∃ (y h dy m : Addr) (fs : List (Str × V)) (xs : List V), vs = [.ref y, .ref h] ∧ H y = some (.ins (CY K) dy fs) ∧ fs.lookup ("made" : Str) = some (.ref m) ∧ H m = some (.lst xs) ∧ xs.length ≤ 1000 ∧ Q .non (upd H m (.lst (xs ++ [.ref h])))
theorem ok_enrol {f : Addr} (T : Txt P w K mg) (F : Stands K "enrol" "Yard.enrol" s_Yard_enrol [] f) : Callable P w K mg base 1 f ["self", "handler"] [] (spEnrol K) := by
  refine F.call0 sc_Yard_enrol (fun vs H Q E h => ?_) (fun cdv A outer s H vs Q E hr h => ?_) (fun _ _ _ _ _ _ us hl => match us, hl with | [_, _], _ => rfl)
  · obtain ⟨y, h, dy, m, fs, xs, rfl, _⟩ := h; rfl
  obtain ⟨y, h, dy, m, fs, xs, rfl, h1, h2, h3, h4, hQ⟩ := h
  refine ⟨_, (pss_one (ps_expr (pe_bm PySem.F.plainAttrs_list PySem.F.slot_list_append PySem.F.type_list_append mt_append (pe_fld (pv 0) rfl) (pa_cons (pv 1) pa_nil)))), ?_⟩
  exact ⟨_, rfl, y, _, dy, fs, _, rfl, h1, T.c_Yard, T.n_Yard_made, h2, .inl ⟨rfl, _, SqL.of h3⟩, _, rfl, m, _, _, rfl, rfl, h3, (by rw [sizeLine_eq]; omega), hQ⟩
/-- what the text says of a class of handlers -/
structure HCls (K : PySem.W.Frag) (C : Addr) : Prop where
  c : Cls K C
  n1 : NoAttr K C "filters"
  n2 : NoAttr K C "yard"
  n3 : NoAttr K C "level"
  n4 : NoAttr K C "formatter"
  n5 : NoAttr K C "name"
  n6 : NoAttr K C "terminator"
  n7 : NoAttr K C "closed"
def hF (l y : Addr) : List (Str × V) := [("filters", .ref l), ("yard", .ref y), ("level", .int 0), ("formatter", .non), ("name", .non), ("terminator", .str "\n"), ("closed", .bl false)]
/-- a handler at p was made: its filters at l; the yard's list of what was made, at m, has it at its end -/
def HMade (K : PySem.W.Frag) (H : Hp) (p C dx y m : Addr) (xs : List V) (H' : Hp) : Prop := ∃ l, (∀ b o, b ≠ p → b ≠ m → H b = some o → H' b = some o) ∧ H l = none ∧ H' p = some (.ins C dx (hF l y)) ∧ H' l = some (.lst []) ∧ H' m = some (.lst (xs ++ [.ref p]))
def spHandlerInit (K : PySem.W.Frag) : Sp := fun vs H Q _ => ∃ (p C dx y dy m : Addr) (fs : List (Str × V)) (xs : List V), vs = [.ref p, .ref y] ∧ H p = some (.ins C dx []) ∧ HCls K C ∧ p ≠ y ∧ H y = some (.ins (CY K) dy fs) ∧ fs.lookup ("made" : Str) = some (.ref m) ∧ fs.lookup ("enrol" : Str) = none ∧ H m = some (.lst xs) ∧ xs.length ≤ 1000 ∧
  ∀ H', HMade K H p C dx y m xs H' → Q .non H'
theorem ok_handler_init {f : Addr} (T : Txt P w K mg) (F : Stands K "__init__" "Handler.__init__" s_Handler_init [] f) (c_Filterer_init : Callable P w K mg base 1 (He.ma K (He.ga K "Filterer") "__init__") ["self"] [] (spFiltererInit K))
    (c_Yard_enrol : Callable P w K mg base 1 (He.ma K (He.ga K "Yard") "enrol") ["self", "handler"] [] (spEnrol K)) : Callable P w K mg base 2 f ["self", "yard"] [] (spHandlerInit K) := by
  refine F.call0 sc_Handler_init (fun vs H Q E h => ?_) (fun cdv A outer s H vs Q E hr h => ?_) (fun _ _ _ _ _ _ us hl => match us, hl with | [_, _], _ => rfl)
  · obtain ⟨p, C, dx, y, dy, m, fs, xs, rfl, _⟩ := h; rfl
  obtain ⟨p, C, dx, y, dy, m, fs, xs, rfl, hp, c, npy, hy, hm, he, hmm, hxs, hQ⟩ := h
  refine ⟨_, (pss_cons (ps_expr (pe_cf T.cf_Filterer_init c_Filterer_init (hr.mono (by first | decide | exact Nat.le_refl _)) (pe_glob (v := .ref _) (by rfl) T.g_Filterer rfl) (pa_cons (pv 0) pa_nil)))
      (pss_cons (ps_fld (pv 0) (pv 1) rfl)
      (pss_cons (ps_fld (pv 0) pe_int rfl)
      (pss_cons (ps_fld (pv 0) pe_non rfl)
      (pss_cons (ps_fld (pv 0) pe_non rfl)
      (pss_cons (ps_fld (pv 0) pe_str rfl)
      (pss_cons (ps_fld (pv 0) pe_bl rfl)
      (pss_one (ps_expr (pe_mt T.c_Yard T.m_Yard_enrol c_Yard_enrol (hr.mono (by first | decide | exact Nat.le_refl _)) (pv 1) (pa_cons (pv 0) pa_nil))))))))))), ?_⟩
  refine ⟨rfl, _, rfl, C, p, dx, [], rfl, hp, c.c, c.n1, (by decide), fun l hl => ?_⟩
  refine ⟨_, rfl, _, rfl, p, C, dx, _, rfl, upd_same, c.c, c.n2, (by show 1 < 1000; decide), ?_⟩
  rw [upd_upd]
  refine ⟨_, rfl, p, C, dx, _, rfl, upd_same, c.c, c.n3, (by show 2 < 1000; decide), ?_⟩
  rw [upd_upd]
  refine ⟨_, rfl, p, C, dx, _, rfl, upd_same, c.c, c.n4, (by show 3 < 1000; decide), ?_⟩
  rw [upd_upd]
  refine ⟨_, rfl, p, C, dx, _, rfl, upd_same, c.c, c.n5, (by show 4 < 1000; decide), ?_⟩
  rw [upd_upd]
  refine ⟨_, rfl, p, C, dx, _, rfl, upd_same, c.c, c.n6, (by show 5 < 1000; decide), ?_⟩
  rw [upd_upd]
  refine ⟨_, rfl, p, C, dx, _, rfl, upd_same, c.c, c.n7, (by show 6 < 1000; decide), ?_⟩
  rw [upd_upd]
  generalize e1 : upd (upd H l (.lst [])) p _ = H1
  have nlp : l ≠ p := fun z => by rw [z, hp] at hl; cases hl
  have npm : p ≠ m := fun z => by rw [z, hmm] at hp; cases hp
  have nlm : l ≠ m := fun z => by rw [z, hmm] at hl; cases hl
  have q1 : H1 p = some (.ins C dx (hF l y)) := by rw [← e1]; exact upd_same
  have q2 : H1 l = some (.lst []) := by rw [← e1, upd_ne nlp]; exact upd_same
  have q3 : ∀ b o, b ≠ p → H b = some o → H1 b = some o := fun b o h1 h2 => by rw [← e1, upd_ne h1]; exact same_new hl _ b o h2
  clear e1
  refine ⟨_, rfl, y, dy, fs, rfl, q3 _ _ (Ne.symm npy) hy, he, _, rfl, y, p, dy, m, fs, xs, rfl, q3 _ _ (Ne.symm npy) hy, hm, q3 _ _ (Ne.symm npm) hmm, hxs, ?_⟩
  exact hQ _ ⟨l, fun b o h1 h2 h3 => by rw [upd_ne h2]; exact q3 b o h1 h3, hl, by rw [upd_ne npm]; exact q1, by rw [upd_ne nlm]; exact q2, upd_same⟩
def spStreamInit (K : PySem.W.Frag) : Sp := fun vs H Q _ => ∃ (p dx y dy m : Addr) (st : Str) (fs : List (Str × V)) (xs : List V), vs = [.ref p, .ref y, .str st] ∧ H p = some (.ins (He.ga K "StreamHandler") dx []) ∧ p ≠ y ∧ H y = some (.ins (CY K) dy fs) ∧ fs.lookup ("made" : Str) = some (.ref m) ∧ fs.lookup ("enrol" : Str) = none ∧ H m = some (.lst xs) ∧ xs.length ≤ 1000 ∧
  ∀ (H' : Hp) (l : Addr), (∀ b o, b ≠ p → b ≠ m → H b = some o → H' b = some o) → H l = none → H' p = some (.ins (He.ga K "StreamHandler") dx (hF l y ++ ([("stream", .str st)] : List (Str × V)))) → H' l = some (.lst []) → H' m = some (.lst (xs ++ [.ref p])) → Q .non H'
theorem ok_stream_init {f : Addr} (T : Txt P w K mg) (F : Stands K "__init__" "StreamHandler.__init__" s_StreamHandler_init [.str "stderr"] f) (c_Handler_init : Callable P w K mg base 2 (He.ma K (He.ga K "Handler") "__init__") ["self", "yard"] [] (spHandlerInit K)) :
    Callable P w K mg base 3 f ["self", "yard", "stream"] [.str "stderr"] (spStreamInit K) := by
  refine F.call sc_StreamHandler_init 2 0 (fun vs H Q E h => ?_) (fun cdv A outer s H vs Q E hr h => ?_) (fun z => nomatch z) fun _ => ⟨rfl, fun _ _ _ _ _ _ _ us its hl hi => match us, hl, its, hi with | [_, _], _, [_], _ => ⟨_, rfl, rfl⟩⟩
  · obtain ⟨p, dx, y, dy, m, st, fs, xs, rfl, _⟩ := h; rfl
  obtain ⟨p, dx, y, dy, m, st, fs, xs, rfl, hp, npy, hy, hm, he, hmm, hxs, hQ⟩ := h
  refine ⟨_, (pss_cons (ps_expr (pe_cf T.cf_Handler_init c_Handler_init (hr.mono (by first | decide | exact Nat.le_refl _)) (pe_glob (v := .ref _) (by rfl) T.g_Handler rfl) (pa_cons (pv 0) (pa_cons (pv 1) pa_nil))))
      (pss_one (ps_fld (pv 0) (pv 2) rfl))), ?_⟩
  have c : HCls K (He.ga K "StreamHandler") := ⟨T.c_StreamHandler, T.n_StreamHandler_filters, T.n_StreamHandler_yard, T.n_StreamHandler_level, T.n_StreamHandler_formatter, T.n_StreamHandler_name, T.n_StreamHandler_terminator, T.n_StreamHandler_closed⟩
  refine ⟨rfl, _, rfl, _, rfl, p, _, dx, y, dy, m, fs, xs, rfl, hp, c, npy, hy, hm, he, hmm, hxs, fun H1 hM => ?_⟩
  obtain ⟨l, k1, k2, k3, k4, k5⟩ := hM
  have nlp : l ≠ p := fun z => by rw [z, hp] at k2; cases k2
  have npm : m ≠ p := fun z => by rw [z, hp] at hmm; cases hmm
  refine ⟨_, rfl, _, rfl, p, _, dx, _, rfl, k3, T.c_StreamHandler, T.n_StreamHandler_stream, (by show 7 < 1000; decide), ?_⟩
  exact hQ _ l (fun b o h1 h2 h3 => by rw [upd_ne h1]; exact k1 b o h1 h2 h3) k2 upd_same (by rw [upd_ne nlp]; exact k4) (by rw [upd_ne npm]; exact k5)
theorem ok_stream_init3 {f : Addr} (T : Txt P w K mg) (F : Stands K "__init__" "StreamHandler.__init__" s_StreamHandler_init [.str "stderr"] f) (c_Handler_init : Callable P w K mg base 2 (He.ma K (He.ga K "Handler") "__init__") ["self", "yard"] [] (spHandlerInit K)) :
    Callable P w K mg base 3 f ["self", "yard", "stream"] [] (spStreamInit K) := by
  refine F.call sc_StreamHandler_init 3 1 (fun vs H Q E h => ?_) (fun cdv A outer s H vs Q E hr h => ?_) (fun z => nomatch z) fun _ => ⟨rfl, fun _ _ _ _ _ _ _ us its hl hi => match us, hl, its, hi with | [_, _, _], _, [_], _ => ⟨_, rfl, rfl⟩⟩
  · obtain ⟨p, dx, y, dy, m, st, fs, xs, rfl, _⟩ := h; rfl
  obtain ⟨p, dx, y, dy, m, st, fs, xs, rfl, hp, npy, hy, hm, he, hmm, hxs, hQ⟩ := h
  refine ⟨_, (pss_cons (ps_expr (pe_cf T.cf_Handler_init c_Handler_init (hr.mono (by first | decide | exact Nat.le_refl _)) (pe_glob (v := .ref _) (by rfl) T.g_Handler rfl) (pa_cons (pv 0) (pa_cons (pv 1) pa_nil))))
      (pss_one (ps_fld (pv 0) (pv 2) rfl))), ?_⟩
  have c : HCls K (He.ga K "StreamHandler") := ⟨T.c_StreamHandler, T.n_StreamHandler_filters, T.n_StreamHandler_yard, T.n_StreamHandler_level, T.n_StreamHandler_formatter, T.n_StreamHandler_name, T.n_StreamHandler_terminator, T.n_StreamHandler_closed⟩
  refine ⟨rfl, _, rfl, _, rfl, p, _, dx, y, dy, m, fs, xs, rfl, hp, c, npy, hy, hm, he, hmm, hxs, fun H1 hM => ?_⟩
  obtain ⟨l, k1, k2, k3, k4, k5⟩ := hM
  have nlp : l ≠ p := fun z => by rw [z, hp] at k2; cases k2
  have npm : m ≠ p := fun z => by rw [z, hp] at hmm; cases hmm
  refine ⟨_, rfl, _, rfl, p, _, dx, _, rfl, k3, T.c_StreamHandler, T.n_StreamHandler_stream, (by show 7 < 1000; decide), ?_⟩
  exact hQ _ l (fun b o h1 h2 h3 => by rw [upd_ne h1]; exact k1 b o h1 h2 h3) k2 upd_same (by rw [upd_ne nlp]; exact k4) (by rw [upd_ne npm]; exact k5)
def lF (l y : Addr) (name : Str) (lev : Int) (h : Addr) (par : V) : List (Str × V) := [("filters", .ref l), ("yard", .ref y), ("name", .str name), ("level", .int lev), ("propagate", .bl true), ("disabled", .bl false), ("handlers", .ref h), ("parent", par)]
def spLoggerInit (K : PySem.W.Frag) : Sp := fun vs H Q _ => ∃ (p dx y : Addr) (name : Str) (lev : Int), vs = [.ref p, .ref y, .str name, .int lev] ∧ H p = some (.ins (CL K) dx []) ∧
  ∀ (H' : Hp) (l h : Addr), SameBut p H H' → H l = none → H h = none → l ≠ h → H' p = some (.ins (CL K) dx (lF l y name lev h .non)) → H' l = some (.lst []) → H' h = some (.lst []) → Q .non H'
theorem ok_logger_init {f : Addr} (T : Txt P w K mg) (F : Stands K "__init__" "Logger.__init__" s_Logger_init [] f) (c_Filterer_init : Callable P w K mg base 1 (He.ma K (He.ga K "Filterer") "__init__") ["self"] [] (spFiltererInit K)) :
    Callable P w K mg base 2 f ["self", "yard", "name", "level"] [] (spLoggerInit K) := by
  refine F.call0 sc_Logger_init (fun vs H Q E h => ?_) (fun cdv A outer s H vs Q E hr h => ?_) (fun _ _ _ _ _ _ us hl => match us, hl with | [_, _, _, _], _ => rfl)
  · obtain ⟨p, dx, y, name, lev, rfl, _⟩ := h; rfl
  obtain ⟨p, dx, y, name, lev, rfl, hp, hQ⟩ := h
  refine ⟨_, (pss_cons (ps_expr (pe_cf T.cf_Filterer_init c_Filterer_init (hr.mono (by first | decide | exact Nat.le_refl _)) (pe_glob (v := .ref _) (by rfl) T.g_Filterer rfl) (pa_cons (pv 0) pa_nil)))
      (pss_cons (ps_fld (pv 0) (pv 1) rfl)
      (pss_cons (ps_fld (pv 0) (pv 2) rfl)
      (pss_cons (ps_fld (pv 0) (pv 3) rfl)
      (pss_cons (ps_fld (pv 0) pe_bl rfl)
      (pss_cons (ps_fld (pv 0) pe_bl rfl)
      (pss_cons (ps_fld (pv 0) (pe_lst pa_nil) rfl)
      (pss_one (ps_fld (pv 0) pe_non rfl))))))))), ?_⟩
  refine ⟨rfl, _, rfl, _, p, dx, [], rfl, hp, T.c_Logger, T.n_Logger_filters, (by decide), fun l hl => ?_⟩
  refine ⟨_, rfl, _, rfl, p, _, dx, _, rfl, upd_same, T.c_Logger, T.n_Logger_yard, (by show 1 < 1000; decide), ?_⟩
  rw [upd_upd]
  refine ⟨_, rfl, _, rfl, p, _, dx, _, rfl, upd_same, T.c_Logger, T.n_Logger_name, (by show 2 < 1000; decide), ?_⟩
  rw [upd_upd]
  refine ⟨_, rfl, _, rfl, p, _, dx, _, rfl, upd_same, T.c_Logger, T.n_Logger_level, (by show 3 < 1000; decide), ?_⟩
  rw [upd_upd]
  refine ⟨_, rfl, p, _, dx, _, rfl, upd_same, T.c_Logger, T.n_Logger_propagate, (by show 4 < 1000; decide), ?_⟩
  rw [upd_upd]
  refine ⟨_, rfl, p, _, dx, _, rfl, upd_same, T.c_Logger, T.n_Logger_disabled, (by show 5 < 1000; decide), ?_⟩
  rw [upd_upd]
  refine ⟨(by show 0 ≤ sizeLine; decide), fun h hh => ?_⟩
  obtain ⟨nhp, hh1⟩ := upd_none hh
  obtain ⟨nhl, hh2⟩ := upd_none hh1
  refine ⟨_, rfl, p, _, dx, _, rfl, (by rw [upd_ne (Ne.symm nhp)]; exact upd_same), T.c_Logger, T.n_Logger_handlers, (by show 6 < 1000; decide), ?_⟩
  refine ⟨_, rfl, p, _, dx, _, rfl, upd_same, T.c_Logger, T.n_Logger_parent, (by show 7 < 1000; decide), ?_⟩
  rw [upd_upd]
  have nlp : l ≠ p := fun z => by rw [z, hp] at hl; cases hl
  refine hQ _ l h (fun b o h1 h2 => ?_) hl hh2 (Ne.symm nhl) upd_same ?_ ?_
  · have n1 : b ≠ h := ne_of_none h2 hh2
    have n2 : b ≠ l := ne_of_none h2 hl
    rw [upd_ne h1, upd_ne n1, upd_ne h1, upd_ne n2]; exact h2
  · rw [upd_ne nlp, upd_ne (Ne.symm nhl), upd_ne nlp]; exact upd_same
  · rw [upd_ne nhp]; exact upd_same
end
end K17

set_option Elab.async false
set_option linter.all false
set_option maxRecDepth 100000
set_option maxHeartbeats 0
namespace K17
open PySem PySem.Spec PyProof.Rows L2 RC
section
variable {P : Program} {w : World} {K : PySem.W.Frag} {mg : Str → Option Value} {base : Heap}
/-! ### levels -/
/-- what a level may be here -/
inductive LvIn where
  | int (i : Int)
  | nm (x : Str)
def LvIn.v : LvIn → V
  | .int i => .int i
  | .nm x => .str x
def spIsInt : Sp := fun vs H Q _ => ∃ v : LvIn, vs = [v.v] ∧ Q (.bl (match v with | .int _ => true | .nm _ => false)) H
theorem ok_is_integer {f : Addr} (T : Txt P w K mg) (F : Stands K "is_integer" "is_integer" s_is_integer [] f) : Callable P w K mg base 1 f ["thing"] [] spIsInt := by
  refine F.call0 sc_is_integer (fun vs H Q E h => ?_) (fun cdv A outer s H vs Q E hr h => ?_) (fun _ _ _ _ _ _ us hl => match us, hl with | [_], _ => rfl)
  · obtain ⟨v, rfl, _⟩ := h; rfl
  obtain ⟨v, rfl, hQ⟩ := h
  refine ⟨_, (pss_one (ps_ret (pe_and (pe_callB call_isi (by rfl) T.b_isinstance (by decide +kernel) (pa_cons (pv 0) (pa_cons (pe_bltn (v := .ty "int") (u := .type "int") (by rfl) T.b_int (by decide +kernel) rfl) pa_nil))) (pe_one (pe_not (pe_callB call_isi (by rfl) T.b_isinstance (by decide +kernel) (pa_cons (pv 0) (pa_cons (pe_bltn (v := .ty "bool") (u := .type "bool") (by rfl) T.b_bool (by decide +kernel) rfl) pa_nil)))))))), ?_⟩
  cases v with
  | int i =>
    refine ⟨_, rfl, _, _, _, _, true, rfl, .ty _, .base (.int i), kit_ty (b := "int") (by decide +kernel), _, rfl, iteT ?_⟩
    exact ⟨_, rfl, _, _, _, _, false, rfl, .ty _, .base (.int i), kit_ty (b := "bool") (by decide +kernel), _, rfl, hQ⟩
  | nm x =>
    exact ⟨_, rfl, _, _, _, _, false, rfl, .ty _, .base (.str x), kit_ty (b := "int") (by decide +kernel), _, rfl, iteF hQ⟩
/-- the number of a level by the yard's table -/
def lvNum (nums : List (Key × V)) : LvIn → Option V
  | .int i => some (.int i)
  | .nm x => valV nums (Sum.inr x)
def spLevelOf (K : PySem.W.Frag) : Sp := fun vs H Q _ => ∃ (y dy nu : Addr) (fs : List (Str × V)) (nums : List (Key × V)) (v : LvIn) (r : V), vs = [.ref y, v.v] ∧ H y = some (.ins (CY K) dy fs) ∧ fs.lookup ("numbers_of" : Str) = some (.ref nu) ∧ H nu = some (.dK nums) ∧ lvNum nums v = some r ∧ Q r H
theorem ok_level_of {f : Addr} (T : Txt P w K mg) (F : Stands K "level_of" "Yard.level_of" s_Yard_level_of [] f) (c_is_integer : Callable P w K mg base 1 (He.ga K "is_integer") ["thing"] [] spIsInt) : Callable P w K mg base 2 f ["self", "level"] [] (spLevelOf K) := by
  refine F.call0 sc_Yard_level_of (fun vs H Q E h => ?_) (fun cdv A outer s H vs Q E hr h => ?_) (fun _ _ _ _ _ _ us hl => match us, hl with | [_, _], _ => rfl)
  · obtain ⟨y, dy, nu, fs, nums, v, r, rfl, _⟩ := h; rfl
  obtain ⟨y, dy, nu, fs, nums, v, r, rfl, hy, hnu, hnums, hr2, hQ⟩ := h
  refine ⟨_, (pss_cons (ps_if (pt_val (pe_fn T.g_is_integer c_is_integer (hr.mono (by first | decide | exact Nat.le_refl _)) (by rfl) (pa_cons (pv 1) pa_nil))) (pss_one (ps_ret (pv 1))) pss_nil)
      (pss_cons (ps_if (PW.pt (pw_and (pt_val (pe_callB call_isi (by rfl) T.b_isinstance (by decide +kernel) (pa_cons (pv 1) (pa_cons (pe_bltn (v := .ty "str") (u := .type "str") (by rfl) T.b_str (by decide +kernel) rfl) pa_nil)))) (pw_and1 (pt_cmp (pc_din (hu_of hr) (pv 1) (pe_fld (pv 0) rfl)))))) (pss_one (ps_ret (pe_dget (hu_of hr) (pe_fld (pv 0) rfl) (pv 1) (fun _ _ => rfl)))) pss_nil)
      (pss_one ps_never))), ?_⟩
  cases v with
  | int i =>
    cases hr2
    exact ⟨_, rfl, .int i, rfl, _, rfl, iteT ⟨_, rfl, hQ⟩⟩
  | nm x =>
    have g := DGet.k (k := Sum.inr x) hnums
    rw [show valV nums (Sum.inr x) = some r from hr2] at g
    refine ⟨_, rfl, .nm x, rfl, _, rfl, iteF ?_⟩
    refine ⟨_, rfl, _, _, _, _, true, rfl, .ty _, .base (.str x), kit_ty (b := "str") (by decide +kernel), _, rfl, iteT ?_⟩
    refine ⟨_, rfl, _, rfl, y, _, dy, fs, _, rfl, hy, T.c_Yard, T.n_Yard_numbers_of, hnu, nu, _, rfl, g, _, rfl, iteT' (by rfl) ?_⟩
    exact ⟨_, rfl, y, _, dy, fs, _, rfl, hy, T.c_Yard, T.n_Yard_numbers_of, hnu, _, rfl, nu, _, rfl, g, hQ⟩
end
end K17

set_option Elab.async false
set_option linter.all false
set_option maxRecDepth 100000
set_option maxHeartbeats 0
namespace K17
open PySem PySem.Spec PyProof.Rows L2 RC
section
variable {P : Program} {w : World} {K : PySem.W.Frag} {mg : Str → Option Value} {base : Heap}
/-! ### filters -/
abbrev CF (K : PySem.W.Frag) : Addr := He.ga K "Filter"
abbrev CR (K : PySem.W.Frag) : Addr := He.ga K "LogRecord"
/-- a Filter of the name nm stands at a -/
def FilterAt (K : PySem.W.Frag) (H : Hp) (a : Addr) (nm : Str) : Prop := (∃ dx, H a = some (.ins (CF K) dx [("name", .str nm)])) ∧ nm.length ≤ 2000
/-- a record of the name rn stands at r -/
def RecName (K : PySem.W.Frag) (H : Hp) (r : Addr) (rn : Str) : Prop := ∃ dx fs, H r = some (.ins (CR K) dx fs) ∧ fs.lookup ("name" : Str) = some (.str rn)
def belowB (rn nm : Str) : Bool := decide (rn = nm) || Txt.startswith rn (nm ++ ".")
def passB (rn nm : Str) : Bool := decide (nm = "") || belowB rn nm
theorem len_dot (x : Str) : (x ++ ("." : Str)).length = x.length + 1 := by
  rw [TL.len_tl, TL.tl_append, List.length_append, ← TL.len_tl]; rfl
theorem bl_or (a b : Bool) : (if a = true then V.bl true else V.bl b) = V.bl (a || b) := by cases a <;> rfl
def spFilterInit : Sp := fun vs H Q _ => ∃ (C p dx : Addr) (nm : V), vs = [.ref p, nm] ∧ H p = some (.ins C dx []) ∧ Cls K C ∧ NoAttr K C "name" ∧ Q .non (upd H p (.ins C dx [("name", nm)]))
theorem ok_filter_init {f : Addr} {dvs : List V} (T : Txt P w K mg) (F : Stands K "__init__" "Filter.__init__" s_Filter_init [.str ""] f) : Callable P w K mg base 1 f ["self", "name"] [] (spFilterInit (K := K)) ∧ Callable P w K mg base 1 f ["self", "name"] [.str ""] (spFilterInit (K := K)) := by
  have body : ∀ (cdv : Value) (A : Around) (outer : List Env) (s : Shared) (H : Hp) (vs : List V) (Q : VK) (E : XK), Room 0 (A.deeper (envOfC "Filter.__init__" (defScope s_Filter_init) s.heap.objs.size f cdv)) → spFilterInit (K := K) vs H Q E →
      ∃ t, PSs (cxOf CX0 P w K mg base nm_Filter_init "Filter.__init__" (defScope s_Filter_init) f cdv A outer s H E).nox (defBody s_Filter_init) t ∧ t { nx := fun _ H' => Q .non H', rt := Q } (start nm_Filter_init vs) H := fun cdv A outer s H vs Q E hr h => by
    obtain ⟨C, p, dx, nm, rfl, hp, c, n, hQ⟩ := h
    refine ⟨_, (pss_one (ps_fld (pv 0) (pv 1) rfl)), ?_⟩
    exact ⟨_, rfl, _, rfl, p, C, dx, [], rfl, hp, c, n, (by show 0 < 1000; decide), hQ⟩
  have len : ∀ vs H Q E, spFilterInit (K := K) vs H Q E → vs.length = 2 := fun vs H Q E h => by
    obtain ⟨C, p, dx, nm, rfl, _⟩ := h; rfl
  exact ⟨F.call sc_Filter_init 2 1 len body (fun z => nomatch z) fun _ => ⟨rfl, fun _ _ _ _ _ _ _ us its hl hi => match us, hl, its, hi with | [_, _], _, [_], _ => ⟨_, rfl, rfl⟩⟩,
    F.call sc_Filter_init 1 0 len body (fun z => nomatch z) fun _ => ⟨rfl, fun _ _ _ _ _ _ _ us its hl hi => match us, hl, its, hi with | [_], _, [_], _ => ⟨_, rfl, rfl⟩⟩⟩
def spBelow : Sp := fun vs H Q _ => ∃ (a b : Str), vs = [.str a, .str b] ∧ b.length ≤ 2000 ∧ Q (.bl (belowB a b)) H
theorem ok_below {f : Addr} (T : Txt P w K mg) (F : Stands K "is_below" "is_below" s_is_below [] f) : Callable P w K mg base 1 f ["name", "above"] [] spBelow := by
  refine F.call0 sc_is_below (fun vs H Q E h => ?_) (fun cdv A outer s H vs Q E hr h => ?_) (fun _ _ _ _ _ _ us hl => match us, hl with | [_, _], _ => rfl)
  · obtain ⟨a, b, rfl, _⟩ := h; rfl
  obtain ⟨a, b, rfl, hb, hQ⟩ := h
  refine ⟨_, (pss_one (ps_ret (pe_or (pe_cmpR op_eq (pv 0) (pv 1) (nomark _)) (pe_one (pe_m1 PySem.F.slot_str_startswith PySem.F.type_str_startswith mt_startswith (pv 0) (pe_op op_add_str (pv 1) pe_str)))))), ?_⟩
  refine ⟨_, rfl, _, rfl, rfl, _, rfl, ?_⟩
  unfold belowB at hQ
  by_cases e : a = b
  · have e1 : decide (V.str a = V.str b) = true := decide_eq_true (congrArg V.str e)
    rw [decide_eq_true e, Bool.true_or] at hQ
    exact iteT' e1 hQ
  · have e1 : decide (V.str a = V.str b) = false := decide_eq_false fun z => e (V.str.inj z)
    rw [decide_eq_false e, Bool.false_or] at hQ
    refine iteF' e1 ?_
    exact ⟨_, rfl, ⟨_, rfl⟩, _, rfl, _, _, rfl, rfl, (by rw [sizeLine_eq]; show b.length + 1 ≤ _; omega), _, _, rfl, rfl, hQ⟩
def spPasses (K : PySem.W.Frag) : Sp := fun vs H Q _ => ∃ (f r : Addr) (nm rn : Str), vs = [.ref f, .ref r] ∧ FilterAt K H f nm ∧ RecName K H r rn ∧ Q (.bl (passB rn nm)) H
theorem ok_passes {f fb : Addr} (T : Txt P w K mg) (F : Stands K "passes" "Filter.passes" s_Filter_passes [] f) (c_is_below : Callable P w K mg base 1 (He.ga K "is_below") ["name", "above"] [] spBelow) : Callable P w K mg base 2 f ["self", "record"] [] (spPasses K) := by
  refine F.call0 sc_Filter_passes (fun vs H Q E h => ?_) (fun cdv A outer s H vs Q E hr h => ?_) (fun _ _ _ _ _ _ us hl => match us, hl with | [_, _], _ => rfl)
  · obtain ⟨f, r, nm, rn, rfl, _⟩ := h; rfl
  obtain ⟨f, r, nm, rn, rfl, ⟨⟨dx, hf⟩, hl⟩, ⟨dr, fs, hr1, hr2⟩, hQ⟩ := h
  refine ⟨_, (pss_one (ps_ret (pe_or (pe_cmpR op_eq (pe_fld (pv 0) rfl) pe_str (nomark _)) (pe_one (pe_fn T.g_is_below c_is_below (hr.mono (by first | decide | exact Nat.le_refl _)) (by rfl) (pa_cons (pe_fld (pv 1) rfl) (pa_cons (pe_fld (pv 0) rfl) pa_nil))))))), ?_⟩
  refine ⟨_, rfl, f, _, dx, _, _, rfl, hf, T.c_Filter, T.n_Filter_name, rfl, rfl, _, rfl, ?_⟩
  unfold passB at hQ
  by_cases e : nm = ""
  · rw [decide_eq_true e, Bool.true_or] at hQ
    exact iteT' (decide_eq_true (congrArg V.str e)) hQ
  · rw [decide_eq_false e, Bool.false_or] at hQ
    refine iteF' (decide_eq_false fun z => e (V.str.inj z)) ?_
    exact ⟨_, rfl, r, _, dr, _, _, rfl, hr1, T.c_LogRecord, T.n_LogRecord_name, hr2, _, rfl, f, _, dx, _, _, rfl, hf, T.c_Filter, T.n_Filter_name, rfl, _, _, rfl, hl, hQ⟩
def spLetBy (K : PySem.W.Frag) : Sp := fun vs H Q _ => ∃ (f r : Addr) (nm rn : Str), vs = [.ref f, .ref r] ∧ FilterAt K H f nm ∧ RecName K H r rn ∧ Q (if passB rn nm = true then .ref r else .non) H
theorem ok_let_by {f : Addr} (T : Txt P w K mg) (F : Stands K "let_by" "let_by" s_let_by [] f) (c_Filter_passes : Callable P w K mg base 2 (He.ma K (He.ga K "Filter") "passes") ["self", "record"] [] (spPasses K)) : Callable P w K mg base 3 f ["one", "record"] [] (spLetBy K) := by
  refine F.call0 sc_let_by (fun vs H Q E h => ?_) (fun cdv A outer s H vs Q E hr h => ?_) (fun _ _ _ _ _ _ us hl => match us, hl with | [_, _], _ => rfl)
  · obtain ⟨f, r, nm, rn, rfl, _⟩ := h; rfl
  obtain ⟨f, r, nm, rn, rfl, hF, hR, hQ⟩ := h
  obtain ⟨⟨dx, hf⟩, hl⟩ := id hF
  refine ⟨_, (pss_cons (ps_if (pt_val (pe_callB call_isi (by rfl) T.b_isinstance (by decide +kernel) (pa_cons (pv 0) (pa_cons (pe_glob (v := .ref _) (by rfl) T.g_Filter rfl) pa_nil)))) (pss_one (ps_ret (pe_ifExp (pt_val (pe_mt T.c_Filter T.m_Filter_passes c_Filter_passes (hr.mono (by first | decide | exact Nat.le_refl _)) (pv 0) (pa_cons (pv 1) pa_nil))) (pv 1) pe_non))) pss_nil)
      (pss_cons ps_never
      (pss_cons (ps_if (pt_val (pe_callB call_isi (by rfl) T.b_isinstance (by decide +kernel) (pa_cons (pv 2) (pa_cons (pe_glob (v := .ref _) (by rfl) T.g_LogRecord rfl) pa_nil)))) (pss_one (ps_ret (pv 2))) pss_nil)
      (pss_one (ps_ret (pe_ifExp (pt_val (pv 2)) (pv 1) pe_non)))))), ?_⟩
  refine ⟨_, rfl, _, _, _, _, _, rfl, .own _, T.ty_Filter.tyx T.c_Filter hf, T.kit_Filter_Filter, _, rfl, ?_⟩
  refine iteT ?_
  refine ⟨_, rfl, f, dx, _, rfl, hf, rfl, _, rfl, f, r, nm, rn, rfl, hF, hR, _, rfl, ?_⟩
  cases e : passB rn nm with
  | true => rw [e] at hQ; exact iteT ⟨_, rfl, hQ⟩
  | false => rw [e] at hQ; exact iteF hQ
end
end K17

set_option Elab.async false
set_option linter.all false
set_option maxRecDepth 100000
set_option maxHeartbeats 0
set_option pp.maxSteps 1000
local macro_rules | `(tactic| walk_at "cls") => `(tactic| first
  | with_reducible exact K17.Txt.c_Logger (by assumption)
  | with_reducible exact K17.Txt.c_StreamHandler (by assumption)
  | with_reducible exact K17.Txt.c_MemoryHandler (by assumption)
  | with_reducible exact K17.Txt.c_LogRecord (by assumption)
  | with_reducible exact K17.Txt.c_Filter (by assumption)
  | with_reducible exact K17.Txt.c_Queue (by assumption)
  | with_reducible exact K17.Txt.c_QueueListener (by assumption)
  | with_reducible exact K17.Txt.c_Field (by assumption)
  | with_reducible exact K17.Txt.c_Formatter (by assumption)
  | with_reducible exact K17.Txt.c_Yard (by assumption))
local macro_rules | `(tactic| walk_at "noat") => `(tactic| first
  | with_reducible exact K17.Txt.n_Logger_filters (by assumption)
  | with_reducible exact K17.Txt.n_Logger_yard (by assumption)
  | with_reducible exact K17.Txt.n_Logger_name (by assumption)
  | with_reducible exact K17.Txt.n_Logger_level (by assumption)
  | with_reducible exact K17.Txt.n_Logger_propagate (by assumption)
  | with_reducible exact K17.Txt.n_Logger_disabled (by assumption)
  | with_reducible exact K17.Txt.n_Logger_handlers (by assumption)
  | with_reducible exact K17.Txt.n_Logger_parent (by assumption)
  | with_reducible exact K17.Txt.n_StreamHandler_filters (by assumption)
  | with_reducible exact K17.Txt.n_StreamHandler_yard (by assumption)
  | with_reducible exact K17.Txt.n_StreamHandler_level (by assumption)
  | with_reducible exact K17.Txt.n_StreamHandler_formatter (by assumption)
  | with_reducible exact K17.Txt.n_StreamHandler_name (by assumption)
  | with_reducible exact K17.Txt.n_StreamHandler_terminator (by assumption)
  | with_reducible exact K17.Txt.n_StreamHandler_closed (by assumption)
  | with_reducible exact K17.Txt.n_StreamHandler_stream (by assumption)
  | with_reducible exact K17.Txt.n_MemoryHandler_filters (by assumption)
  | with_reducible exact K17.Txt.n_MemoryHandler_yard (by assumption)
  | with_reducible exact K17.Txt.n_MemoryHandler_level (by assumption)
  | with_reducible exact K17.Txt.n_MemoryHandler_formatter (by assumption)
  | with_reducible exact K17.Txt.n_MemoryHandler_name (by assumption)
  | with_reducible exact K17.Txt.n_MemoryHandler_terminator (by assumption)
  | with_reducible exact K17.Txt.n_MemoryHandler_closed (by assumption)
  | with_reducible exact K17.Txt.n_MemoryHandler_capacity (by assumption)
  | with_reducible exact K17.Txt.n_MemoryHandler_flush_level (by assumption)
  | with_reducible exact K17.Txt.n_MemoryHandler_target (by assumption)
  | with_reducible exact K17.Txt.n_MemoryHandler_flush_on_close (by assumption)
  | with_reducible exact K17.Txt.n_MemoryHandler_kept (by assumption)
  | with_reducible exact K17.Txt.n_LogRecord_name (by assumption)
  | with_reducible exact K17.Txt.n_LogRecord_levelno (by assumption)
  | with_reducible exact K17.Txt.n_LogRecord_levelname (by assumption)
  | with_reducible exact K17.Txt.n_LogRecord_msg (by assumption)
  | with_reducible exact K17.Txt.n_LogRecord_given (by assumption)
  | with_reducible exact K17.Txt.n_LogRecord_created (by assumption)
  | with_reducible exact K17.Txt.n_LogRecord_extra (by assumption)
  | with_reducible exact K17.Txt.n_Filter_name (by assumption)
  | with_reducible exact K17.Txt.n_Queue_waiting (by assumption)
  | with_reducible exact K17.Txt.n_QueueListener_queue (by assumption)
  | with_reducible exact K17.Txt.n_QueueListener_handler_list (by assumption)
  | with_reducible exact K17.Txt.n_QueueListener_respects (by assumption)
  | with_reducible exact K17.Txt.n_Field_name (by assumption)
  | with_reducible exact K17.Txt.n_Field_conversion (by assumption)
  | with_reducible exact K17.Txt.n_Field_fill (by assumption)
  | with_reducible exact K17.Txt.n_Field_align (by assumption)
  | with_reducible exact K17.Txt.n_Field_width (by assumption)
  | with_reducible exact K17.Txt.n_Formatter_fmt (by assumption)
  | with_reducible exact K17.Txt.n_Formatter_style (by assumption)
  | with_reducible exact K17.Txt.n_Formatter_parts (by assumption)
  | with_reducible exact K17.Txt.n_Formatter_defaults (by assumption)
  | with_reducible exact K17.Txt.n_Yard_clock (by assumption)
  | with_reducible exact K17.Txt.n_Yard_stream_texts (by assumption)
  | with_reducible exact K17.Txt.n_Yard_file_rows (by assumption)
  | with_reducible exact K17.Txt.n_Yard_names_of (by assumption)
  | with_reducible exact K17.Txt.n_Yard_numbers_of (by assumption)
  | with_reducible exact K17.Txt.n_Yard_bar_level (by assumption)
  | with_reducible exact K17.Txt.n_Yard_logger_map (by assumption)
  | with_reducible exact K17.Txt.n_Yard_made (by assumption)
  | with_reducible exact K17.Txt.n_Yard_handler_names (by assumption)
  | with_reducible exact K17.Txt.n_Yard_failure_rows (by assumption)
  | with_reducible exact K17.Txt.n_Yard_root (by assumption)
  | with_reducible exact K17.Txt.n_Yard_last_resort (by assumption))
local macro_rules | `(tactic| walk_at "hp") => `(tactic| first
  | with_reducible assumption
  | with_reducible exact L2.upd_same
  | ((with_reducible apply RW.at_upd); (focus (walk_at "ne"; done)); (focus (walk_at "hp"; done)))
  | ((with_reducible apply RW.at_same); (focus (with_reducible assumption; done)); (focus (walk_at "hp"; done)))
  | ((with_reducible apply RW.at_old); (focus (with_reducible assumption; done)); (focus (walk_at "ne"; done)); (focus (walk_at "ne"; done)); (focus (walk_at "hp"; done))))
local macro_rules | `(tactic| walk_at "ne") => `(tactic| first
  | with_reducible assumption
  | with_reducible exact Ne.symm (by with_reducible assumption)
  | with_reducible exact RW.ne_upd (by with_reducible assumption)
  | with_reducible exact Ne.symm (RW.ne_upd (by with_reducible assumption))
  | ((with_reducible apply RW.ne_new); (focus (with_reducible assumption; done)); (focus (walk_at "hp"; done)))
  | ((with_reducible apply RW.ne_new'); (focus (with_reducible assumption; done)); (focus (walk_at "hp"; done)))
  | ((with_reducible apply RW.ne_kind); (focus (walk_at "hp"; done)); (focus (walk_at "hp"; done)); (exact fun z => nomatch z)))
local macro_rules | `(tactic| walk_at "no") => `(tactic| first
  | with_reducible assumption
  | ((with_reducible apply RW.no_upd); (focus (walk_at "ne"; done)); (focus (walk_at "no"; done)))
  | ((with_reducible apply RW.free_same); (focus (with_reducible assumption; done)); (focus (with_reducible assumption; done))))
local macro_rules | `(tactic| walk_at "sm") => `(tactic| first
  | with_reducible assumption
  | with_reducible exact L2.Same.refl _
  | ((with_reducible apply RW.same_put_new); (focus (walk_at "sm"; done)); (focus (walk_at "no"; done)))
  | ((with_reducible apply RW.same_put); (focus (walk_at "sm"; done)); (focus (walk_at "no"; done)))
  | ((with_reducible apply RW.same_then); (focus (with_reducible assumption; done)); (focus (walk_at "sm"; done))))
local macro_rules | `(tactic| walk_at "sq") => `(tactic| first
  | with_reducible assumption
  | ((with_reducible apply L2.SqL.of); (focus (walk_at "hp"; done)))
  | ((with_reducible apply L2.SqT.of); (focus (walk_at "hp"; done)))
  | ((with_reducible apply RW.sql_same); (focus (with_reducible assumption; done)); (focus (walk_at "sm"; done)))
  | ((with_reducible apply RW.sqt_same); (focus (with_reducible assumption; done)); (focus (walk_at "sm"; done))))
local macro_rules | `(tactic| walk_at "pr") => `(tactic| first
  | with_reducible exact PySem.Paired.nil
  | ((with_reducible apply PySem.Paired.cons); (focus (first | exact L2.ClsV.ty _ | exact L2.ClsV.own _; done)); (focus (walk_at "pr"; done))))
local macro_rules | `(tactic| walk_at "stm") => `(tactic| first
  | with_reducible assumption
  | ((with_reducible apply RW.stm_upd); (focus (walk_at "ne"; done)); (focus (walk_at "ne"; done)); (focus (walk_at "stm"; done)))
  | ((with_reducible apply RW.stm_same); (focus (with_reducible assumption; done)); (focus (walk_at "sm"; done))))
local macro_rules | `(tactic| walk_at "od") => `(tactic| first
  | with_reducible assumption
  | with_reducible exact RC.Old.refl _
  | ((with_reducible apply RW.old_upd); (focus (walk_at "od"; done)); (focus (walk_at "no"; done)))
  | ((with_reducible apply RW.old_then); (focus (with_reducible assumption; done)); (focus (walk_at "od"; done)))
  | ((with_reducible apply RW.old_same); (focus (walk_at "od"; done)); (focus (with_reducible assumption; done))))
local macro_rules | `(tactic| walk_at "num") => `(tactic| first
  | exact Nat.le_of_ble_eq_true rfl
  | omega
  | (simp only [List.length_cons, List.length_nil, List.length_append, List.length_map, List.length_replicate, List.length_take, PySem.sizeLine_eq]; omega))
local macro_rules | `(tactic| walk_at "ki") => `(tactic| first
  | with_reducible exact RW.k_int_int
  | with_reducible exact RW.k_bool_int
  | with_reducible exact RW.k_str_int
  | with_reducible exact RW.k_NoneType_int
  | with_reducible exact RW.k_list_int
  | with_reducible exact RW.k_tuple_int
  | with_reducible exact RW.k_dict_int)
local macro_rules | `(tactic| walk_at "kb") => `(tactic| first
  | with_reducible exact RW.k_int_bool
  | with_reducible exact RW.k_bool_bool
  | with_reducible exact RW.k_str_bool
  | with_reducible exact RW.k_NoneType_bool
  | with_reducible exact RW.k_list_bool
  | with_reducible exact RW.k_tuple_bool
  | with_reducible exact RW.k_dict_bool)
local macro_rules | `(tactic| walk_at "ks") => `(tactic| first
  | with_reducible exact RW.k_int_str
  | with_reducible exact RW.k_bool_str
  | with_reducible exact RW.k_str_str
  | with_reducible exact RW.k_NoneType_str
  | with_reducible exact RW.k_list_str
  | with_reducible exact RW.k_tuple_str
  | with_reducible exact RW.k_dict_str)
local macro_rules | `(tactic| walk_at "kl") => `(tactic| first
  | with_reducible exact RW.k_int_list
  | with_reducible exact RW.k_bool_list
  | with_reducible exact RW.k_str_list
  | with_reducible exact RW.k_NoneType_list
  | with_reducible exact RW.k_list_list
  | with_reducible exact RW.k_tuple_list
  | with_reducible exact RW.k_dict_list)
local macro_rules | `(tactic| walk_at "kt") => `(tactic| first
  | with_reducible exact RW.k_int_tuple
  | with_reducible exact RW.k_bool_tuple
  | with_reducible exact RW.k_str_tuple
  | with_reducible exact RW.k_NoneType_tuple
  | with_reducible exact RW.k_list_tuple
  | with_reducible exact RW.k_tuple_tuple
  | with_reducible exact RW.k_dict_tuple)
local macro_rules | `(tactic| walk_at "kd") => `(tactic| first
  | with_reducible exact RW.k_int_dict
  | with_reducible exact RW.k_bool_dict
  | with_reducible exact RW.k_str_dict
  | with_reducible exact RW.k_NoneType_dict
  | with_reducible exact RW.k_list_dict
  | with_reducible exact RW.k_tuple_dict
  | with_reducible exact RW.k_dict_dict)
local macro_rules | `(tactic| walk_at "kit") => `(tactic| first
  | ((with_reducible apply RW.gKb); walk_at "kb")
  | ((with_reducible apply RW.gKi); walk_at "ki")
  | ((with_reducible apply RW.gKl); walk_at "kl")
  | ((with_reducible apply RW.gKs); walk_at "ks")
  | ((with_reducible apply RW.gKt); walk_at "kt")
  | ((with_reducible apply RW.gKd); walk_at "kd"))
local macro_rules | `(tactic| walk_at "kita") => `(tactic| first
  | ((with_reducible apply RW.ka2) <;> walk_at "kit")
  | ((with_reducible apply RW.ka3) <;> walk_at "kit")
  | ((with_reducible apply RW.ka4) <;> walk_at "kit")
  | ((with_reducible apply RW.ka5) <;> walk_at "kit"))
local macro_rules | `(tactic| walk_at "ty") => `(tactic| first
  | with_reducible exact L2.TyX.base (.int _)
  | with_reducible exact L2.TyX.base (.str _)
  | with_reducible exact L2.TyX.base (.bl _)
  | with_reducible exact L2.TyX.base .non
  | ((with_reducible apply L2.TyX.base); (with_reducible apply L2.TyOf.lst); (focus (walk_at "hp"; done)))
  | ((with_reducible apply L2.TyX.base); (with_reducible apply L2.TyOf.tup); (focus (walk_at "hp"; done)))
  | ((with_reducible apply L2.TyX.base); (with_reducible apply L2.TyOf.dK); (focus (walk_at "hp"; done)))
  | ((with_reducible apply RC.tyx_lst); (focus (walk_at "sq"; done)))
  | ((with_reducible apply RC.tyx_tup); (focus (walk_at "sq"; done))))
local macro_rules | `(tactic| walk_at "val") => `(tactic| first
  | with_reducible assumption
  | rfl)
local macro_rules | `(tactic| walk_at "dg") => `(tactic| first
  | (apply RW.dget_s; (focus (walk_at "hp"; done)); (focus (walk_at "val"; done)))
  | (apply RW.dget_i; (focus (walk_at "hp"; done)); (focus (walk_at "val"; done)))
  | (apply RW.dget_sF; (focus (walk_at "hp"; done)); (focus (walk_at "val"; done)))
  | (apply RW.dget_sR; (focus (assumption; done)); (focus (walk_at "val"; done)))
  | (apply RW.dput_s; (focus (walk_at "hp"; done)); (focus (walk_at "num"; done)))
  | (apply RW.dput_i; (focus (walk_at "hp"; done)); (focus (walk_at "num"; done)))
  | ((with_reducible apply RW.tyv_l); (focus (walk_at "hp"; done)))
  | ((with_reducible apply RW.tyv_s); (focus (walk_at "sq"; done)))
  | (apply RW.isd; (focus (walk_at "hp"; done)))
  | (apply RW.rd_of; (focus (walk_at "hp"; done)))
  | (apply RW.sql_of; (focus (walk_at "hp"; done)))
  | (apply RW.sqt_of; (focus (walk_at "hp"; done)))
  | (apply RW.len_l; (focus (walk_at "hp"; done)))
  | (apply RW.len_sl; (focus (walk_at "sq"; done)))
  | (apply RW.len_st; (focus (walk_at "sq"; done))))
local macro_rules | `(tactic| walk_at "side") => `(tactic| first
  | with_reducible rfl
  | ((with_reducible apply RW.gHp); walk_at "hp")
  | ((with_reducible apply RW.gSm); walk_at "sm")
  | ((with_reducible apply RW.gNe); walk_at "ne")
  | ((with_reducible apply RW.gStm); walk_at "stm")
  | ((with_reducible apply RW.gOld); walk_at "od")
  | ((with_reducible apply RW.gNo); walk_at "noat")
  | ((with_reducible apply RW.gCls); walk_at "cls")
  | ((with_reducible apply RW.gCv); (first | with_reducible exact L2.ClsV.ty _ | with_reducible exact L2.ClsV.own _))
  | ((with_reducible apply RW.gTy); walk_at "ty")
  | ((with_reducible apply RW.gKit); walk_at "kit")
  | ((with_reducible apply RW.gKita); walk_at "kita")
  | ((with_reducible apply RW.gSl); walk_at "sq")
  | ((with_reducible apply RW.gSt); walk_at "sq")
  | ((with_reducible apply RW.gPr); walk_at "pr")
  | with_reducible assumption
  | with_reducible exact RW.gCp ⟨by decide, by decide, by decide⟩
  | walk_at "dg"
  | rfl
  | walk_at "num")
local macro_rules | `(tactic| walk_at "nu") => `(tactic| (repeat (refine RW.fr ?_)))
local macro_rules | `(tactic| walk_at "tt") => `(tactic| first
  | with_reducible rfl
  | with_reducible assumption
  | rfl
  | with_reducible exact RW.cSsT (by with_reducible assumption)
  | with_reducible exact RW.cSsF (by with_reducible assumption)
  | with_reducible exact RW.cNsT (by with_reducible assumption)
  | with_reducible exact RW.cNsF (by with_reducible assumption)
  | with_reducible exact RW.cSiT (by with_reducible assumption)
  | with_reducible exact RW.cSiF (by with_reducible assumption)
  | with_reducible exact RW.cNiT (by with_reducible assumption)
  | with_reducible exact RW.cNiF (by with_reducible assumption)
  | with_reducible exact RW.someT (by with_reducible assumption)
  | with_reducible exact RW.someF (by with_reducible assumption)
  | with_reducible exact RW.nsomeT (by with_reducible assumption)
  | with_reducible exact RW.nsomeF (by with_reducible assumption))
local macro_rules | `(tactic| walk_at "disp") => `(tactic| first
  | with_reducible refine RW.disp1 ?_
  | with_reducible refine RW.disp2 ?_
  | with_reducible refine RW.disp3 ?_
  | with_reducible refine RW.disp4 ?_
  | with_reducible refine RW.disp5 ?_
  | with_reducible refine RW.disp6 ?_
  | with_reducible refine RW.disp7 ?_
  | with_reducible refine RW.disp8 ?_)
local macro_rules | `(tactic| walk_at "ex") => `(tactic| ((fail_if_success (apply @Exists.intro (Nat → Nat → _))); (fail_if_success (apply @Exists.intro (Nat → L2.St → L2.Hp → Prop))); (fail_if_success (apply @Exists.intro (L2.St → L2.Hp → Prop))); apply Exists.intro))
local macro_rules | `(tactic| walk_at "st") => `(tactic| first
  | ((fail_if_success (with_reducible apply RW.isMut)); (fail_if_success (with_reducible apply RW.isMut2)); (apply And.intro); (focus (walk_at "side"; done)))
  | walk_at "disp"
  | walk_at "ex"
  | refine RC.iteT' (by walk_at "tt") ?_
  | refine RC.iteF' (by walk_at "tt") ?_)
local macro_rules | `(tactic| walk_at "gi") => `(tactic| (repeat (first | walk_at "st" | ((walk_at "nu"); (intro _ h0; have h1 : _ = none := h0; clear h1); intros))))
local macro_rules | `(tactic| walk_at "in") => `(tactic| (try dsimp only [RW.cxK]))
local macro_rules | `(tactic| walk_at "go") => `(tactic| (repeat walk_at "st"))
namespace K17
open PySem PySem.Spec PyProof.Rows L2 RC
section
variable {P : Program} {w : World} {K : PySem.W.Frag} {mg : Str → Option Value} {base : Heap}
/-! ### copies -/
inductive PlainV : V → Prop
  | int (i : Int) : PlainV (.int i)
  | str (z : Str) : PlainV (.str z)
def spCopied (K : PySem.W.Frag) (n : Nat) : Sp := fun vs H Q _ =>
  (∃ x : V, vs = [x] ∧ 1 ≤ n ∧ PlainV x ∧ Q x H) ∨
  (∃ (a : Addr) (xs : List V), vs = [.ref a] ∧ 2 ≤ n ∧ SqT K H a xs ∧ (∀ x ∈ xs, PlainV x) ∧ xs.length ≤ 1000 ∧ ∀ (H' : Hp) (t : Addr), Same H H' → H t = none → H' t = some (.tup xs) → Q (.ref t) H') ∨
  (∃ a : Addr, vs = [.ref a] ∧ 2 ≤ n ∧ H a = some (.dK []) ∧ ∀ (H' : Hp) (t : Addr), Same H H' → H t = none → H' t = some (.dK []) → Q (.ref t) H')
theorem take_more {α : Type} {xs : List α} {i : Nat} {x : α} (h : xs[i]? = some x) : xs.take (i + 1) = xs.take i ++ [x] := by rw [List.take_add_one, h]; rfl
theorem ok_copied {f : Addr} (T : Txt P w K mg) (F : Stands K "copied_value" "copied_value" s_copied_value [] f) (e : f = He.ga K "copied_value") : ∀ n : Nat, Callable P w K mg base (n + 1) f ["thing"] [] (spCopied K n)
  | 0 => by
    refine F.call0 sc_copied_value (fun vs H Q E h => ?_) (fun cdv A outer s H vs Q E hr h => ?_) (fun _ _ _ _ _ _ us hl => match us, hl with | [_], _ => rfl)
    · rcases h with ⟨x, rfl, _⟩ | ⟨a, xs, rfl, _⟩ | ⟨a, rfl, _⟩ <;> rfl
    · rcases h with ⟨x, rfl, h, _⟩ | ⟨a, xs, rfl, h, _⟩ | ⟨a, rfl, h, _⟩ <;> omega
  | n + 1 => by
    have c_copied_value := ok_copied T F e n
    rw [e] at c_copied_value
    refine F.call0 sc_copied_value (fun vs H Q E h => ?_) (fun cdv A outer s H vs Q E hr h => ?_) (fun _ _ _ _ _ _ us hl => match us, hl with | [_], _ => rfl)
    · rcases h with ⟨x, rfl, _⟩ | ⟨a, xs, rfl, _⟩ | ⟨a, rfl, _⟩ <;> rfl
    refine ⟨_, (pss_cons (ps_if (pt_val (pe_callB call_isi (by rfl) T.b_isinstance (by decide +kernel) (pa_cons (pv 0) (pa_cons (pe_bltn (v := .ty "list") (u := .type "list") (by rfl) T.b_list (by decide +kernel) rfl) pa_nil)))) (pss_one ps_never) pss_nil)
      (pss_cons (ps_if (pt_val (pe_callB call_isi (by rfl) T.b_isinstance (by decide +kernel) (pa_cons (pv 0) (pa_cons (pe_bltn (v := .ty "tuple") (u := .type "tuple") (by rfl) T.b_tuple (by decide +kernel) rfl) pa_nil)))) (pss_one (ps_ret (pe_callTy call_tuple_of (by rfl) T.b_tuple (by decide +kernel) (pa_cons (pe_lc (own := [("part", 1)]) (by rfl) sc_copied_value.nd (pi_tup (pv 0)) (blkOk_by (own := [("part", 1)]) (N := nm_copied_value) (sc := defScope s_copied_value) (by decide +kernel)) (fun _ _ _ _ _ => (pg_name (i := 1) sc_copied_value.nd rfl (by first | exact Or.inl rfl | exact Or.inr rfl))) (fun _ _ _ _ _ => pts_nil) (fun _ _ _ _ _ => (pe_fn T.g_copied_value c_copied_value (hr.mono (by first | decide | exact Nat.le_refl _)) (by rfl) (pa_cons (pv 1) pa_nil)))) pa_nil)))) pss_nil)
      (pss_cons (ps_if (pt_val (pe_callB call_isi (by rfl) T.b_isinstance (by decide +kernel) (pa_cons (pv 0) (pa_cons (pe_bltn (v := .ty "dict") (u := .type "dict") (by rfl) T.b_dict (by decide +kernel) rfl) pa_nil)))) (pss_one (ps_ret (pe_callTy (call_dictP rfl) (by rfl) T.b_dict (by decide +kernel) (pa_cons (pe_lock (pe_lc (own := [("name", 2)]) (by rfl) sc_copied_value.nd (pi_keys (pv 0)) (blkOk_by (own := [("name", 2)]) (N := nm_copied_value) (sc := defScope s_copied_value) (by decide +kernel)) (fun _ _ _ _ _ => (pg_name (i := 2) sc_copied_value.nd rfl (by first | exact Or.inl rfl | exact Or.inr rfl))) (fun _ _ _ _ _ => pts_nil) (fun _ _ _ _ _ => pe_never))) pa_nil)))) pss_nil)
      (pss_one (ps_ret (pv 0)))))), ?_⟩
    walk_at "in"
    rcases h with ⟨x, rfl, _, hx, hQ⟩ | ⟨a, xs, rfl, hn, hT, hx, hl, hQ⟩ | ⟨a, rfl, hn, hD, hQ⟩
    · cases hx with
      | int i => walk_at "go"; exact hQ
      | str z => walk_at "go"; exact hQ
    · refine ⟨_, rfl, _, _, _, _, _, rfl, .ty _, tyx_tup hT, kit_ty (b := "list") (by decide +kernel), _, rfl, iteF ?_⟩
      refine ⟨_, rfl, _, _, _, _, _, rfl, .ty _, tyx_tup hT, kit_ty (b := "tuple") (by decide +kernel), _, rfl, iteT ?_⟩
      refine ⟨_, rfl, a, rfl, ⟨_, hT⟩, fun D hD => ?_⟩
      have tS : ∀ {H' : Hp}, Same H H' → SqT K H' a xs := fun {H'} s => by
        rcases hT with (z | ⟨o, z⟩) | z
        · exact .inl (.inl (s _ _ z))
        · exact .inl (.inr ⟨o, s _ _ z⟩)
        · exact .inr z
      refine lc_it (walk_tup (xs := xs)) (fun i H' => Same H H' ∧ H' D = some (.lst (xs.take i))) ⟨same_new hD _, upd_same⟩ (fun i H' _ h => tS h.1) (fun i x H2 H3 hi hP hy => ?_) (fun H2 hP => ?_)
      · obtain ⟨rfl, hy⟩ := hy
        obtain ⟨s2, d2⟩ := hP
        have hm : x ∈ xs := List.mem_of_getElem? hy
        have hll : (xs.take i).length < sizeLine := by rw [List.length_take, sizeLine_eq]; omega
        refine ⟨rfl, yes_if ?_⟩
        refine ⟨_, rfl, .inl ⟨x, rfl, by omega, hx x hm, ?_⟩⟩
        refine ⟨_, d2, hll, fun c o hc => ?_, by rw [upd_same, take_more hy]⟩
        rw [upd_ne (ne_of_none hc hD)]; exact s2 _ _ hc
      · obtain ⟨s2, d2⟩ := hP
        rw [List.take_length] at d2
        refine ⟨D, xs, rfl, .inl ⟨SqL.of d2, fun t ht => ?_⟩⟩
        exact hQ _ t (s2.trans (same_new ht _)) (s2.free ht) upd_same
    · refine ⟨_, rfl, _, _, _, _, _, rfl, .ty _, .base (.dK hD), kit_ty (b := "list") (by decide +kernel), _, rfl, iteF ?_⟩
      refine ⟨_, rfl, _, _, _, _, _, rfl, .ty _, .base (.dK hD), kit_ty (b := "tuple") (by decide +kernel), _, rfl, iteF ?_⟩
      refine ⟨_, rfl, _, _, _, _, _, rfl, .ty _, .base (.dK hD), kit_ty (b := "dict") (by decide +kernel), _, rfl, iteT ?_⟩
      refine ⟨a, _, hD, trivial, fun od => ?_⟩
      refine ⟨_, rfl, a, od, rfl, .inl ⟨[], upd_same, fun D hD2 => ?_⟩⟩
      refine lc_it walk_keys (fun i H' => H' = upd (upd H a (.frz od (.dK []))) D (.lst [])) rfl (fun i H' _ h => ?_) (fun i x H' H'' hi => nomatch hi) (fun H' h => ?_)
      · subst h; rw [upd_ne (Ne.symm (upd_none hD2).1)]; exact upd_same
      · subst h
        refine ⟨by rw [upd_ne (Ne.symm (upd_none hD2).1)]; exact upd_same, ?_⟩
        rw [unlock hD hD2]
        have hD3 := (upd_none hD2).2
        refine ⟨D, [], [], rfl, SqL.of upd_same, .nil, fun t ht => ?_⟩
        exact hQ _ t ((same_new hD3 _).trans (same_new ht _)) (upd_none ht).2 upd_same
end
end K17

set_option Elab.async false
set_option linter.all false
set_option maxRecDepth 100000
set_option maxHeartbeats 0
namespace K17
open PySem PySem.Spec PyProof.Rows L2 RC
section
variable {P : Program} {w : World} {K : PySem.W.Frag} {mg : Str → Option Value} {base : Heap}
/-! ### the plain law of messages -/
abbrev SS := List Nat
abbrev tx (l : List Nat) : Str := ⟨l.toArray⟩
/-- a message read from the left, with the texts of its args -/
inductive PM : SS → List SS → Option SS → Prop
  | nil : PM [] [] (some [])
  | left {a : SS} {as : List SS} : PM [] (a :: as) none
  | two {c : Nat} {r : SS} {as : List SS} {o : Option SS} : c = 123 ∨ c = 125 → PM r as o → PM (c :: c :: r) as (o.map (c :: ·))
  | ch {c : Nat} {r : SS} {as : List SS} {o : Option SS} : c ≠ 123 → c ≠ 125 → PM r as o → PM (c :: r) as (o.map (c :: ·))
  | arg {r a : SS} {as : List SS} {o : Option SS} : PM r as o → PM (123 :: 125 :: r) (a :: as) (o.map (a ++ ·))
  | bad {c : Nat} {r : SS} {as : List SS} : c = 123 ∨ c = 125 → r.head? ≠ some c → (c = 125 ∨ r.head? ≠ some 125 ∨ as = []) → PM (c :: r) as none
theorem PM.plain {as : List SS} : ∀ {s : SS}, (∀ c ∈ s, c ≠ 123 ∧ c ≠ 125) → as ≠ [] → PM s as none
  | [], _, h => by
    cases as with
    | nil => exact absurd rfl h
    | cons a as => exact .left
  | c :: r, h, k => by
    obtain ⟨h1, h2⟩ := h c List.mem_cons_self
    exact PM.ch (o := none) h1 h2 (PM.plain (fun d hd => h d (List.mem_cons_of_mem _ hd)) k)
theorem PM.total : ∀ (n : Nat) (s : SS) (as : List SS), s.length ≤ n → ∃ o, PM s as o
  | _, [], [], _ => ⟨_, .nil⟩
  | _, [], _ :: _, _ => ⟨_, .left⟩
  | 0, _ :: _, _, h => absurd h (Nat.not_succ_le_zero _)
  | n + 1, c :: r, as, h => by
    have hr : r.length ≤ n := Nat.le_of_succ_le_succ h
    by_cases hc : c = 123 ∨ c = 125
    · by_cases e : r.head? = some c
      · cases r with
        | nil => cases e
        | cons d r =>
          cases e
          obtain ⟨o, ho⟩ := PM.total n r as (Nat.le_of_succ_le hr)
          exact ⟨_, .two hc ho⟩
      · by_cases b : c = 125 ∨ r.head? ≠ some 125 ∨ as = []
        · exact ⟨_, .bad hc e b⟩
        · have c1 : c = 123 := hc.elim id fun z => absurd (.inl z) b
          have c2 : r.head? = some 125 := Classical.byContradiction fun z => b (.inr (.inl z))
          cases as with
          | nil => exact absurd (.inr (.inr rfl)) b
          | cons a as =>
            cases r with
            | nil => cases c2
            | cons d r =>
              cases c2
              obtain ⟨o, ho⟩ := PM.total n r as (Nat.le_of_succ_le hr)
              rw [c1]
              exact ⟨_, .arg ho⟩
    · obtain ⟨o, ho⟩ := PM.total n r as hr
      exact ⟨_, .ch (fun z => hc (.inl z)) (fun z => hc (.inr z)) ho⟩
/-- the text of an arg -/
def argS : V → SS
  | .str z => z.cps.toList
  | .int i => (Str.ofString (toString i)).cps.toList
  | _ => []
/-- args as the text model takes them -/
def PArg (v : V) : Prop := (∃ z : Str, v = .str z ∧ z.length ≤ 2000) ∨ ∃ i : Int, v = .int i ∧ i.natAbs < 2 ^ 63
def catS (vs : List Str) : SS := (vs.map fun z => z.cps.toList).flatten
theorem tx_toList (z : Str) : tx z.cps.toList = z := by
  show (⟨z.cps.toList.toArray⟩ : Str) = z
  rw [Array.toArray_toList]
theorem join_cat : ∀ vs : List Str, Txt.join "" vs = tx (catS vs) := fun vs => by
  refine TL.ext_tl ?_
  rw [TL.join_eq, TL.tl_join]
  show TL.joinL [] (vs.map TL.tl) = TL.tl (tx (catS vs))
  have e : TL.tl (tx (catS vs)) = catS vs := rfl
  rw [e]
  unfold catS
  have e2 : ∀ ws : List (List Nat), TL.joinL [] ws = ws.flatten := fun ws => by
    induction ws with
    | nil => rfl
    | cons a r ih =>
      cases r with
      | nil => show a = a ++ []; rw [List.append_nil]
      | cons b r => show a ++ ([] ++ TL.joinL [] (b :: r)) = _; rw [ih]; rfl
  rw [e2]
theorem catS_len (vs : List Str) : (vs.map (·.length)).sum = (catS vs).length := by
  unfold catS
  rw [List.length_flatten, List.map_map]; rfl
theorem catS_snoc (vs : List Str) (z : Str) : catS (vs ++ [z]) = catS vs ++ z.cps.toList := by unfold catS; simp
end
end K17

set_option Elab.async false
set_option linter.all false
set_option maxRecDepth 100000
set_option maxHeartbeats 0
namespace K17
open PySem PySem.Spec PyProof.Rows L2 RC
section
variable {P : Program} {w : World} {K : PySem.W.Frag} {mg : Str → Option Value} {base : Heap}
/-! ### cuts of texts -/
theorem sIx_nat' {n d k : Nat} (h : k ≤ n) : HT.sIx n d (some (k : Int)) = k := by
  unfold HT.sIx; dsimp only; rw [if_neg (by omega)]; show min ((k : Int).toNat) n = k; omega
theorem cut_nat {z : Str} {a b : Nat} (ha : a ≤ z.length) (hb : b ≤ z.length) : cutS z (some (a : Int)) (some (b : Int)) = tx ((z.cps.toList.drop a).take (b - a)) := by
  unfold cutS
  rw [sIx_nat' ha, sIx_nat' hb]
theorem cut_one {z : Str} {a : Nat} (ha : a ≤ z.length) : cutS z (some (a : Int)) (some ((a : Int) + 1)) = tx ((z.cps.toList.drop a).take 1) := by
  have hl : z.cps.toList.length = z.length := Array.length_toList ..
  by_cases c : a + 1 ≤ z.length
  · have := cut_nat ha c
    rw [show ((a + 1 : Nat) : Int) = (a : Int) + 1 by omega, show a + 1 - a = 1 by omega] at this
    exact this
  · unfold cutS
    have d0 : z.cps.toList.drop a = [] := List.drop_eq_nil_of_le (by omega)
    rw [sIx_nat' ha, d0, List.take_nil, List.take_nil]
theorem tx_inj {a b : List Nat} (h : tx a = tx b) : a = b := congrArg (fun s => s.cps.toList) h
theorem take_snoc {α : Type} {xs : List α} {i : Nat} {x : α} (h : xs[i]? = some x) : xs.take (i + 1) = xs.take i ++ [x] := by
  obtain ⟨h1, h2⟩ := List.getElem?_eq_some_iff.mp h
  rw [← h2, List.take_append_getElem]
theorem cut_list (l : List Nat) {a b : Nat} (h : a ≤ b) : (l.drop (min a l.length)).take (min b l.length - min a l.length) = (l.drop a).take (b - a) := by
  by_cases ha : a ≤ l.length
  · rw [Nat.min_eq_left ha]
    by_cases hb : b ≤ l.length
    · rw [Nat.min_eq_left hb]
    · rw [Nat.min_eq_right (by omega), List.take_of_length_le (by rw [List.length_drop]; exact Nat.le_refl _), List.take_of_length_le (by rw [List.length_drop]; omega)]
  · rw [List.drop_eq_nil_of_le (by omega), List.drop_eq_nil_of_le (show l.length ≤ a by omega), List.take_nil, List.take_nil]
theorem cut_ab {z : Str} {a b : Nat} (h : a ≤ b) : cutS z (some (a : Int)) (some (b : Int)) = tx ((z.cps.toList.drop a).take (b - a)) := by
  have hl : z.cps.toList.length = z.length := Array.length_toList ..
  unfold cutS
  rw [HT.sIx_nat, HT.sIx_nat, ← hl, cut_list _ h]
theorem cut_to {z : Str} {b : Nat} : cutS z none (some (b : Int)) = tx (z.cps.toList.take b) := by
  have hl : z.cps.toList.length = z.length := Array.length_toList ..
  have := cut_list z.cps.toList (Nat.zero_le b)
  unfold cutS
  rw [HT.sIx_nat, ← hl]
  rw [Nat.zero_min] at this
  exact congrArg tx this
theorem cut_from {z : Str} {a : Nat} : cutS z (some (a : Int)) none = tx (z.cps.toList.drop a) := by
  have hl : z.cps.toList.length = z.length := Array.length_toList ..
  unfold cutS
  rw [HT.sIx_nat, ← hl]
  show tx ((z.cps.toList.drop (min a z.cps.toList.length)).take (z.length - min a z.cps.toList.length)) = _
  refine congrArg tx ?_
  by_cases ha : a ≤ z.cps.toList.length
  · rw [Nat.min_eq_left ha, List.take_of_length_le (by rw [List.length_drop]; omega)]
  · rw [Nat.min_eq_right (by omega), List.drop_length, List.take_nil, List.drop_eq_nil_of_le (by omega)]
theorem tx_of (z : Str) : tx z.cps.toList = z := by
  show (⟨z.cps.toList.toArray⟩ : Str) = z
  rw [Array.toArray_toList]
theorem tx_len (l : List Nat) : (tx l).length = l.length := List.size_toArray ..
theorem tx_beq (a b : List Nat) : (tx a == tx b) = decide (a = b) := by
  by_cases h : a = b
  · subst h; rw [decide_eq_true rfl]; exact beq_self_eq_true _
  · rw [decide_eq_false h]; exact beq_eq_false_iff_ne.mpr fun e => h (tx_inj e)
theorem tx_dec (a b : List Nat) : decide (V.str (tx a) = V.str (tx b)) = decide (a = b) := by
  by_cases h : a = b
  · subst h; rw [decide_eq_true rfl, decide_eq_true rfl]
  · rw [decide_eq_false h, decide_eq_false fun e => h (tx_inj (V.str.inj e))]
theorem inV_tx (l : List Nat) : ∀ ls : List (List Nat), inV (.str (tx l)) (ls.map fun m => V.str (tx m)) = decide (l ∈ ls)
  | [] => rfl
  | m :: r => by
    have ih := inV_tx l r
    unfold inV at ih ⊢
    rw [List.map_cons, List.any_cons, ih]
    show ((tx m == tx l) || _) = _
    rw [tx_beq]
    by_cases h : m = l
    · subst h
      rw [decide_eq_true rfl, decide_eq_true List.mem_cons_self]; rfl
    · rw [decide_eq_false h, Bool.false_or]
      exact decide_eq_decide.mpr ⟨fun q => List.mem_cons_of_mem _ q, fun q => (List.mem_cons.mp q).resolve_left fun e => h e.symm⟩
theorem s_empty : Str.ofString "" = tx [] := by decide +kernel
theorem s_open : Str.ofString "{" = tx [123] := by decide +kernel
theorem s_close : Str.ofString "}" = tx [125] := by decide +kernel
theorem s_open2 : Str.ofString "{{" = tx [123, 123] := by decide +kernel
theorem s_close2 : Str.ofString "}}" = tx [125, 125] := by decide +kernel
theorem s_blank : Str.ofString " " = tx [32] := by decide +kernel
theorem s_bangr : Str.ofString "!r" = tx [33, 114] := by decide +kernel
theorem s_bangs : Str.ofString "!s" = tx [33, 115] := by decide +kernel
theorem s_bang : Str.ofString "!" = tx [33] := by decide +kernel
theorem s_colon : Str.ofString ":" = tx [58] := by decide +kernel
theorem seq_doc {u : TS} {D : Ends} {σ : L2.St} {H : Hp} (h : u D σ H) : tSeq tNext u D σ H := h
theorem cut_two {z : Str} {a : Nat} (ha : a ≤ z.length) : cutS z (some (a : Int)) (some ((a : Int) + 2)) = tx ((z.cps.toList.drop a).take 2) := by
  have hl : z.cps.toList.length = z.length := Array.length_toList ..
  by_cases c : a + 2 ≤ z.length
  · have := cut_nat ha c
    rw [show ((a + 2 : Nat) : Int) = (a : Int) + 2 by omega, show a + 2 - a = 2 by omega] at this
    exact this
  · have e : HT.sIx z.length z.length (some ((a : Int) + 2)) = z.length := by
      have := HT.sIx_nat z.length z.length (a + 2)
      rw [show ((a + 2 : Nat) : Int) = (a : Int) + 2 by omega] at this
      rw [this]; omega
    unfold cutS
    rw [e, sIx_nat' ha, List.take_of_length_le (by rw [List.length_drop, hl]; exact Nat.le_refl _), List.take_of_length_le (by rw [List.length_drop, hl]; omega)]
end
end K17

set_option Elab.async false
set_option linter.all false
set_option maxRecDepth 100000
set_option maxHeartbeats 0
namespace K17
open PySem PySem.Spec PyProof.Rows L2 RC
section
variable {P : Program} {w : World} {K : PySem.W.Frag} {mg : Str → Option Value} {base : Heap}
/-! ### records -/
/-- a list or a tuple -/
def AX (K : PySem.W.Frag) (H : Hp) (a : Addr) (xs : List V) : Prop := H a = some (.lst xs) ∨ SqT K H a xs
theorem AX.but {H H' : Hp} {a p : Addr} {xs : List V} {C dx : Addr} {fs : List (Str × V)} (e : SameBut p H H') (hp : H p = some (.ins C dx fs)) (h : AX K H a xs) : AX K H' a xs := by
  rcases h with h | (h | ⟨o, h⟩) | h
  · exact .inl (e _ _ (fun z => by rw [z, hp] at h; cases h) h)
  · exact .inr (.inl (.inl (e _ _ (fun z => by rw [z, hp] at h; cases h) h)))
  · exact .inr (.inl (.inr ⟨o, e _ _ (fun z => by rw [z, hp] at h; cases h) h⟩))
  · exact .inr (.inr h)
theorem AX.same {H H' : Hp} {a : Addr} {xs : List V} (e : Same H H') (h : AX K H a xs) : AX K H' a xs := by
  rcases h with h | (h | ⟨o, h⟩) | h
  · exact .inl (e _ _ h)
  · exact .inr (.inl (.inl (e _ _ h)))
  · exact .inr (.inl (.inr ⟨o, e _ _ h⟩))
  · exact .inr (.inr h)
def recF (name : Str) (lv : Int) (ln msg : Str) (g : Addr) (clk : Int) (e : Addr) : List (Str × V) := [("name", .str name), ("levelno", .int lv), ("levelname", .str ln), ("msg", .str msg), ("given", .ref g), ("created", .int clk), ("extra", .ref e)]
def spRecInit (K : PySem.W.Frag) : Sp := fun vs H Q _ => ∃ (p dx a d : Addr) (name ln msg : Str) (lv clk : Int) (xs : List V), vs = [.ref p, .str name, .int lv, .str ln, .str msg, .ref a, .int clk, .ref d] ∧ H p = some (.ins (CR K) dx []) ∧ AX K H a xs ∧ (∀ x ∈ xs, PlainV x) ∧ xs.length ≤ 1000 ∧ H d = some (.dK []) ∧
  ∀ (H' : Hp) (g e : Addr), SameBut p H H' → H' p = some (.ins (CR K) dx (recF name lv ln msg g clk e)) → H' g = some (.tup xs) → H' e = some (.dK []) → H g = none → H e = none → Q .non H'
theorem SameBut.free {p t : Addr} {H H' : Hp} (b : SameBut p H H') (n : t ≠ p) (h : H' t = none) : H t = none := by
  cases z : H t with
  | none => rfl
  | some o => rw [b _ _ n z] at h; cases h
theorem ok_rec_init {f : Addr} (T : Txt P w K mg) (F : Stands K "__init__" "LogRecord.__init__" s_LogRecord_init [] f) (c_copied_value : Callable P w K mg base 3 (He.ga K "copied_value") ["thing"] [] (spCopied K 2)) :
    Callable P w K mg base 4 f ["self", "name", "levelno", "levelname", "msg", "args", "created", "extra"] [] (spRecInit K) := by
  refine F.call0 sc_LogRecord_init (fun vs H Q E h => ?_) (fun cdv A outer s H vs Q E hr h => ?_) (fun _ _ _ _ _ _ us hl => match us, hl with | [_, _, _, _, _, _, _, _], _ => rfl)
  · obtain ⟨p, dx, a, d, name, ln, msg, lv, clk, xs, rfl, _⟩ := h; rfl
  obtain ⟨p, dx, a, d, name, ln, msg, lv, clk, xs, rfl, hp, hT, hx, hl, hD, hQ⟩ := h
  refine ⟨_, (pss_cons (ps_fld (pv 0) (pv 1) rfl)
      (pss_cons (ps_fld (pv 0) (pv 2) rfl)
      (pss_cons (ps_fld (pv 0) (pv 3) rfl)
      (pss_cons (ps_fld (pv 0) (pv 4) rfl)
      (pss_cons (ps_fld (pv 0) (pe_fn T.g_copied_value c_copied_value (hr.mono (by first | decide | exact Nat.le_refl _)) (by rfl) (pa_cons (pe_callTy call_tuple_of (by rfl) T.b_tuple (by decide +kernel) (pa_cons (pv 5) pa_nil)) pa_nil)) rfl)
      (pss_cons (ps_fld (pv 0) (pv 6) rfl)
      (pss_one (ps_fld (pv 0) (pe_fn T.g_copied_value c_copied_value (hr.mono (by first | decide | exact Nat.le_refl _)) (by rfl) (pa_cons (pv 7) pa_nil)) rfl)))))))), ?_⟩
  refine ⟨_, rfl, _, rfl, p, _, dx, _, rfl, hp, T.c_LogRecord, T.n_LogRecord_name, (by show 0 < 1000; decide), ?_⟩
  refine ⟨_, rfl, _, rfl, p, _, dx, _, rfl, upd_same, T.c_LogRecord, T.n_LogRecord_levelno, (by show 1 < 1000; decide), ?_⟩
  rw [upd_upd]
  refine ⟨_, rfl, _, rfl, p, _, dx, _, rfl, upd_same, T.c_LogRecord, T.n_LogRecord_levelname, (by show 2 < 1000; decide), ?_⟩
  rw [upd_upd]
  refine ⟨_, rfl, _, rfl, p, _, dx, _, rfl, upd_same, T.c_LogRecord, T.n_LogRecord_msg, (by show 3 < 1000; decide), ?_⟩
  rw [upd_upd]
  generalize e1 : upd H p _ = H1
  have b1 : SameBut p H H1 := by rw [← e1]; exact SameBut.put
  have p1 : H1 p = some (.ins (CR K) dx [("name", .str name), ("levelno", .int lv), ("levelname", .str ln), ("msg", .str msg)]) := by rw [← e1]; exact upd_same
  clear e1
  dsimp only
  refine seq_of (fun σ' H3 => σ' = L2.start nm_LogRecord_init [.ref p, .str name, .int lv, .str ln, .str msg, .ref a, .int clk, .ref d] ∧ ∃ t, SameBut p H1 H3 ∧ H1 t = none ∧ H3 t = some (.tup xs) ∧ H3 p = some (.ins (CR K) dx [("name", .str name), ("levelno", .int lv), ("levelname", .str ln), ("msg", .str msg), ("given", .ref t)])) (fun b' kb => ?_) (fun σ' H3 hm => ?_)
  · have fin : ∀ (H2 : Hp) (t u : Addr), Same H1 H2 → H1 t = none → H2 t = some (.tup xs) → t ≠ p ∧ SameBut p H1 (upd H2 p (.ins (CR K) dx [("name", .str name), ("levelno", .int lv), ("levelname", .str ln), ("msg", .str msg), ("given", .ref u)])) := fun H2 t u s2 n2 t2 => ⟨fun z => (by rw [z, p1] at n2; cases n2), (SameBut.of s2).trans SameBut.put⟩
    rcases AX.but b1 hp hT with hT1 | hT1
    · refine ⟨_, rfl, a, xs, rfl, .inl ⟨SqL.of hT1, fun t ht => ?_⟩⟩
      refine .inr (.inl ⟨t, xs, rfl, (by decide), SqT.of upd_same, hx, hl, fun H2 g s2 n2 g2 => ?_⟩)
      have s12 := (same_new ht _).trans s2
      have n1 : H1 g = none := (same_new ht (.tup xs)).free n2
      obtain ⟨ng, sb⟩ := fin H2 g g s12 n1 g2
      refine ⟨_, rfl, p, _, dx, _, rfl, s12 _ _ p1, T.c_LogRecord, T.n_LogRecord_given, (by show 4 < 1000; decide), ?_⟩
      exact kb _ _ ⟨rfl, g, sb, n1, by rw [upd_ne ng]; exact g2, upd_same⟩
    · refine ⟨_, rfl, a, xs, rfl, .inr ⟨hT1, ?_⟩⟩
      refine .inr (.inl ⟨a, xs, rfl, (by decide), hT1, hx, hl, fun H2 g s2 n2 g2 => ?_⟩)
      obtain ⟨ng, sb⟩ := fin H2 g g s2 n2 g2
      refine ⟨_, rfl, p, _, dx, _, rfl, s2 _ _ p1, T.c_LogRecord, T.n_LogRecord_given, (by show 4 < 1000; decide), ?_⟩
      exact kb _ _ ⟨rfl, g, sb, n2, by rw [upd_ne ng]; exact g2, upd_same⟩
  obtain ⟨rfl, t, b3, n3, t3, p3⟩ := hm
  refine ⟨_, rfl, _, rfl, p, _, dx, _, rfl, p3, T.c_LogRecord, T.n_LogRecord_created, (by show 5 < 1000; decide), ?_⟩
  have ntp : t ≠ p := fun z => by rw [z, p1] at n3; cases n3
  have ndp : d ≠ p := fun z => by rw [z, hp] at hD; cases hD
  generalize e3 : upd H3 p _ = H5
  have b5 : SameBut p H3 H5 := by rw [← e3]; exact SameBut.put
  have p5 : H5 p = some (.ins (CR K) dx [("name", .str name), ("levelno", .int lv), ("levelname", .str ln), ("msg", .str msg), ("given", .ref t), ("created", .int clk)]) := by rw [← e3]; exact upd_same
  clear e3
  have d5 : H5 d = some (.dK []) := b5 _ _ ndp (b3 _ _ ndp (b1 _ _ ndp hD))
  refine ⟨_, rfl, .inr (.inr ⟨d, rfl, (by decide), d5, fun H4 e s4 n4 e4 => ?_⟩)⟩
  refine ⟨_, rfl, p, _, dx, _, rfl, s4 _ _ p5, T.c_LogRecord, T.n_LogRecord_extra, (by show 6 < 1000; decide), ?_⟩
  have nep : e ≠ p := fun z => by rw [z, p5] at n4; cases n4
  refine hQ _ t e ?_ upd_same ?_ ?_ ?_ ?_
  · exact ((b1.trans b3).trans (b5.trans (SameBut.of s4))).trans SameBut.put
  · rw [upd_ne ntp]; exact s4 _ _ (b5 _ _ ntp t3)
  · rw [upd_ne nep]; exact e4
  · exact b1.free ntp n3
  · exact b1.free nep (b3.free nep (b5.free nep n4))
end
end K17

set_option Elab.async false
set_option linter.all false
set_option maxRecDepth 100000
set_option maxHeartbeats 0

namespace K17
open PySem PySem.Spec PyProof.Rows L2 RC
section
variable {P : Program} {w : World} {K : PySem.W.Frag} {mg : Str → Option Value} {base : Heap}
/-! ### make_record, of a number and no args -/
def NmsOk (nms : List (Key × V)) : Prop := ∀ k v, valV nms k = some v → ∃ z : Str, v = .str z
def lvName (nms : List (Key × V)) (i : Int) : Str := match valV nms (Sum.inl i) with
  | some (.str z) => z
  | _ => ("Level " : Str) ++ (toString i : Str)
def spLevelName (K : PySem.W.Frag) : Sp := fun vs H Q _ => ∃ (y dy na : Addr) (fs : List (Str × V)) (nms : List (Key × V)) (i : Int), vs = [.ref y, .int i] ∧ H y = some (.ins (CY K) dy fs) ∧ fs.lookup ("names_of" : Str) = some (.ref na) ∧ H na = some (.dK nms) ∧ NmsOk nms ∧ i.natAbs < 2 ^ 63 ∧ Q (.str (lvName nms i)) H
theorem ok_level_name {f : Addr} (T : Txt P w K mg) (F : Stands K "level_name" "Yard.level_name" s_Yard_level_name [] f) : Callable P w K mg base 1 f ["self", "level"] [] (spLevelName K) := by
  refine F.call0 sc_Yard_level_name (fun vs H Q E h => ?_) (fun cdv A outer s H vs Q E hr h => ?_) (fun _ _ _ _ _ _ us hl => match us, hl with | [_, _], _ => rfl)
  · obtain ⟨y, dy, na, fs, nms, i, rfl, _⟩ := h; rfl
  obtain ⟨y, dy, na, fs, nms, i, rfl, hy, hn, hna, hz, hi, hQ⟩ := h
  refine ⟨_, (pss_one (ps_ret (pe_ifExp (pt_cmp (pc_din (hu_of hr) (pv 1) (pe_fld (pv 0) rfl))) (pe_dget (hu_of hr) (pe_fld (pv 0) rfl) (pv 1) (fun _ _ => rfl)) (pe_op op_add_str pe_str (pe_callTy call_str_int (by rfl) T.b_str (by decide +kernel) (pa_cons (pv 1) pa_nil)))))), ?_⟩
  walk_at "in"
  unfold lvName at hQ
  cases e : valV nms (Sum.inl i) with
  | some v =>
    obtain ⟨z, rfl⟩ := hz _ _ e
    rw [e] at hQ
    walk_at "go"
    exact hQ
  | none =>
    rw [e] at hQ
    walk_at "go"
    have hl := RN.len_toString i
    have hl2 : i.natAbs.log2 < 63 := by
      by_cases c : i.natAbs = 0
      · rw [c]; decide
      · exact (Nat.log2_lt c).mpr hi
    refine ⟨by omega, _, _, rfl, rfl, ?_, hQ⟩
    show 6 + (Str.ofString (toString i)).length ≤ sizeLine
    rw [sizeLine_eq]; omega
/-- a record as the yard makes it, without extra -/
def RecAt (K : PySem.W.Frag) (H : Hp) (r : Addr) (name : Str) (lv : Int) (ln msg : Str) (clk : Int) (xs : List V) : Prop := ∃ dx g e, H r = some (.ins (CR K) dx (recF name lv ln msg g clk e)) ∧ H g = some (.tup xs) ∧ H e = some (.dK [])
theorem RecAt.same {H H' : Hp} {r : Addr} {name : Str} {lv : Int} {ln msg : Str} {clk : Int} {xs : List V} (h : RecAt K H r name lv ln msg clk xs) (s : Same H H') : RecAt K H' r name lv ln msg clk xs := by
  obtain ⟨dx, g, e, h1, h2, h3⟩ := h
  exact ⟨dx, g, e, s _ _ h1, s _ _ h2, s _ _ h3⟩
theorem RecAt.name {H : Hp} {r : Addr} {name : Str} {lv : Int} {ln msg : Str} {clk : Int} {xs : List V} (h : RecAt K H r name lv ln msg clk xs) : RecName K H r name := by
  obtain ⟨dx, g, e, h1, _⟩ := h
  exact ⟨dx, _, h1, rfl⟩
def spMakeRecord (K : PySem.W.Frag) : Sp := fun vs H Q _ => ∃ (y dy na nu a : Addr) (fs : List (Str × V)) (nms nums : List (Key × V)) (name msg : Str) (lv clk : Int) (xs : List V), vs = [.ref y, .str name, .int lv, .str msg, .ref a, .non] ∧ AX K H a xs ∧ (∀ x ∈ xs, PlainV x) ∧ xs.length ≤ 1000 ∧ H y = some (.ins (CY K) dy fs) ∧
  fs.lookup ("names_of" : Str) = some (.ref na) ∧ fs.lookup ("numbers_of" : Str) = some (.ref nu) ∧ fs.lookup ("clock" : Str) = some (.int clk) ∧ fs.lookup ("level_of" : Str) = none ∧ fs.lookup ("level_name" : Str) = none ∧ H na = some (.dK nms) ∧ H nu = some (.dK nums) ∧ NmsOk nms ∧ lv.natAbs < 2 ^ 63 ∧
  ∀ (H' : Hp) (r g e : Addr), Same H H' → H r = none → H g = none → H e = none → (∃ dx, H' r = some (.ins (CR K) dx (recF name lv (lvName nms lv) msg g clk e))) → H' g = some (.tup xs) → H' e = some (.dK []) → Q (.ref r) H'
theorem body_make_record {f : Addr} (T : Txt P w K mg) {cdv : Value} {A : Around} {outer : List Env} {st0 : Shared} {E : XK} {vs : List V} {H : Hp} {Q : VK} (hr : Room 5 (A.deeper (envOfC "Yard.make_record" (defScope s_Yard_make_record) st0.heap.objs.size f cdv))) (h : spMakeRecord K vs H Q E)
    (c_Yard_level_of : Callable P w K mg base 2 (He.ma K (He.ga K "Yard") "level_of") ["self", "level"] [] (spLevelOf K)) (c_Yard_level_name : Callable P w K mg base 1 (He.ma K (He.ga K "Yard") "level_name") ["self", "level"] [] (spLevelName K))
    (c_LogRecord_init : Callable P w K mg base 4 (He.ma K (He.ga K "LogRecord") "__init__") ["self", "name", "levelno", "levelname", "msg", "args", "created", "extra"] [] (spRecInit K)) :
    ∃ t, PSs (cxOf CX0 P w K mg base nm_Yard_make_record "Yard.make_record" (defScope s_Yard_make_record) f cdv A outer st0 H E).nox (defBody s_Yard_make_record) t ∧ t { nx := fun _ H' => Q .non H', rt := Q } (start nm_Yard_make_record vs) H := by
  obtain ⟨y, dy, na, nu, a, fs, nms, nums, name, msg, lv, clk, xs, rfl, hT, hx, hl, hy, hna, hnu, hck, hlo, hln, gna, gnu, hz, hlv, hQ⟩ := h
  refine ⟨_, (pss_cons (ps_set (i := 6) sc_Yard_make_record.nd rfl (by first | exact Or.inl rfl | exact Or.inr rfl) (pe_mt T.c_Yard T.m_Yard_level_of c_Yard_level_of (hr.mono (by first | decide | exact Nat.le_refl _)) (pv 0) (pa_cons (pv 2) pa_nil)))
      (pss_cons (ps_set (i := 7) sc_Yard_make_record.nd rfl (by first | exact Or.inl rfl | exact Or.inr rfl) (pe_ifExp (pt_cmpR op_isN (pv 5) pe_non (nomark _)) pe_dnewK (pv 5)))
      (pss_cons (ps_set (i := 8) sc_Yard_make_record.nd rfl (by first | exact Or.inl rfl | exact Or.inr rfl) (pe_callB cr_sortedS (by rfl) T.b_sorted (by decide +kernel) (pa_cons (pe_lock (pe_lc (own := [("key", 9)]) (by rfl) sc_Yard_make_record.nd (pi_keys (pv 7)) (blkOk_by (own := [("key", 9)]) (N := nm_Yard_make_record) (sc := defScope s_Yard_make_record) (by decide +kernel)) (fun _ _ _ _ _ => (pg_name (i := 9) sc_Yard_make_record.nd rfl (by first | exact Or.inl rfl | exact Or.inr rfl))) (fun _ _ _ _ _ => (pts_one pt_never)) (fun _ _ _ _ _ => (pv 9)))) pa_nil)))
      (pss_cons (ps_if (pt_cmpR (op_neD hr.units) (pv 8) (pe_lst pa_nil) (nomark _)) (pss_one ps_never) pss_nil)
      (pss_one (ps_ret (pe_mk T.k_LogRecord T.g_LogRecord c_LogRecord_init (hr.mono (by first | decide | exact Nat.le_refl _)) (by rfl) (pa_cons (pv 1) (pa_cons (pv 6) (pa_cons (pe_mt T.c_Yard T.m_Yard_level_name c_Yard_level_name (hr.mono (by first | decide | exact Nat.le_refl _)) (pv 0) (pa_cons (pv 6) pa_nil)) (pa_cons (pv 3) (pa_cons (pv 4) (pa_cons (pe_fld (pv 0) rfl) (pa_cons (pv 7) pa_nil)))))))))))))), ?_⟩
  -- number = self.level_of(level)
  refine ⟨_, rfl, y, dy, fs, rfl, hy, hlo, _, rfl, y, dy, nu, fs, nums, .int lv, .int lv, rfl, hy, hnu, gnu, rfl, ?_⟩
  -- more = {}
  refine ⟨_, rfl, rfl, _, rfl, iteT' (by rfl) fun m hm => ?_⟩
  have s1 : Same H (upd H m (.dK [])) := same_new hm _
  -- bad = sorted([..])
  refine ⟨m, _, upd_same, trivial, fun od => ?_⟩
  refine ⟨_, rfl, m, od, rfl, .inl ⟨[], upd_same, fun D hD => ?_⟩⟩
  have hD' : upd H m (.dK []) D = none := (upd_none hD).2
  refine lc_it walk_keys (fun i H' => H' = upd (upd (upd H m (.dK [])) m (.frz od (.dK []))) D (.lst [])) rfl (fun i H' _ h => ?_) (fun i x H' H'' hi => nomatch hi) (fun H' h => ?_)
  · subst h; rw [upd_ne (Ne.symm (upd_none hD).1)]; exact upd_same
  subst h
  refine ⟨by rw [upd_ne (Ne.symm (upd_none hD).1)]; exact upd_same, ?_⟩
  rw [unlock upd_same hD]
  have s2 := s1.trans (same_new hD' (.lst []))
  refine ⟨D, [], rfl, SqL.of upd_same, (by decide), fun ys q hp _ hq => ?_⟩
  have e0 : ys = [] := hp.eq_nil
  subst e0
  have s3 := s2.trans (same_new hq (.lst ([].map V.str)))
  -- if bad != []
  refine ⟨_, rfl, (by show 0 ≤ sizeLine; decide), fun q2 hq2 => ?_⟩
  have s4 := s3.trans (same_new hq2 (.lst []))
  refine ⟨_, _, Dp.lst (SqL.of (by rw [upd_ne (ne_of_none upd_same hq2)]; exact upd_same)) .nil, Dp.lst (SqL.of upd_same) .nil, by decide +kernel, by decide +kernel, _, rfl, iteF' (by decide +kernel) ?_⟩
  have m4 : (upd (upd (upd (upd H m (.dK [])) D (.lst [])) q (.lst ([].map V.str))) q2 (.lst [])) m = some (.dK []) := by
    have k1 : upd H m (.dK []) m = some (.dK []) := upd_same
    exact (same_new hq2 _) _ _ ((same_new hq _) _ _ ((same_new hD' _) _ _ k1))
  generalize upd (upd (upd (upd H m (.dK [])) D (.lst [])) q (.lst ([].map V.str))) q2 (.lst []) = H4 at s4 m4
  have hT4 := hT.same s4
  have g1 := s4 _ _ hy
  have g2 := s4 _ _ gna
  refine ⟨_, rfl, _, rfl, _, rfl, y, dy, fs, rfl, g1, hln, _, rfl, y, dy, na, fs, nms, lv, rfl, g1, hna, g2, hz, hlv, _, rfl, _, rfl, _, rfl, y, _, dy, fs, _, rfl, g1, T.c_Yard, T.n_Yard_clock, hck, _, rfl, fun x dx hx2 hdx hne => ?_⟩
  have sx : Same H4 (upd (upd H4 dx (.own x)) x (.ins (CR K) dx [])) := made_same hx2 hdx (fun _ _ _ e => e)
  refine ⟨x, dx, a, m, name, _, msg, lv, clk, xs, rfl, upd_same, hT4.same sx, hx, hl, sx _ _ m4, fun H' g e b5 h5' hg he g0 e0 => ⟨rfl, ?_⟩⟩
  have f0 : ∀ b, upd (upd H4 dx (.own x)) x (.ins (CR K) dx []) b = none → H b = none := fun b hb => s4.free (upd_none (upd_none hb).2).2
  exact hQ H' x g e (s4.trans (made_same hx2 hdx b5)) (s4.free hx2) (f0 _ g0) (f0 _ e0) ⟨dx, h5'⟩ hg he
theorem ok_make_record {f : Addr} (T : Txt P w K mg) (F : Stands K "make_record" "Yard.make_record" s_Yard_make_record [.ref (He.dflAt ("Yard", some "make_record") 0 K), .non] f)
    (c_Yard_level_of : Callable P w K mg base 2 (He.ma K (He.ga K "Yard") "level_of") ["self", "level"] [] (spLevelOf K)) (c_Yard_level_name : Callable P w K mg base 1 (He.ma K (He.ga K "Yard") "level_name") ["self", "level"] [] (spLevelName K))
    (c_LogRecord_init : Callable P w K mg base 4 (He.ma K (He.ga K "LogRecord") "__init__") ["self", "name", "levelno", "levelname", "msg", "args", "created", "extra"] [] (spRecInit K)) :
    Callable P w K mg base 6 f ["self", "name", "level", "msg", "args", "extra"] [.non] (spMakeRecord K) := by
  have len : ∀ vs H Q E, spMakeRecord K vs H Q E → vs.length = 6 := fun vs H Q E h => by
    obtain ⟨y, dy, na, nu, a, fs, nms, nums, name, msg, lv, clk, xs, rfl, _⟩ := h; rfl
  exact F.call sc_Yard_make_record 5 1 len (fun cdv A outer s H vs Q E hr h => body_make_record T hr h c_Yard_level_of c_Yard_level_name c_LogRecord_init) (fun z => nomatch z) fun _ => ⟨rfl, fun _ _ _ _ _ _ _ us its hl hi => match us, hl, its, hi with | [_, _, _, _, _], _, [_, _], _ => ⟨_, rfl, rfl⟩⟩
end
end K17

set_option Elab.async false
set_option linter.all false
set_option maxRecDepth 100000
set_option maxHeartbeats 4000000
/-! Defs that may raise own errors, calls of them, raise, except X as e of several clauses. -/
namespace RQ
open PySem PySem.Spec PyProof.Rows L2 RC
/-- as Callable, where an error may leave the def -/
def CallX (P : Program) (w : World) (K : PySem.W.Frag) (mg : Str → Option Value) (base : Heap) (k : Nat) (f : Addr) (ps : List Str) (dvs : List V) (sp : Sp) : Prop :=
  ∃ fd ds, FnOk P w K mg base (L2.CX P w) k f fd ps sp ∧ Vals dvs ds ∧ Binds K fd ps ds ∧ PySem.W.keepIn K (.ref f) = true
section
variable {P : Program} {w : World} {K : PySem.W.Frag} {mg : Str → Option Value} {base : Heap} {x qual : Str} {dvs : List V} {f : Addr} {k : Nat} {N ps : List Str} {sp : Sp}
theorem CallX.up {j : Nat} (c : CallX P w K mg base j f ps dvs sp) (h : j ≤ k) : CallX P w K mg base k f ps dvs sp :=
  let ⟨fd, ds, F, r⟩ := c
  ⟨fd, ds, F.mono h, r⟩
theorem stands_callX {st : Stmt} (F : Stands K x qual st dvs f) (S : FnScope N ps (defScope st)) (n j : Nat) (len : ∀ vs H Q E, sp vs H Q E → vs.length = ps.length)
    (hbody : ∀ (cdv : Value) (A : Around) (outer : List Env) (s : Shared) (H : Hp) (vs : List V) (Q : VK) (E : XK), Room k (A.deeper (envOfC qual (defScope st) s.heap.objs.size f cdv)) → sp vs H Q E →
      ∃ t, PSs (cxOf (L2.CX P w) P w K mg base N qual (defScope st) f cdv A outer s H E) (defBody st) t ∧ t { nx := fun _ H' => Q .non H', rt := Q } (start N vs) H)
    (h0 : dvs = [] → n = ps.length ∧ ∀ (kV doc pm : Value) (an : Option Addr) (cdv ct : Value) (us : List Value), us.length = ps.length → bindArgs (PySem.W.fnOf x qual (defArgs st) (defBody st) (defScope st) .none kV doc pm an cdv ct) ⟨us, []⟩ = pure (ps.zip us))
    (h1 : dvs ≠ [] → n + (dvs.length - j) = ps.length ∧ ∀ (T : Addr) (kV doc pm : Value) (an : Option Addr) (cdv ct : Value) (us its : List Value), us.length = n → its.length = dvs.length →
      ∃ k, bindArgs (PySem.W.fnOf x qual (defArgs st) (defBody st) (defScope st) (.ref T) kV doc pm an cdv ct) ⟨us, []⟩ = seqItems? (.ref T) >>= k ∧ k (some its.toArray) = pure (ps.zip (us ++ its.drop j))) :
    CallX P w K mg base (k + 1) f ps (dvs.drop j) sp := by
  obtain ⟨fd, F⟩ := F
  have ok : FnOk P w K mg base (L2.CX P w) (k + 1) f fd ps sp := F.ok S len fun cdv A outer s H vs Q E hr hsp => hbody cdv A outer s H vs Q E hr hsp
  by_cases hd : dvs = []
  · subst hd
    exact ⟨fd, [], ok, by rw [List.drop_nil]; exact .nil, F.bindsN (h0 rfl).2, F.kp⟩
  · obtain ⟨ds, hv, hb⟩ := F.binds1 n j hd (h1 hd).1 (h1 hd).2
    exact ⟨fd, ds, ok, hv, hb, F.kp⟩
theorem stands_callX0 {st : Stmt} (F : Stands K x qual st [] f) (S : FnScope N ps (defScope st)) (len : ∀ vs H Q E, sp vs H Q E → vs.length = ps.length)
    (hbody : ∀ (cdv : Value) (A : Around) (outer : List Env) (s : Shared) (H : Hp) (vs : List V) (Q : VK) (E : XK), Room k (A.deeper (envOfC qual (defScope st) s.heap.objs.size f cdv)) → sp vs H Q E →
      ∃ t, PSs (cxOf (L2.CX P w) P w K mg base N qual (defScope st) f cdv A outer s H E) (defBody st) t ∧ t { nx := fun _ H' => Q .non H', rt := Q } (start N vs) H)
    (h0 : ∀ (kV doc pm : Value) (an : Option Addr) (cdv ct : Value) (us : List Value), us.length = ps.length → bindArgs (PySem.W.fnOf x qual (defArgs st) (defBody st) (defScope st) .none kV doc pm an cdv ct) ⟨us, []⟩ = pure (ps.zip us)) :
    CallX P w K mg base (k + 1) f ps [] sp := by
  obtain ⟨fd, F⟩ := F
  have ok : FnOk P w K mg base (L2.CX P w) (k + 1) f fd ps sp := F.ok S len fun cdv A outer s H vs Q E hr hsp => hbody cdv A outer s H vs Q E hr hsp
  exact ⟨fd, [], ok, .nil, F.bindsN h0, F.kp⟩
end
section
variable {X : Cx} {k : Nat} {f C : Addr} {ps : List Str} {sp : Sp} {dvs : List V} {x m : Str} {p pos apos : Pos} {e o : Expr} {es : List Expr} {ta : TE} {t : TA} {pl : Sem Bool} {W : WX}
/-- f(e, ..), where f may raise -/
theorem pe_fnX (tk : Takes X W) (hm : X.mg x = some (.ref f)) (c : CallX X.prog X.w X.K X.mg X.base k f ps dvs sp) (hr : Room k X.A) (hg : Gl X x) (ha : PA X (e :: es) t) (hdb : (x == ("__debug__" : Str)) = false := by decide)
    (he : starEach (e :: es) X.env = (false, eval e X.env) :: starEach es X.env := by rfl) (hpl : (backTo pos (starEach es X.env)).any (·.1) = false := by rfl) : PE X (.Call (.Name x p) (e :: es) [] pos) (tCallSD sp dvs (WE W) t) := by
  obtain ⟨fd, ds, F, hd, hb, hk⟩ := c
  exact pe_callSD F hr hg hm hk hb hd (fun σ => passAt tk σ) ha hdb he hpl
/-- o.m(e, ..), where m may raise -/
def tMethX (C : Addr) (m : Str) (sp : Sp) (dvs : List V) (E : L2.St → XK) (ta : TE) (t : TA) : TE := fun σ H Q => ta σ H fun x H1 => ∃ a dx fs, x = .ref a ∧ H1 a = some (.ins C dx fs) ∧ fs.lookup m = none ∧ t σ H1 fun vs H2 => sp (x :: (vs ++ dvs)) H2 Q (E σ)
theorem pe_mtX (tk : Takes X W) (cl : Cls X.K C) (hm : Meth X.K C m f) (c : CallX X.prog X.w X.K X.mg X.base k f ps dvs sp) (hr : Room k X.A) (he : PE X o ta) (ha : PA X (e :: es) t)
    (hst : starEach (e :: es) X.env = (false, eval e X.env) :: starEach es X.env := by rfl) (hpl : (backTo pos (starEach es X.env)).any (·.1) = false := by rfl)
    (ht : eval (.Call (.Attribute o m apos) (e :: es) [] pos) X.env = (do
      let ov ← eval o X.env
      standAt apos.atName
      let (f, first) ← holding [ov] (getMethod ov m pl)
      callWith pos f first (backTo pos (starEach (e :: es) X.env)) (backToKw pos (keywordEach [] X.env))) := by rfl) :
    PE X (.Call (.Attribute o m apos) (e :: es) [] pos) (tMethX C m sp dvs (WE W) ta t) := by
  obtain ⟨fd, ds, F, hd, hb, hk⟩ := c
  refine ⟨fun pins s σ H Q I h => ?_⟩
  refine PySem.W.methodCall_KW (pl := pl) (thn (he.run pins s σ H _ I h) fun u s1 ⟨z, H1, I1, rz, a, dx, fs, ez, ea, l, q⟩ => ?_) ht
  subst ez
  obtain rfl : u = Value.ref a := rz
  refine getmeth_ok I1 ea cl hm l ?_
  refine PySem.W.callWith_K (first := [.ref a]) (h₀ := X.base) I.ok.mod.kin hm.kp (thn (ha.run pos pins s1 σ H1 _ I1 q) fun us s2 ⟨ws, H2, I2, r, q2⟩ => ⟨I2.kIn, ?_⟩) hst hpl
  exact run_fnSD (us := .ref a :: us) (vs := .ref a :: ws) F hr hb hd (passAt tk σ) I2 (.cons rfl r) q2
/-- C(e, ..), where __init__ may raise -/
def tMakeX (C : Addr) (sp : Sp) (dvs : List V) (E : L2.St → XK) (t : TA) : TE := fun σ H Q => t σ H fun vs H1 => ∀ x dx, H1 x = none → H1 dx = none → dx ≠ x →
  sp (.ref x :: (vs ++ dvs)) (upd (upd H1 dx (.own x)) x (.ins C dx [])) (fun v H2 => v = .non ∧ Q (.ref x) H2) (E σ)
theorem pe_mkX (tk : Takes X W) (M : Mk X.K C f) (hm : X.mg x = some (.ref C)) (c : CallX X.prog X.w X.K X.mg X.base k f ps dvs sp) (hr : Room (k + 1) X.A) (hg : Gl X x) (ha : PA X (e :: es) t) (hdb : (x == ("__debug__" : Str)) = false := by decide)
    (he : starEach (e :: es) X.env = (false, eval e X.env) :: starEach es X.env := by rfl) (hpl : (backTo pos (starEach es X.env)).any (·.1) = false := by rfl) : PE X (.Call (.Name x p) (e :: es) [] pos) (tMakeX C sp dvs (WE W) t) := by
  obtain ⟨fd, ds, F, hd, hb, hk⟩ := c
  refine ⟨fun pins s σ H Q I h => ?_⟩
  refine wpAny_Call_Name_kw (ld_glob I hg hm ?_ hdb)
  refine PySem.W.callWith_K (h₀ := X.base) I.ok.mod.kin M.kp (thn (ha.run pos pins s σ H _ I h) fun us s1 ⟨ws, H1, I1, r, q⟩ => ⟨I1.kIn, ?_⟩) he hpl
  have big := Nat.le_succ s1.heap.objs.size
  have spx := q (s1.heap.objs.size + 1) s1.heap.objs.size (I1.hok.fresh big) (I1.hok.fresh (Nat.le_refl _)) (Nat.ne_of_lt (Nat.lt_succ_self _))
  have made := Inv.made (C := C) I1
  have rel : Vals (V.ref (s1.heap.objs.size + 1) :: (ws ++ dvs)) (Value.ref (s1.heap.objs.size + 1) :: (us ++ ds)) := .cons rfl (r.append hd)
  have len : (Value.ref (s1.heap.objs.size + 1) :: us ++ ds).length = ps.length := rel.length.symm.trans (F.len _ _ _ _ spx)
  have bind := hb _ (Value.ref (s1.heap.objs.size + 1) :: us) made.kIn len
  have env := made.env0.make C us []
  have room := hr.make C us []
  refine wpAny_call (make_map (f := f) I1.kIn M.makes M.init (beq_iff_eq.mp M.fn) (codeAny_mono (F.run _ X.stack _ _ ⟨Value.ref (s1.heap.objs.size + 1) :: us, []⟩ _ _ _ (WE W σ) room env bind rel spx) fun z s' hz => ?_))
  cases z with
  | error er => exact passAt tk σ pins _ _ er s' made hz
  | ok fl =>
    cases fl with
    | ret u =>
      obtain ⟨v, H', I3, rv, ev, q3⟩ := made.after hz
      subst ev
      exact ⟨rv, V.ref (s1.heap.objs.size + 1), H', I3, rfl, q3⟩
    | next => exact hz.elim
    | brk => exact hz.elim
    | cont => exact hz.elim
end
/-! ### raise X(e) -/
/-- __init__ of an own error: one field kept -/
def spExcInit (K : PySem.W.Frag) (f : Str) : Sp := fun vs H Q _ => ∃ (a C : Addr) (v : V), vs = [.ref a, v] ∧ RB.ExcF K C f ∧ H a = some (exo a C none) ∧ ∀ dx, H dx = none → dx ≠ a → Q .non (upd (upd H dx (exd dx [(f, v)])) a (exo a C (some dx)))
section
variable {X : Cx} {C : Addr} {f x : Str} {k : Nat} {ps : List Str} {e : Expr} {p pos pos2 : Pos} {ta : TA} {W : WX}
def tMkE (C : Addr) (f : Str) (ta : TA) : L2.St → Hp → XK → Prop := fun σ H Q => ta σ H fun vs H1 => ∃ v, vs = [v] ∧ ∀ d, H1 d = none → Q (.ref C) (some d) (upd H1 d (.xd [(f, v)]))
theorem mkE_of {K : PySem.W.Frag} {Q : XK} {vs : List V} {H1 : Hp} (T : RB.ExcF K C f) (h : ∃ v, vs = [v] ∧ ∀ d, H1 d = none → Q (.ref C) (some d) (upd H1 d (.xd [(f, v)]))) :
    vs.length ≤ 1000 ∧ ∀ a, H1 a = none → spExcInit K f (.ref a :: (vs ++ [])) (upd H1 a (exo a C none))
      (fun v H2 => v = .non ∧ ∃ (d : Addr) (fs : List (Str × V)), H2 a = some (exo a C (some d)) ∧ H2 d = some (exd d fs) ∧ H1 d = none ∧ Q (.ref C) (some d) (upd (del H2 a) d (.xd fs))) (fun _ _ _ => False) := by
  obtain ⟨v, rfl, h⟩ := h
  refine ⟨by show 1 ≤ 1000; decide, fun a ha => ⟨a, C, v, rfl, T, upd_same, fun dx hdx nd => ⟨rfl, dx, [(f, v)], upd_same, by rw [upd_ne nd, upd_same], ?_, ?_⟩⟩⟩
  · have := hdx
    rw [upd_ne nd] at this
    exact this
  · have hd : H1 dx = none := by have := hdx; rw [upd_ne nd] at this; exact this
    have e : upd (del (upd (upd (upd H1 a (exo a C none)) dx (exd dx [(f, v)])) a (exo a C (some dx))) a) dx (.xd [(f, v)]) = upd H1 dx (.xd [(f, v)]) := by
      funext b
      by_cases c : b = dx
      · rw [c, upd_same, upd_same]
      · rw [upd_ne c, upd_ne c]
        by_cases z : b = a
        · rw [z, del_same, ha]
        · rw [del_ne z, upd_ne z, upd_ne c, upd_ne z]
    rw [e]
    exact h dx hd
theorem pmk_exc (T : RB.ExcF X.K C f) (c : Callable X.prog X.w X.K X.mg X.base k (He.ma X.K C "__init__") ps [] (spExcInit X.K f)) (hr : Room (k + 1) X.A) (hm : X.mg x = some (.ref C)) (hg : Gl X x) (ha : PA X [e] ta)
    (hdb : (x == ("__debug__" : Str)) = false := by decide) (he : starEach (e :: []) X.env = (false, eval e X.env) :: starEach [] X.env := by rfl) (hpl : (backTo pos (starEach [] X.env)).any (·.1) = false := by rfl) :
    PMk X (.Call (.Name x p) [e] [] pos) (tMkE C f ta) := by
  obtain ⟨fd, ds, F, hd, hb, hk⟩ := c
  have m := pmk_oex (dvs := []) (x := x) (p := p) (pos := pos) T.ox T.ini T.ty F hr hb hd pass0 hg hm ha hdb he hpl
  intro pins s σ H Q I h
  have ha2 : PA X [e] (fun σ0 H0 K0 => ta σ0 H0 (fun vs H1 => ∃ v, vs = [v] ∧ ∀ d, H1 d = none → Q (.ref C) (some d) (upd H1 d (.xd [(f, v)]))) ∧
      ∀ vs H1, (∃ v, vs = [v] ∧ ∀ d, H1 d = none → Q (.ref C) (some d) (upd H1 d (.xd [(f, v)]))) → K0 vs H1) := ⟨fun pos0 pins0 s0 σ0 H0 K0 I0 h0 =>
    wpAny_mono (ha.run pos0 pins0 s0 σ0 H0 _ I0 h0.1) (fun us s1 hz => by
      obtain ⟨vs, H1, I1, r1, q1⟩ := hz
      exact ⟨vs, H1, I1, r1, h0.2 vs H1 q1⟩) (fun _ _ z => z)⟩
  exact pmk_oex (dvs := []) (x := x) (p := p) (pos := pos) T.ox T.ini T.ty F hr hb hd pass0 hg hm ha2 hdb he hpl pins s σ H Q I ⟨h, fun vs H1 q => mkE_of T q⟩
/-- raise X(e) -/
def tExc (C : Addr) (f : Str) (W : WX) (ta : TA) : TS := fun _ σ H => tMkE C f ta σ H fun cls d H' => W cls d σ H'
theorem ps_exc (hc : X.calm = true) (tk : Takes X W) (T : RB.ExcF X.K C f) (c : Callable X.prog X.w X.K X.mg X.base k (He.ma X.K C "__init__") ps [] (spExcInit X.K f)) (hr : Room (k + 1) X.A) (hm : X.mg x = some (.ref C)) (hg : Gl X x) (ha : PA X [e] ta)
    (hdb : (x == ("__debug__" : Str)) = false := by decide) (he : starEach (e :: []) X.env = (false, eval e X.env) :: starEach [] X.env := by rfl) (hpl : (backTo pos (starEach [] X.env)).any (·.1) = false := by rfl) :
    PS X (.Raise (some (.Call (.Name x p) [e] [] pos)) none pos2) (tExc C f W ta) := ps_raise hc tk (pmk_exc T c hr hm hg ha hdb he hpl)
/-- self.f = e in an own error's __init__, the first field -/
theorem init_rd {K : PySem.W.Frag} {D : Ends} {σ : L2.St} {H : Hp} {a C : Addr} {v : V} {to te : TE} (T : RB.ExcF K C f) (h : ∀ (Q : V → Hp → Prop), Q v H → te σ H Q) (h2 : ∀ (Q : V → Hp → Prop), Q (.ref a) H → to σ H Q) (ea : H a = some (exo a C none))
    (q : ∀ dx, H dx = none → dx ≠ a → D.nx σ (upd (upd H dx (exd dx [(f, v)])) a (exo a C (some dx)))) : tOst K f to te D σ H :=
  h _ (h2 _ ⟨a, C, rfl, T.ox, T.no, .inl ⟨ea, q⟩⟩)
end
/-! ### except X as e, several clauses -/
abbrev HdT : Type := Value × Option Nat × (Addr → Value → Option Addr → TS)
/-- the ends of a suite whose slot i goes -/
def Ends.un (D : Ends) (i : Nat) : Ends := { nx := fun σ' H' => D.nx (σ'.set i none) H', rt := D.rt, bk := fun σ' H' => D.bk (σ'.set i none) H', ct := fun σ' H' => D.ct (σ'.set i none) H' }
def wAny (K : PySem.W.Frag) (Wout : WX) (D : Ends) : List HdT → WX
  | [] => Wout
  | (c, none, ts) :: r => fun cls d σ H => ∃ b, PySem.W.exmOne K cls c = some b ∧ (b = true → ∀ a, H a = none → ts a cls d D σ H) ∧ (b = false → wAny K Wout D r cls d σ H)
  | (c, some i, ts) :: r => fun cls d σ H => ∃ b, PySem.W.exmOne K cls c = some b ∧ (b = true → ∀ a, H a = none → ts a cls d (Ends.un D i) (σ.set i (some (.ref a))) H) ∧ (b = false → wAny K Wout D r cls d σ H)
inductive HdA (X : Cx) : List ExceptHandler → List HdT → Prop
  | nil : HdA X [] []
  | plain {x : Str} {c : Value} {ts : Addr → Value → Option Addr → TS} {b : Stmt} {bs : List Stmt} {np pe : Pos} {hds : List ExceptHandler} {l : List HdT} (hc : Names X x c)
      (su : ∀ (a : Addr) (oe : Obj) (cls : Value) (d : Option Addr) (pn : List (Addr × Obj)), Zc cls d oe → (∃ vs, oe.data = .fields vs) → PSs (X.suite a ((a, oe) :: pn)) (b :: bs) (ts a cls d)) (r : HdA X hds l) :
      HdA X (.ExceptHandler (some (.Name x np)) none (b :: bs) pe :: hds) ((c, none, ts) :: l)
  | named {x n : Str} {c : Value} {i : Nat} {ts : Addr → Value → Option Addr → TS} {b : Stmt} {bs : List Stmt} {np pe : Pos} {hds : List ExceptHandler} {l : List HdT} (hN : X.N.Nodup) (hi : X.N[i]? = some n) (hl : X.env.kindOf n = some .local) (hc : Names X x c)
      (su : ∀ (a : Addr) (oe : Obj) (cls : Value) (d : Option Addr) (pn : List (Addr × Obj)), Zc cls d oe → (∃ vs, oe.data = .fields vs) → PSs (X.suite a ((a, oe) :: pn)) (b :: bs) (ts a cls d)) (r : HdA X hds l) :
      HdA X (.ExceptHandler (some (.Name x np)) (some n) (b :: bs) pe :: hds) ((c, some i, ts) :: l)
section
variable {X : Cx} {body : List Stmt} {hd0 : ExceptHandler} {hds : List ExceptHandler} {l : List HdT} {pos : Pos} {tb : WX → TS} {Wout : WX}
/-- what a caught error leaves: looked at by clause after clause -/
theorem hd_go {pins : List (Addr × Obj)} {σq : L2.St} {Hq : Hp} {B : Heap} {a : Addr} {cls : Value} {d : Option Addr} {sq : Shared} {st : Shared} {D : Ends} (ok : X.Ok) (hs : X.stack = X.env :: X.outer) (hf : X.env.frame = some X.env.locals) (tk : Takes X Wout)
    (J : Inv X pins σq Hq sq) (grd : ∀ b o, sq.heap.get? b = some o → b ∉ frs X.stack → B.get? b = some o) (up : sq.heap.UpToSlots st.heap) (free : Hq a = none) (os : st.os = sq.os) (bare : AllBare st.gens)
    (fly : PySem.HandSPX.FlyingZ B (X.env :: X.outer) a (Zc cls d) st.heap) : ∀ {hds : List ExceptHandler} {l : List HdT}, HdA X hds l → wAny X.K Wout D l cls d σq Hq → wpAny (model X.prog X.w) X.A (handleBy (.ref a) X.env hds) (SP X pins D) X.xe st := by
  have J3 : Inv X pins σq Hq st := J.landed grd fly.1 up os bare
  obtain ⟨oA, vA, eA, zA, dA⟩ := fly.there
  have out : a ∉ frs (X.env :: X.outer) := fun hm => by
    obtain ⟨_, o2, e2, nf⟩ := fly.2.2.1.mem hm
    rw [eA] at e2
    cases e2
    exact nf _ dA
  have aL : a ≠ X.env.locals := fun z => out (List.mem_filterMap.mpr ⟨X.env, List.mem_cons_self, hf.trans (congrArg some z.symm)⟩)
  have aF : a ∉ X.fs := fun hm => by
    obtain ⟨v, hv, q⟩ := List.mem_filterMap.mp hm
    exact out (List.mem_filterMap.mpr ⟨v, List.mem_cons_of_mem _ hv, q⟩)
  have S3 := J3.suite eA dA free aL aF
  have ty : PySem.W.Looks (model X.prog X.w) st.heap (typeOf (.ref a)) cls := fun A Q E s kp q => wpAny_typeOf_ref (kp _ _ eA) (by rw [zA.1]; exact q)
  have named : ∀ {x : Str} {c : Value} {np : Pos} {Q : Value → Shared → Prop} {E : Value → Shared → Prop}, Names X x c → Q c st → wpAny (model X.prog X.w) (X.A.mark (some (.ref a))) (eval (.Name x np) X.env) Q E st := fun {x c np Q E} hc q => by
    obtain ⟨g1, g2, g3 | ⟨g3, g4, g5⟩⟩ := hc
    · exact ld_glob (X := X.suite a ((a, oA) :: (X.pn ++ pins))) S3 g1 g3 q g2
    · exact ld_blt (X := X.suite a ((a, oA) :: (X.pn ++ pins))) S3 g1 g3 g4 q g5 g2
  intro hds l hk
  induction hk with
  | nil =>
    intro w
    refine wpAny_handleBy_nil ?_
    obtain ⟨k1, k2, k3, oe, vs, T, oT, ts', he, hz, hd, h1, hr⟩ := id fly
    unfold PySem.passOn
    refine wpAny_bind (wpAny_field he hd h1 ?_)
    rw [if_neg (show ¬((Value.ref T == Value.none) = true) by simp)]
    have last : wpAny (model X.prog X.w) X.A (setFlight (.ref a) X.env.frame) (fun _ s4 => wpAny (model X.prog X.w) X.A (throw (.ref a) : Sem Flow) (SP X pins D) X.xe s4) X.xe st := by
      rw [hf]
      refine PySem.HandSPX.setFlight_upZ fly fun hW held upW => wpAny_throw (tk _ _ ?_)
      exact ⟨a, B, sq, pins, σq, Hq, cls, d, rfl, J, grd, up.trans upW, .inr (.inr (by rw [hs]; exact held)), free, os, bare, w⟩
    first
      | exact wpAny_bind (wpAny_pure (wpAny_bind last))
      | exact wpAny_bind last
  | @plain x c ts b bs np pe hds2 l2 hc su r ih =>
    rintro ⟨z, hz, hyes, hno⟩
    refine wpAny_handleBy_cons (codeAny_handlers_test ?_) (by intro q; cases q)
    refine named hc ((PySem.W.exm_one (M := model X.prog X.w) J3.kIn ty hz).here ?_)
    cases z with
    | false => exact ih (hno rfl)
    | true =>
      refine codeAny_handlers_suite (PySem.HandSPX.lands_againZ fly fun h4 fl4 up4 => ?_)
      have J4 : Inv X pins σq Hq { st with heap := h4 } := J.landed grd fl4.1 (up.trans up4) os bare
      obtain ⟨o4, v4, e4, z4, d4⟩ := fl4.there
      refine wpAny_mono ((su a o4 cls d (X.pn ++ pins) z4 ⟨_, d4⟩).run [] _ _ Hq _ (J4.suite e4 d4 free aL aF) (hyes rfl a free)) (fun fl s6 hsp => ?_) (fun _ _ z => z.elim)
      cases fl with
      | ret u =>
        obtain ⟨v6, σ6, H6, S6, r6, q6⟩ := hsp
        exact ⟨v6, σ6, H6, S6.unsuite ok, r6, q6⟩
      | next =>
        obtain ⟨σ6, H6, S6, q6⟩ := hsp
        exact ⟨σ6, H6, S6.unsuite ok, q6⟩
      | brk =>
        obtain ⟨σ6, H6, S6, q6⟩ := hsp
        exact ⟨σ6, H6, S6.unsuite ok, q6⟩
      | cont =>
        obtain ⟨σ6, H6, S6, q6⟩ := hsp
        exact ⟨σ6, H6, S6.unsuite ok, q6⟩
  | @named x n c i ts b bs np pe hds2 l2 hN hi hl hc su r ih =>
    rintro ⟨z, hz, hyes, hno⟩
    refine wpAny_handleBy_cons (codeAny_handlers_test ?_) (by intro q; cases q)
    refine named hc ((PySem.W.exm_one (M := model X.prog X.w) J3.kIn ty hz).here ?_)
    cases z with
    | false => exact ih (hno rfl)
    | true =>
      refine codeAny_handlers_suite_as (PySem.HandSPX.lands_againZ fly fun h4 fl4 up4 => ?_)
      have J4 : Inv X pins σq Hq { st with heap := h4 } := J.landed grd fl4.1 (up.trans up4) os bare
      obtain ⟨o4, v4, e4, z4, d4⟩ := fl4.there
      refine store_ok (X := X.suite a ((a, o4) :: (X.pn ++ pins))) (v := .ref a) (J4.suite e4 d4 free aL aF) hN hi (.inl hl) rfl (fun s5 S5 => ?_) (.inr hl)
      refine wpAny_mono ((su a o4 cls d (X.pn ++ pins) z4 ⟨_, d4⟩).run [] s5 _ Hq _ S5 (hyes rfl a free)) (fun fl s6 hsp => ?_) (fun _ _ z => z.elim)
      have gone : ∀ {σ6 : L2.St} {H6 : Hp} {Q : Shared → Prop}, Inv (X.suite a ((a, o4) :: (X.pn ++ pins))) [] σ6 H6 s6 → (∀ s7, Inv X pins (σ6.set i none) H6 s7 → Q s7) →
          wpAny (model X.prog X.w) X.A (do bindName X.env n .none; unbindBehindTheSuite X.env n pe) (fun _ s7 => Q s7) X.xe s6 := fun {σ6 H6 Q} S6 hq => gone_ok (S6.unsuite ok) hN hi hl hq
      cases fl with
      | ret u =>
        obtain ⟨v6, σ6, H6, S6, r6, q6⟩ := hsp
        exact gone S6 fun s7 J7 => ⟨v6, _, H6, J7, r6, q6⟩
      | next =>
        obtain ⟨σ6, H6, S6, q6⟩ := hsp
        exact gone S6 fun s7 J7 => ⟨_, H6, J7, q6⟩
      | brk =>
        obtain ⟨σ6, H6, S6, q6⟩ := hsp
        exact gone S6 fun s7 J7 => ⟨_, H6, J7, q6⟩
      | cont =>
        obtain ⟨σ6, H6, S6, q6⟩ := hsp
        exact gone S6 fun s7 J7 => ⟨_, H6, J7, q6⟩
theorem ps_tryA (hs : X.stack = X.env :: X.outer) (hf : X.env.frame = some X.env.locals) (tk : Takes X Wout)
    (hb : ∀ (W : WX) (pn : List (Addr × Obj)) (xe : Value → Shared → Prop), Takes (X.tr pn xe) W → PassesOwn (model X.prog X.w) X.A X.env xe → PSs (X.tr pn xe) body (tb W))
    (hh : HdA X (hd0 :: hds) l) : PS X (.Try body (hd0 :: hds) [] [] pos) (fun D σ H => tb (wAny X.K Wout D l) D σ H) := by
  refine ⟨fun pins s σ H D I h => ?_⟩
  have ok := I.ok
  have fr : X.A.frames = some (X.env :: X.outer) := ok.frames.trans (congrArg some hs)
  refine wpAny_Try_except ?_
  have air : Takes (X.tr (X.pn ++ pins) (fun e s₁ => wpAny (model X.prog X.w) X.A (noteFrame e X.env) (fun _ s₂ => wpAny (model X.prog X.w) X.A (setFlight e none) (fun _ s₃ =>
      wpAny (model X.prog X.w) X.A (handleBy e X.env (hd0 :: hds)) (SP X pins D) X.xe s₃) X.xe s₂) X.xe s₁)) (wAny X.K Wout D l) := fun u s' xx => by
    obtain ⟨a, B, sq, pq, σq, Hq, cls, d, rfl, Jq, grd, up, sky, free, os, bare, w⟩ := xx
    have J : Inv X pins σq Hq sq := Jq.ofTry ok
    have sky2 : Sky B (X.env :: X.outer) a (Zc cls d) X.env.locals s'.heap := hs ▸ sky
    show wpAny (model X.prog X.w) X.A (noteFrame (.ref a) X.env) _ _ _
    refine Sky.land Zc.steady fr hf sky2 fun h3 fly up3 => ?_
    exact hd_go (st := { s' with heap := h3 }) ok hs hf tk J grd (up.trans up3) free os bare fly hh w
  refine wpAny_mono ((hb (wAny X.K Wout D l) (X.pn ++ pins) _ air PassesOwn.looking).run [] s σ H D (I.toTry _) h) (fun fl s1 hsp => ?_) (fun e s1 he => he)
  cases fl with
  | ret u =>
    obtain ⟨v, σ', H', J', r, q⟩ := hsp
    exact ⟨v, σ', H', J'.ofTry ok, r, q⟩
  | next =>
    obtain ⟨σ', H', J', q⟩ := hsp
    exact wpAny_execs_nil ⟨σ', H', J'.ofTry ok, q⟩
  | brk =>
    obtain ⟨σ', H', J', q⟩ := hsp
    exact ⟨σ', H', J'.ofTry ok, q⟩
  | cont =>
    obtain ⟨σ', H', J', q⟩ := hsp
    exact ⟨σ', H', J'.ofTry ok, q⟩
end
end RQ

set_option Elab.async false
set_option linter.all false
set_option maxRecDepth 100000
set_option maxHeartbeats 4000000
/-! Defs called in an except suite, whatever the context of the handled error is. -/
namespace RI
open PySem PySem.Spec PyProof.Rows L2 RC
variable {P : Program} {w : World} {K : PySem.W.Frag} {mg : Str → Option Value} {base : Heap} {f : Addr} {fd : FuncData} {k : Nat} {ps : List Str} {sp : Sp}
/-- what a def promises of a call there -/
structure HotOk (P : Program) (w : World) (K : PySem.W.Frag) (mg : Str → Option Value) (base : Heap)
    (k : Nat) (f : Addr) (fd : FuncData) (ps : List Str) (sp : Sp) : Prop where
  size : ∀ vs H Q, sp vs H Q L2.E0 → vs.length = ps.length
  go : ∀ (A : Around) (st : List Env) (s : Shared) (H : Hp) (us : List Value) (vs : List V) (Q : VK) (p : Addr × Obj),
    L2H.RoomH k A → L2H.PinOk st H s p → Env0 P w K mg base A st s H → BindsTo s fd ⟨us, []⟩ (ps.zip us) →
    Vals vs us → sp vs H Q L2.E0 → codeAny (model P w) A (.call (.ref f) ⟨us, []⟩) (CR L2.CX0 st P w H s Q L2.E0) s
def CallI (P : Program) (w : World) (K : PySem.W.Frag) (mg : Str → Option Value) (base : Heap)
    (k : Nat) (f : Addr) (ps : List Str) (sp : Sp) : Prop :=
  ∃ fd, HotOk P w K mg base k f fd ps sp ∧ Binds K fd ps [] ∧ PySem.W.keepIn K (.ref f) = true
theorem CallI.up {j : Nat} (c : CallI P w K mg base j f ps sp) (h : j ≤ k) : CallI P w K mg base k f ps sp :=
  let ⟨fd, o, r⟩ := c
  ⟨fd, ⟨o.size, fun A st s H us vs Q p hr => o.go A st s H us vs Q p (hr.mono h)⟩, r⟩
theorem stands_callI {x qual : Str} {N : List Str} {st : Stmt} (F : Stands K x qual st [] f) (S : FnScope N ps (defScope st))
    (size : ∀ vs H Q E, sp vs H Q E → vs.length = ps.length)
    (body : ∀ (cdv : Value) (A : Around) (outer : List Env) (s : Shared) (H : Hp) (vs : List V) (Q : VK) (p : Addr × Obj),
      L2H.RoomH k (A.deeper (envOfC qual (defScope st) s.heap.objs.size f cdv)) → sp vs H Q L2.E0 →
      ∃ t, PSs (L2H.cxH L2.CX0 P w K mg base N qual (defScope st) f cdv A outer s H L2.E0 p) (defBody st) t ∧
        t { nx := fun _ H' => Q .non H', rt := Q } (L2.start N vs) H)
    (bind : ∀ (kV doc pm : Value) (an : Option Addr) (cdv ct : Value) (us : List Value), us.length = ps.length →
      bindArgs (PySem.W.fnOf x qual (defArgs st) (defBody st) (defScope st) .none kV doc pm an cdv ct) ⟨us, []⟩ = pure (ps.zip us)) :
    CallI P w K mg base (k + 1) f ps sp := by
  obtain ⟨fd, D⟩ := F
  refine ⟨fd, ⟨fun vs H Q h => size _ _ _ _ h, fun A outer s H us vs Q p hr pin e0 bd rel h => ?_⟩, D.bindsN bind, D.kp⟩
  obtain ⟨oc, od, dV, kV, doc, pm, an, cdv, ct, osl, rfl, look, code, _, _⟩ := D.ex
  have n1 := size _ _ _ _ h
  have inK : K.In s.heap := e0.mod.kin.keeps fun b o e => (e0.bs b o e).1
  have nolim : s.heap.NoLimit := e0.mod.nolimit.keeps fun b o e => (e0.bs b o e).1
  have kinds : ∀ y ∈ ps.zip us, (defScope st).names.lookup y.1 = some .local ∨
      ((defScope st).names.lookup y.1 = some .cell ∧ ((cellsFrom (s.heap.objs.size + 1) (defScope st).names []).lookup y.1).isSome = true) := by
    rintro ⟨n, v⟩ hy
    rcases S.par n (List.of_mem_zip hy).1 with q | q
    · exact .inl q
    · exact .inr ⟨q, PySem.W.cellsFrom_some _ _ _ (.inl q)⟩
  refine codeAny_call_function hr.depth (inK _ _ look) rfl S.co S.gen rfl (PySem.W.codeRec_of inK code) (bd _ _ _ _ ?_)
  refine wpAny_newFunctionEnv_cells S.kind kinds fun env he s1 x => ?_
  subst he
  refine ⟨nolim.keeps x.toInCall.keep, codeAny_func ?_⟩
  obtain ⟨t, ht, hq⟩ := body cdv A outer s H vs Q p (hr.deeper _) h
  have I := L2H.inv_startH (E := L2.E0) (CX := L2.CX0) (w := w) S pin e0 n1 rel x
  refine wpAny_mono (ht.run [] s1 _ H _ I hq) (fun fl s' hs => ?_) fun e s' hs => hs
  rcases fl with _ | _ | _ | u
  · obtain ⟨σ', H', J, q⟩ := hs
    exact ⟨.non, H', J.os, J.bare, J.base, J.hok, rfl, q⟩
  · obtain ⟨_, _, _, q⟩ := hs
    exact q.elim
  · obtain ⟨_, _, _, q⟩ := hs
    exact q.elim
  · obtain ⟨v, σ', H', J, rv, q⟩ := hs
    exact ⟨v, H', J.os, J.bare, J.base, J.hok, rv, q⟩
section
variable {X : Cx} {C : Addr} {m : Str} {pos apos : Pos} {e o : Expr} {es : List Expr} {ta : TE} {t : TA} {pl2 : Sem Bool}
/-- some object is held in the suite -/
def Held0 (X : Cx) : Prop := ∃ p : Addr × Obj, p ∈ X.pn
def tMethI (C : Addr) (m : Str) (sp : Sp) (ta : TE) (t : TA) : TE := fun σ H Q => ta σ H fun x H1 =>
  ∃ a dx fs, x = .ref a ∧ H1 a = some (.ins C dx fs) ∧ fs.lookup m = none ∧ t σ H1 fun vs H2 => sp (x :: vs) H2 Q L2.E0
theorem run_I {pins : List (Addr × Obj)} {σ : L2.St} {H : Hp} {s : Shared} {Q : VK} {us : List Value} {vs : List V}
    (c : CallI X.prog X.w X.K X.mg X.base k f ps sp) (hr : L2H.RoomH k X.A) (hp : Held0 X)
    (I : Inv X pins σ H s) (r : Vals vs us) (h : sp vs H Q L2.E0) : wpAny (model X.prog X.w) X.A (call (.ref f) us) (EP X pins σ Q) X.xe s := by
  obtain ⟨fd, F, hb, hk⟩ := c
  obtain ⟨p, hp⟩ := hp
  have n1 : us.length = ps.length := r.length.symm.trans (F.size _ _ _ h)
  have b := hb s us I.kIn (by rw [List.append_nil]; exact n1)
  rw [List.append_nil] at b
  obtain ⟨q1, q2, q3, q4, q5⟩ := I.pin p (List.mem_append_left _ hp)
  have pin : L2H.PinOk X.stack H s p := ⟨q1, q2, fun z => (List.mem_cons.mp (I.stkSub p.1 z)).elim q3 q4, q5⟩
  refine wpAny_call (codeAny_mono (F.go X.A X.stack s H us vs Q p hr pin I.env0 b r h) fun z s' hz => ?_)
  rcases z with e | fl
  · exact hz.elim
  · rcases fl with _ | _ | _ | u
    · exact hz.elim
    · exact hz.elim
    · exact hz.elim
    · exact I.after hz
/-- o.m(e, ..) there -/
theorem pe_mtI (he : PE X o ta) (cl : Cls X.K C) (hm : Meth X.K C m f) (c : CallI X.prog X.w X.K X.mg X.base k f ps sp)
    (hr : L2H.RoomH k X.A) (hp : Held0 X) (ha : PA X (e :: es) t)
    (hst : starEach (e :: es) X.env = (false, eval e X.env) :: starEach es X.env := by rfl) (hpl : (backTo pos (starEach es X.env)).any (·.1) = false := by rfl)
    (ht : eval (.Call (.Attribute o m apos) (e :: es) [] pos) X.env = (do
      let ov ← eval o X.env
      standAt apos.atName
      let (f, first) ← holding [ov] (getMethod ov m pl2)
      callWith pos f first (backTo pos (starEach (e :: es) X.env)) (backToKw pos (keywordEach [] X.env))) := by rfl) :
    PE X (.Call (.Attribute o m apos) (e :: es) [] pos) (tMethI C m sp ta t) := by
  refine ⟨fun pins s σ H Q I h => ?_⟩
  refine PySem.W.methodCall_KW (pl := pl2) (thn (he.run pins s σ H _ I h) fun u s1 ⟨x, H1, I1, rx, a, dx, fs, ex, ea, nf, q⟩ => ?_) ht
  subst ex
  obtain rfl : u = Value.ref a := rx
  refine getmeth_ok I1 ea cl hm nf ?_
  refine PySem.W.callWith_K (first := [.ref a]) (h₀ := X.base) I.ok.mod.kin hm.kp (thn (ha.run pos pins s1 σ H1 _ I1 q) fun us s2 ⟨vs, H2, I2, r, q2⟩ => ⟨I2.kIn, ?_⟩) hst hpl
  exact run_I (us := .ref a :: us) (vs := .ref a :: vs) c hr hp I2 (.cons rfl r) q2
/-- o.m() there -/
theorem pe_mtI0 (he : PE X o ta) (cl : Cls X.K C) (hm : Meth X.K C m f) (c : CallI X.prog X.w X.K X.mg X.base k f ps sp)
    (hr : L2H.RoomH k X.A) (hp : Held0 X)
    (ht : eval (.Call (.Attribute o m apos) [] [] pos) X.env = (do
      let ov ← eval o X.env
      standAt apos.atName
      let (f, first) ← holding [ov] (getMethod ov m pl2)
      callWith pos f first (backTo pos (starEach [] X.env)) (backToKw pos (keywordEach [] X.env))) := by rfl) :
    PE X (.Call (.Attribute o m apos) [] [] pos) (tMethI C m sp ta tNil) := by
  refine ⟨fun pins s σ H Q I h => ?_⟩
  refine PySem.W.methodCall_KW (pl := pl2) (thn (he.run pins s σ H _ I h) fun u s1 ⟨x, H1, I1, rx, a, dx, fs, ex, ea, nf, q⟩ => ?_) ht
  subst ex
  obtain rfl : u = Value.ref a := rx
  refine getmeth_ok I1 ea cl hm nf ?_
  exact PySem.W.callWith_K0 (first := [.ref a]) I1.kIn hm.kp (run_I (us := [.ref a]) (vs := [.ref a]) c hr hp I1 (.cons rfl .nil) q)
theorem held_of {X : Cx} {a : Addr} {oe : Obj} {pn : List (Addr × Obj)} : Held0 (X.suite a ((a, oe) :: pn)) := ⟨(a, oe), List.mem_cons_self⟩
theorem room_suite {X : Cx} {a : Addr} {pn : List (Addr × Obj)} (hr : Room k X.A) : L2H.RoomH k (X.suite a pn).A := ⟨hr.dp, hr.un⟩
end
end RI

set_option Elab.async false
set_option linter.all false
set_option maxRecDepth 100000
set_option maxHeartbeats 4000000
/-! Own errors raised where nothing is handled (their context is None), and raised anew in an except suite. -/
namespace RH
open PySem PySem.Spec PyProof.Rows L2 RC
/-- as RQ.CallX; an error that leaves has no context -/
def CallN (P : Program) (w : World) (K : PySem.W.Frag) (mg : Str → Option Value) (base : Heap) (k : Nat) (f : Addr) (ps : List Str) (dvs : List V) (sp : Sp) : Prop :=
  ∃ fd ds, FnOk P w K mg base (L2N.CX P w) k f fd ps sp ∧ Vals dvs ds ∧ Binds K fd ps ds ∧ PySem.W.keepIn K (.ref f) = true
theorem cx_weak {P : Program} {w : World} {o : List Env} {H : Hp} {s : Shared} {E : XK} {u : Value} {s' : Shared} (h : L2N.CX P w o H s E u s') : L2.CX P w o H s E u s' := by
  obtain ⟨a, B, H', cls, d, e, fl, r⟩ := h
  exact ⟨a, B, H', cls, d, e, L2H.flyingZ_imp (fun _ z => L2N.Zn.zc z) fl, r⟩
section
variable {P : Program} {w : World} {K : PySem.W.Frag} {mg : Str → Option Value} {base : Heap} {x qual : Str} {dvs : List V} {f : Addr} {k : Nat} {N ps : List Str} {sp : Sp}
theorem CallN.up {j : Nat} (c : CallN P w K mg base j f ps dvs sp) (h : j ≤ k) : CallN P w K mg base k f ps dvs sp :=
  let ⟨fd, ds, F, r⟩ := c
  ⟨fd, ds, F.mono h, r⟩
theorem fn_weak {fd : FuncData} (F : FnOk P w K mg base (L2N.CX P w) k f fd ps sp) : FnOk P w K mg base (L2.CX P w) k f fd ps sp := by
  refine ⟨F.len, fun A outer s H args us vs Q E hr e0 hb r h => codeAny_mono (F.run A outer s H args us vs Q E hr e0 hb r h) fun z s' hz => ?_⟩
  cases z with
  | error e => exact cx_weak hz
  | ok fl => cases fl <;> exact hz
theorem CallN.toX (c : CallN P w K mg base k f ps dvs sp) : RQ.CallX P w K mg base k f ps dvs sp :=
  let ⟨fd, ds, F, r⟩ := c
  ⟨fd, ds, fn_weak F, r⟩
theorem stands_callN0 {st : Stmt} (F : Stands K x qual st [] f) (S : FnScope N ps (defScope st)) (len : ∀ vs H Q E, sp vs H Q E → vs.length = ps.length)
    (body : ∀ (cdv : Value) (A : Around) (outer : List Env) (s : Shared) (H : Hp) (vs : List V) (Q : VK) (E : XK), Room k (A.deeper (envOfC qual (defScope st) s.heap.objs.size f cdv)) → sp vs H Q E →
      ∃ t, PSs (cxOf (L2N.CX P w) P w K mg base N qual (defScope st) f cdv A outer s H E) (defBody st) t ∧ t { nx := fun _ H' => Q .non H', rt := Q } (start N vs) H)
    (bind : ∀ (kV doc pm : Value) (an : Option Addr) (cdv ct : Value) (us : List Value), us.length = ps.length → bindArgs (PySem.W.fnOf x qual (defArgs st) (defBody st) (defScope st) .none kV doc pm an cdv ct) ⟨us, []⟩ = pure (ps.zip us)) :
    CallN P w K mg base (k + 1) f ps [] sp := by
  obtain ⟨fd, F⟩ := F
  have ok : FnOk P w K mg base (L2N.CX P w) (k + 1) f fd ps sp := F.ok S len fun cdv A outer s H vs Q E hr h => body cdv A outer s H vs Q E hr h
  exact ⟨fd, [], ok, .nil, F.bindsN bind, F.kp⟩
end
section
variable {X : Cx} {k : Nat} {f C : Addr} {ps : List Str} {sp : Sp} {dvs : List V} {x m fl : Str} {p pos pos2 apos : Pos} {e o : Expr} {es : List Expr} {ta : TE} {t : TA} {pl : Sem Bool} {W : WX}
/-- f(e, ..), where f may raise an error without context -/
theorem pe_fnN (tk : L2N.Takes X W) (hm : X.mg x = some (.ref f)) (c : CallN X.prog X.w X.K X.mg X.base k f ps dvs sp) (hr : Room k X.A) (hg : Gl X x) (ha : PA X (e :: es) t) (hdb : (x == ("__debug__" : Str)) = false := by decide)
    (he : starEach (e :: es) X.env = (false, eval e X.env) :: starEach es X.env := by rfl) (hpl : (backTo pos (starEach es X.env)).any (·.1) = false := by rfl) : PE X (.Call (.Name x p) (e :: es) [] pos) (tCallSD sp dvs (WE W) t) := by
  obtain ⟨fd, ds, F, hd, hb, hk⟩ := c
  exact pe_callSD F hr hg hm hk hb hd (fun σ => L2N.passAt tk σ) ha hdb he hpl
theorem pe_mtN (tk : L2N.Takes X W) (cl : Cls X.K C) (hm : Meth X.K C m f) (c : CallN X.prog X.w X.K X.mg X.base k f ps dvs sp) (hr : Room k X.A) (he : PE X o ta) (ha : PA X (e :: es) t)
    (hst : starEach (e :: es) X.env = (false, eval e X.env) :: starEach es X.env := by rfl) (hpl : (backTo pos (starEach es X.env)).any (·.1) = false := by rfl)
    (ht : eval (.Call (.Attribute o m apos) (e :: es) [] pos) X.env = (do
      let ov ← eval o X.env
      standAt apos.atName
      let (f, first) ← holding [ov] (getMethod ov m pl)
      callWith pos f first (backTo pos (starEach (e :: es) X.env)) (backToKw pos (keywordEach [] X.env))) := by rfl) :
    PE X (.Call (.Attribute o m apos) (e :: es) [] pos) (RQ.tMethX C m sp dvs (WE W) ta t) := by
  obtain ⟨fd, ds, F, hd, hb, hk⟩ := c
  refine ⟨fun pins s σ H Q I h => ?_⟩
  refine PySem.W.methodCall_KW (pl := pl) (thn (he.run pins s σ H _ I h) fun u s1 ⟨z, H1, I1, rz, a, dx, fs, ez, ea, l, q⟩ => ?_) ht
  subst ez
  obtain rfl : u = Value.ref a := rz
  refine getmeth_ok I1 ea cl hm l ?_
  refine PySem.W.callWith_K (first := [.ref a]) (h₀ := X.base) I.ok.mod.kin hm.kp (thn (ha.run pos pins s1 σ H1 _ I1 q) fun us s2 ⟨ws, H2, I2, r, q2⟩ => ⟨I2.kIn, ?_⟩) hst hpl
  exact run_fnSD (us := .ref a :: us) (vs := .ref a :: ws) F hr hb hd (L2N.passAt tk σ) I2 (.cons rfl r) q2
theorem pe_mtN0 (tk : L2N.Takes X W) (cl : Cls X.K C) (hm : Meth X.K C m f) (c : CallN X.prog X.w X.K X.mg X.base k f ps dvs sp) (hr : Room k X.A) (he : PE X o ta)
    (ht : eval (.Call (.Attribute o m apos) [] [] pos) X.env = (do
      let ov ← eval o X.env
      standAt apos.atName
      let (f, first) ← holding [ov] (getMethod ov m pl)
      callWith pos f first (backTo pos (starEach [] X.env)) (backToKw pos (keywordEach [] X.env))) := by rfl) :
    PE X (.Call (.Attribute o m apos) [] [] pos) (RQ.tMethX C m sp dvs (WE W) ta tNil) := by
  obtain ⟨fd, ds, F, hd, hb, hk⟩ := c
  refine ⟨fun pins s σ H Q I h => ?_⟩
  refine PySem.W.methodCall_KW (pl := pl) (thn (he.run pins s σ H _ I h) fun u s1 ⟨z, H1, I1, rz, a, dx, fs, ez, ea, l, q⟩ => ?_) ht
  subst ez
  obtain rfl : u = Value.ref a := rz
  refine getmeth_ok I1 ea cl hm l ?_
  exact PySem.W.callWith_K0 (first := [.ref a]) I1.kIn hm.kp (run_fnSD (us := [.ref a]) (vs := [.ref a]) F hr hb hd (L2N.passAt tk σ) I1 (.cons rfl .nil) q)
theorem pe_mtX0 (tk : Takes X W) (cl : Cls X.K C) (hm : Meth X.K C m f) (c : RQ.CallX X.prog X.w X.K X.mg X.base k f ps dvs sp) (hr : Room k X.A) (he : PE X o ta)
    (ht : eval (.Call (.Attribute o m apos) [] [] pos) X.env = (do
      let ov ← eval o X.env
      standAt apos.atName
      let (f, first) ← holding [ov] (getMethod ov m pl)
      callWith pos f first (backTo pos (starEach [] X.env)) (backToKw pos (keywordEach [] X.env))) := by rfl) :
    PE X (.Call (.Attribute o m apos) [] [] pos) (RQ.tMethX C m sp dvs (WE W) ta tNil) := by
  obtain ⟨fd, ds, F, hd, hb, hk⟩ := c
  refine ⟨fun pins s σ H Q I h => ?_⟩
  refine PySem.W.methodCall_KW (pl := pl) (thn (he.run pins s σ H _ I h) fun u s1 ⟨z, H1, I1, rz, a, dx, fs, ez, ea, l, q⟩ => ?_) ht
  subst ez
  obtain rfl : u = Value.ref a := rz
  refine getmeth_ok I1 ea cl hm l ?_
  exact PySem.W.callWith_K0 (first := [.ref a]) I1.kIn hm.kp (run_fnSD (us := [.ref a]) (vs := [.ref a]) F hr hb hd (passAt tk σ) I1 (.cons rfl .nil) q)
/-- C(e) of an own error, made where nothing is handled: no context -/
theorem pmk_excN (T : RB.ExcF X.K C fl) (c : Callable X.prog X.w X.K X.mg X.base k (He.ma X.K C "__init__") ps [] (RQ.spExcInit X.K fl)) (hr : Room (k + 1) X.A) (hm : X.mg x = some (.ref C)) (hg : Gl X x) (ha : PA X [e] t)
    (hdb : (x == ("__debug__" : Str)) = false := by decide) (he : starEach (e :: []) X.env = (false, eval e X.env) :: starEach [] X.env := by rfl) (hpl : (backTo pos (starEach [] X.env)).any (·.1) = false := by rfl) :
    L2N.PMk X (.Call (.Name x p) [e] [] pos) (RQ.tMkE C fl t) := by
  obtain ⟨fd, ds, Fi, hd, hb, hk⟩ := c
  cases hd
  intro pins s0 σ0 H0 Q0 I0 h0
  have ox := T.ox
  obtain ⟨nm, qn, N, bs, bm, sn, sub, ab, col, dd, j0, j1, j2, j3, j5, jC, jB⟩ := ox.cls
  refine wpAny_Call_Name_kw (ld_glob I0 hg hm ?_ hdb)
  refine PySem.W.callWith_K (h₀ := X.base) I0.ok.mod.kin ox.kC (thn (ha.run pos pins s0 σ0 H0 _ I0 h0) fun us sA ⟨vs, HA, IA, rA, qA⟩ => ⟨IA.kIn, ?_⟩) he hpl
  show wpAny _ _ (call (.ref C) us) _ _ _
  obtain ⟨big, first⟩ := RQ.mkE_of T qA
  obtain ⟨hp, gs, dr, tks, os⟩ := sA
  generalize eN : hp.objs.size + 1 = nw
  have up : hp.objs.size ≤ nw := eN ▸ Nat.le_succ _
  have free : HA nw = none := IA.hok.fresh up
  have wish := first nw free
  have keep : ∀ b u, hp.get? b = some u → ((hp.push (PySem.W.kdv_tup us)).push (PySem.HandSPX.excO C hp.objs.size)).get? b = some u := fun b u z => Heap.get?_push_of_some _ (Heap.get?_push_of_some _ z)
  have there : ((hp.push (PySem.W.kdv_tup us)).push (PySem.HandSPX.excO C hp.objs.size)).get? nw = some (PySem.HandSPX.excO C hp.objs.size) := by rw [← eN]; heap_get
  have IB : Inv X pins σ0 (upd HA nw (exo nw C none)) ⟨(hp.push (PySem.W.kdv_tup us)).push (PySem.HandSPX.excO C hp.objs.size), gs, dr, tks, os⟩ := IA.laid keep up (exo_ok there)
  have relB : Vals (V.ref nw :: (vs ++ [])) (Value.ref nw :: us) := .cons rfl (by rw [List.append_nil]; exact rA)
  have lenB : (Value.ref nw :: us).length = ps.length := relB.length.symm.trans (Fi.len _ _ _ _ wish)
  have few : us.length ≤ sizeLine := by rw [← Paired.length rA, sizeLine_eq]; omega
  have bindB := hb _ (Value.ref nw :: us) IB.kIn (by rw [List.append_nil]; exact lenB)
  rw [List.append_nil] at bindB
  have call : wpAny (model X.prog X.w) X.A (call (.ref C) us) (L2N.MkP X pins σ0 Q0) X.xe ⟨hp, gs, dr, tks, os⟩ := by
    refine wpAny_call (PySem.HandSPX.call_own F.excBase_ValueError (fun Y => PySem.HandSPX.refsVE_contains Y bm jB) (IA.kIn _ _ jC) (PySem.W.looks_findIn IA.kIn T.ini) (fun self => PySem.W.bind_fn IA.kIn self T.ty) few ?_)
    rw [eN]
    refine codeAny_mono (Fi.run _ X.stack _ _ ⟨Value.ref nw :: us, []⟩ _ _ _ (fun _ _ _ => False) (hr.make C us []) (IB.env0.make C us []) bindB relB wish) fun z sZ hz => ?_
    cases z with
    | error er => exact pass0 pins σ0 _ _ er sZ IB hz
    | ok flw =>
      cases flw with
      | next => exact hz.elim
      | brk => exact hz.elim
      | cont => exact hz.elim
      | ret u =>
        obtain ⟨v, HB, osB, bareB, unB, hokB, rv, ev, d, fs, ea, ed, hd1, qB⟩ := hz
        subst ev
        obtain ⟨hB, gB, dB, tB, osZ⟩ := sZ
        obtain ⟨t0, G, J, kG, ge, hoe, na⟩ := mk_end0 (d2 := dB) (t2 := tB) IA up keep unB hokB osB bareB ea ed hd1
        exact ⟨rv, nw, _, _, ⟨G, gB, dB, tB, osZ⟩, _, .ref C, some d, rfl, J, kG, ge, hoe, ⟨rfl, rfl, fun ws hw => by cases hw; rfl⟩, rfl, rfl, na, rfl, bareB, raises_own ox.exC ox.tyC, qB⟩
  exact call
theorem ps_excN (hc : X.calm = true) (tk : L2N.Takes X W) (T : RB.ExcF X.K C fl) (c : Callable X.prog X.w X.K X.mg X.base k (He.ma X.K C "__init__") ps [] (RQ.spExcInit X.K fl)) (hr : Room (k + 1) X.A) (hm : X.mg x = some (.ref C)) (hg : Gl X x) (ha : PA X [e] t)
    (hdb : (x == ("__debug__" : Str)) = false := by decide) (he : starEach (e :: []) X.env = (false, eval e X.env) :: starEach [] X.env := by rfl) (hpl : (backTo pos (starEach [] X.env)).any (·.1) = false := by rfl) :
    PS X (.Raise (some (.Call (.Name x p) [e] [] pos)) none pos2) (RQ.tExc C fl W t) := L2N.ps_raise hc tk (pmk_excN T c hr hm hg ha hdb he hpl)
end
section
variable {P : Program} {w : World} {K : PySem.W.Frag} {mg : Str → Option Value} {base : Heap} {nm qual : Str} {f : Addr} {k : Nat} {N ps : List Str} {sp : Sp}
/-- an error's __init__, called while another error is handled -/
def InitH (P : Program) (w : World) (K : PySem.W.Frag) (mg : Str → Option Value) (base : Heap) (k : Nat) (f : Addr) (ps : List Str) (sp : Sp) : Prop :=
  ∃ fd, L2H.FnH P w K mg base CX0 k f fd ps sp ∧ Binds K fd ps [] ∧ PySem.W.keepIn K (.ref f) = true
theorem stands_initH {st : Stmt} (F : Stands K nm qual st [] f) (S : FnScope N ps (defScope st)) (size : ∀ vs H Q E, sp vs H Q E → vs.length = ps.length)
    (body : ∀ (cdv : Value) (A : Around) (outer : List Env) (s : Shared) (H : Hp) (vs : List V) (Q : VK) (E : XK) (p : Addr × Obj), L2H.RoomH k (A.deeper (envOfC qual (defScope st) s.heap.objs.size f cdv)) → sp vs H Q E →
      ∃ t, PSs (L2H.cxH CX0 P w K mg base N qual (defScope st) f cdv A outer s H E p) (defBody st) t ∧ t { nx := fun _ H' => Q .non H', rt := Q } (L2.start N vs) H)
    (bind : ∀ (kV doc pm : Value) (an : Option Addr) (cdv ct : Value) (us : List Value), us.length = ps.length → bindArgs (PySem.W.fnOf nm qual (defArgs st) (defBody st) (defScope st) .none kV doc pm an cdv ct) ⟨us, []⟩ = pure (ps.zip us)) :
    InitH P w K mg base (k + 1) f ps sp := by
  obtain ⟨fd, D⟩ := F
  obtain ⟨oc, od, dV, kV, doc, pm, an, cdv, ct, osl, rfl, look, code, _, _⟩ := D.ex
  exact ⟨_, L2H.fn_ofH look code S size fun A outer s H vs Q E p _ hr h => body cdv A outer s H vs Q E p hr h, D.bindsN bind, D.kp⟩
end
section
variable {X : Cx} {k : Nat} {C : Addr} {ps : List Str} {x fl : Str} {p pos pos2 : Pos} {e : Expr} {t : TA} {W : WX}
theorem pmk_excH (T : RB.ExcF X.K C fl) (c : InitH X.prog X.w X.K X.mg X.base k (He.ma X.K C "__init__") ps (RQ.spExcInit X.K fl)) (hr : L2H.RoomH (k + 1) X.A) (hot : L2H.HotC X) (hm : X.mg x = some (.ref C)) (hg : Gl X x) (ha : PA X [e] t)
    (hdb : (x == ("__debug__" : Str)) = false := by decide) (he : starEach (e :: []) X.env = (false, eval e X.env) :: starEach [] X.env := by rfl) (hpl : (backTo pos (starEach [] X.env)).any (·.1) = false := by rfl) :
    L2N.PMk X (.Call (.Name x p) [e] [] pos) (RQ.tMkE C fl t) := by
  obtain ⟨fd, Fi, hb, hk⟩ := c
  intro pins s σ H Q I h
  have both : PA X [e] (fun σ0 H0 K0 => t σ0 H0 (fun vs H1 => ∃ v, vs = [v] ∧ ∀ d, H1 d = none → Q (.ref C) (some d) (upd H1 d (.xd [(fl, v)]))) ∧
      ∀ vs H1, (∃ v, vs = [v] ∧ ∀ d, H1 d = none → Q (.ref C) (some d) (upd H1 d (.xd [(fl, v)]))) → K0 vs H1) := ⟨fun pos0 pins0 s0 σ0 H0 K0 I0 h0 =>
    wpAny_mono (ha.run pos0 pins0 s0 σ0 H0 _ I0 h0.1) (fun us s1 ⟨vs, H1, I1, r1, q1⟩ => ⟨vs, H1, I1, r1, h0.2 vs H1 q1⟩) (fun _ _ z => z)⟩
  exact (L2H.pmk5_oexH (x := x) (p := p) (pos := pos) T.ox T.ini T.ty Fi hr hot hb pass0 hg hm both hdb he hpl).pmk pins s σ H Q I ⟨h, fun vs H1 q => RQ.mkE_of T q⟩
/-- raise C(e) in an except suite -/
theorem ps_excH (hot : L2H.HotC X) (tk : L2.Takes X W) (T : RB.ExcF X.K C fl) (c : InitH X.prog X.w X.K X.mg X.base k (He.ma X.K C "__init__") ps (RQ.spExcInit X.K fl)) (hr : L2H.RoomH (k + 1) X.A) (hm : X.mg x = some (.ref C)) (hg : Gl X x) (ha : PA X [e] t)
    (hdb : (x == ("__debug__" : Str)) = false := by decide) (he : starEach (e :: []) X.env = (false, eval e X.env) :: starEach [] X.env := by rfl) (hpl : (backTo pos (starEach [] X.env)).any (·.1) = false := by rfl) :
    PS X (.Raise (some (.Call (.Name x p) [e] [] pos)) none pos2) (RQ.tExc C fl W t) := L2H.ps_raiseH hot tk (pmk_excH T c hr hot hm hg ha hdb he hpl)
end
end RH

set_option Elab.async false
set_option linter.all false
set_option maxRecDepth 100000
set_option maxHeartbeats 4000000
/-! None as a key: d.get(x, z) where x may be None. -/
namespace RZN
open PySem PySem.Spec PyProof.Rows L2 RC
section
variable {X : Cx} {pins : List (Addr × Obj)} {σ : L2.St} {H : Hp} {s : Shared} {a : Addr} {kvs : List (Key × V)} {A : Around} {E : Value → Shared → Prop} {r : Value}
theorem none_get2 {Q : Value → Shared → Prop} (I : Inv X pins σ H s) (e : Rd H a (.dK kvs)) (h : ∀ s', Inv X pins σ H s' → Q r s') :
    wpAny (model X.prog X.w) A (call (.builtin "dict.get") [.ref a, .none, r]) Q E s := by
  obtain ⟨_, hd, vs, rel, dd⟩ := dk_rd I.hok e
  obtain ⟨g, mp, g0⟩ := none_map dd
  refine call_meetsIn PySem.F.slot_dict_get dd.typeIs PySem.F.entry_dict_get (PySem.F.args_dict_get_3 _ _ _) (meets_dict_get_default (noneKind X.prog X.w) a (show (noneKind X.prog X.w).is none .none = true from rfl) hd r) ⟨g, mp, ?_⟩
  rw [g0]
  exact h _ (I.tok _)
end
def tDGetN2 (td ty tx : TE) : TE := fun σ H Q => td σ H fun x H1 => ∃ a, x = .ref a ∧ IsD H1 a ∧ ty σ H1 fun y H2 => tx σ H2 fun z H3 => (∃ o, DGet H3 a y o ∧ Q (o.getD z) H3) ∨ ∃ kvs, y = .non ∧ Rd H3 a (.dK kvs) ∧ Q z H3
section
variable {X : Cx} {o e f : Expr} {td ty tx : TE} {apos cpos : Pos}
theorem pe_dgetN2 (hu : X.A.units + 1 < cLine) (ho : PE X o td) (he : PE X e ty) (hf : PE X f tx) (m : M2 X o "get" apos e f cpos) : PE X (.Call (.Attribute o "get" apos) [e, f] [] cpos) (tDGetN2 td ty tx) := by
  refine ⟨fun pins s σ H Q I h => ?_⟩
  refine wpAny_Call_method m.base m.few m.line PySem.F.plainAttrs_dict PySem.F.slot_dict_get PySem.F.type_dict_get (thn (ho.run pins s σ H _ I h) fun du sA ⟨x, HA, IA, rx, a, ex, isd, qA⟩ => ?_)
  subst ex
  obtain rfl : du = Value.ref a := rx
  obtain ⟨k1, k2, _⟩ := isD_at IA isd
  refine ⟨k1, k2, ?_⟩
  rw [m.trees]
  refine Calls.callWith_builtin rfl (Calls.evalArgs_plain (Calls.spliced_cons (thn (he.run pins sA σ HA _ IA qA) fun ku sB ⟨y, HB, IB, ry, qB⟩ =>
    Calls.spliced_cons (thn (hf.run pins sB σ HB _ IB qB) fun zu sC ⟨z, HC, IC, rz, qC⟩ => Calls.spliced_nil ?_))))
  rcases qC with ⟨ov, g, q⟩ | ⟨kvs, ey, g, q⟩
  · exact d_get2 hu IC g ry rz fun w' sD ID rw' => ⟨_, HC, ID, rw', q⟩
  · subst ey
    obtain rfl : ku = Value.none := ry
    exact none_get2 IC g fun sD ID => ⟨z, HC, ID, rz, q⟩
end
end RZN

set_option Elab.async false
set_option linter.all false
set_option maxRecDepth 100000
set_option maxHeartbeats 4000000
/-! Formats with dollars, over lists of signs. -/
namespace RP
abbrev S := List Nat
def letters : S := [97,98,99,100,101,102,103,104,105,106,107,108,109,110,111,112,113,114,115,116,117,118,119,120,121,122,65,66,67,68,69,70,71,72,73,74,75,76,77,78,79,80,81,82,83,84,85,86,87,88,89,90,95]
def digits : S := [48,49,50,51,52,53,54,55,56,57]
def letB (c : Nat) : Bool := decide (c ∈ letters)
def digB (c : Nat) : Bool := decide (c ∈ digits)
def nameB (c : Nat) : Bool := letB c || digB c
/-- the length of the longest name that begins here -/
def nmLen : S → Nat
  | [] => 0
  | c :: r => if letB c then 1 + (r.takeWhile nameB).length else 0
theorem nm_cons (a : Nat) (r : S) : nmLen (a :: r) = if letB a = true then 1 + (r.takeWhile nameB).length else 0 := rfl
def contB (l : S) (k : Nat) : Bool := match l[k]? with
  | none => false
  | some c => letB c || (decide (0 < k) && digB c)
theorem tw_at {p : Nat → Bool} : ∀ (l : S) (k : Nat), k < (l.takeWhile p).length → ∃ c, l[k]? = some c ∧ p c = true
  | [], k, h => by cases h
  | a :: r, k, h => by
    rw [List.takeWhile_cons] at h
    cases e : p a with
    | false => rw [e] at h; cases h
    | true =>
      rw [e] at h
      cases k with
      | zero => exact ⟨a, rfl, e⟩
      | succ k => exact tw_at r k (Nat.lt_of_succ_lt_succ h)
theorem tw_end {p : Nat → Bool} : ∀ (l : S) (c : Nat), l[(l.takeWhile p).length]? = some c → p c = false
  | [], c, h => by cases h
  | a :: r, c, h => by
    rw [List.takeWhile_cons] at h
    cases e : p a with
    | false => rw [e] at h; cases h; exact e
    | true => rw [e] at h; exact tw_end r c h
theorem cont_lt {l : S} {k : Nat} (h : k < nmLen l) : contB l k = true := by
  cases l with
  | nil => cases h
  | cons a r =>
    rw [nm_cons] at h
    cases e : letB a with
    | false => rw [e] at h; cases h
    | true =>
      rw [e, if_pos rfl] at h
      cases k with
      | zero => show (letB a || _) = true; rw [e]; rfl
      | succ k =>
        obtain ⟨c, h1, h2⟩ := tw_at (p := nameB) r k (by omega)
        unfold contB
        rw [List.getElem?_cons_succ, h1]
        show (letB c || (decide (0 < k + 1) && digB c)) = true
        rw [decide_eq_true (Nat.succ_pos k), Bool.true_and]
        exact h2
theorem cont_end (l : S) : contB l (nmLen l) = false := by
  cases l with
  | nil => rfl
  | cons a r =>
    cases e : letB a with
    | false =>
      have z : nmLen (a :: r) = 0 := by rw [nm_cons, e]; rfl
      rw [z]
      show (letB a || (false && digB a)) = false
      rw [e]; rfl
    | true =>
      have z : nmLen (a :: r) = (r.takeWhile nameB).length + 1 := by rw [nm_cons, e, if_pos rfl, Nat.add_comm]
      rw [z]
      unfold contB
      rw [List.getElem?_cons_succ]
      cases h : r[(r.takeWhile nameB).length]? with
      | none => rfl
      | some c =>
        have q := tw_end (p := nameB) r c h
        show (letB c || (decide (0 < _ + 1) && digB c)) = false
        rw [decide_eq_true (Nat.succ_pos _), Bool.true_and]
        exact q
theorem tw_le {p : Nat → Bool} : ∀ l : S, (l.takeWhile p).length ≤ l.length
  | [] => Nat.le_refl _
  | a :: r => by
    rw [List.takeWhile_cons]
    split
    · exact Nat.succ_le_succ (tw_le r)
    · exact Nat.zero_le _
theorem nm_le (l : S) : nmLen l ≤ l.length := by
  cases l with
  | nil => exact Nat.le_refl _
  | cons a r =>
    rw [nm_cons]
    have := tw_le (p := nameB) r
    rw [List.length_cons]
    split <;> omega
/-- behind a dollar sign: the name, and how many signs the field has -/
def fieldD : S → Option (S × Nat)
  | 123 :: r => if nmLen r = 0 then none else if (r.drop (nmLen r)).head? = some 125 then some (r.take (nmLen r), nmLen r + 2) else none
  | l => if nmLen l = 0 then none else some (l.take (nmLen l), nmLen l)
abbrev Pt := Nat ⊕ S
inductive PD : S → Option (List Pt) → Prop
  | nil : PD [] (some [])
  | dd {r : S} {o : Option (List Pt)} : PD r o → PD (36 :: 36 :: r) (o.map (Sum.inl 36 :: ·))
  | fld {l n : S} {k : Nat} {o : Option (List Pt)} : l.head? ≠ some 36 → fieldD l = some (n, k) → PD (l.drop k) o → PD (36 :: l) (o.map (Sum.inr n :: ·))
  | bad {l : S} : l.head? ≠ some 36 → fieldD l = none → PD (36 :: l) none
  | ch {c : Nat} {r : S} {o : Option (List Pt)} : c ≠ 36 → PD r o → PD (c :: r) (o.map (Sum.inl c :: ·))
/-! ### how formats are written -/
def esc : S → S
  | [] => []
  | c :: r => if c = 36 then 36 :: 36 :: esc r else c :: esc r
abbrev Fm := S ⊕ S
/-- a name of letters, digits and _, the first one no digit -/
def nmOk (n : S) : Bool := match n with
  | [] => false
  | c :: r => letB c && r.all nameB
inductive Rnd : List Fm → S → Prop
  | nil : Rnd [] []
  | text {t s : S} {ps : List Fm} : Rnd ps s → Rnd (.inl t :: ps) (esc t ++ s)
  | bare {n s : S} {ps : List Fm} : nmOk n = true → (∀ c, s.head? = some c → nameB c = false) → Rnd ps s → Rnd (.inr n :: ps) (36 :: (n ++ s))
  | brace {n s : S} {ps : List Fm} : nmOk n = true → Rnd ps s → Rnd (.inr n :: ps) (36 :: 123 :: (n ++ 125 :: s))
def flat : List Fm → List Pt
  | [] => []
  | .inl t :: r => t.map Sum.inl ++ flat r
  | .inr n :: r => .inr n :: flat r
theorem nm_of {n s : S} (h : nmOk n = true) (e : ∀ c, s.head? = some c → nameB c = false) : nmLen (n ++ s) = n.length := by
  cases n with
  | nil => cases h
  | cons a r =>
    obtain ⟨h1, h2⟩ := Bool.and_eq_true_iff.mp h
    show (if letB a then 1 + ((r ++ s).takeWhile nameB).length else 0) = r.length + 1
    rw [if_pos h1]
    have z : ((r ++ s).takeWhile nameB).length = r.length := by
      clear h h1
      induction r with
      | nil =>
        cases s with
        | nil => rfl
        | cons c s => show (List.takeWhile nameB (c :: s)).length = 0; rw [List.takeWhile_cons, e c rfl]; rfl
      | cons b r ih =>
        obtain ⟨h3, h4⟩ := Bool.and_eq_true_iff.mp (show (nameB b && r.all nameB) = true from h2)
        show (List.takeWhile nameB (b :: (r ++ s))).length = r.length + 1
        rw [List.takeWhile_cons, h3]
        exact congrArg Nat.succ (ih h4)
    rw [z, Nat.add_comm]
theorem nm_of_tw {n s : S} (h : nmOk n = true) : nmLen (n ++ s) = n.length + (s.takeWhile nameB).length := by
  cases n with
  | nil => cases h
  | cons a r =>
    obtain ⟨h1, h2⟩ := Bool.and_eq_true_iff.mp h
    show (if letB a then 1 + ((r ++ s).takeWhile nameB).length else 0) = r.length + 1 + _
    rw [if_pos h1]
    have z : ((r ++ s).takeWhile nameB).length = r.length + (s.takeWhile nameB).length := by
      clear h h1
      induction r with
      | nil => exact (Nat.zero_add _).symm
      | cons b r ih =>
        obtain ⟨h3, h4⟩ := Bool.and_eq_true_iff.mp (show (nameB b && r.all nameB) = true from h2)
        show (List.takeWhile nameB (b :: (r ++ s))).length = r.length + 1 + _
        rw [List.takeWhile_cons, h3]
        have := ih h4
        show ((r ++ s).takeWhile nameB).length + 1 = _
        omega
    omega
theorem let_ne {c : Nat} (h : letB c = true) : c ≠ 36 ∧ c ≠ 123 := by
  constructor
  · intro z; rw [z] at h; revert h; decide
  · intro z; rw [z] at h; revert h; decide
theorem ok_head {n s : S} (h : nmOk n = true) : (∃ c r, n ++ s = c :: r ∧ letB c = true) := by
  cases n with
  | nil => cases h
  | cons a r => exact ⟨a, r ++ s, rfl, (Bool.and_eq_true_iff.mp h).1⟩
theorem field_bare {l : S} (h : l.head? ≠ some 123) : fieldD l = if nmLen l = 0 then none else some (l.take (nmLen l), nmLen l) := by
  unfold fieldD
  split
  · exact absurd rfl h
  · rfl
theorem pd_text {o : Option (List Pt)} {s : S} (h : PD s o) : ∀ t : S, PD (esc t ++ s) (o.map ((t.map Sum.inl) ++ ·))
  | [] => by
    have e : o.map (([] : List Pt) ++ ·) = o := by cases o <;> rfl
    show PD s (o.map (([] : List Pt) ++ ·))
    rw [e]; exact h
  | c :: t => by
    have ih := pd_text h t
    have e : o.map (((c :: t).map Sum.inl : List Pt) ++ ·) = (o.map ((t.map Sum.inl : List Pt) ++ ·)).map (Sum.inl c :: ·) := by cases o <;> rfl
    rw [e]
    unfold esc
    split
    · rename_i z; subst z; exact .dd ih
    · rename_i z; exact .ch z ih
theorem pd_bare {o : Option (List Pt)} {n s : S} (hn : nmOk n = true) (k : PD (s.dropWhile nameB) o) : PD (36 :: (n ++ s)) (o.map (Sum.inr (n ++ s.takeWhile nameB) :: ·)) := by
  obtain ⟨c, r, e, hc⟩ := ok_head (s := s) hn
  have l1 := nm_of_tw (s := s) hn
  have hd : (s.takeWhile nameB) ++ s.dropWhile nameB = s := List.takeWhile_append_dropWhile
  have sp : n ++ s = (n ++ s.takeWhile nameB) ++ s.dropWhile nameB := by rw [List.append_assoc, hd]
  have ln : n.length + (s.takeWhile nameB).length = (n ++ s.takeWhile nameB).length := (List.length_append ..).symm
  have t1 : (n ++ s).take (n.length + (s.takeWhile nameB).length) = n ++ s.takeWhile nameB := by rw [ln, sp, List.take_left]
  have d1 : (n ++ s).drop (n.length + (s.takeWhile nameB).length) = s.dropWhile nameB := by rw [ln, sp, List.drop_left]
  have pos : nmLen (n ++ s) ≠ 0 := by
    rw [l1]
    cases n with
    | nil => cases hn
    | cons a n => rw [List.length_cons]; omega
  refine .fld (k := nmLen (n ++ s)) (by rw [e]; intro z; exact (let_ne hc).1 (Option.some.inj z)) ?_ (by rw [l1, d1]; exact k)
  rw [field_bare (by rw [e]; intro z; exact (let_ne hc).2 (Option.some.inj z)), if_neg pos, l1, t1]
theorem pd_brace {o : Option (List Pt)} {n s : S} (hn : nmOk n = true) (k : PD s o) : PD (36 :: 123 :: (n ++ 125 :: s)) (o.map (Sum.inr n :: ·)) := by
  have l1 := nm_of (n := n) (s := 125 :: s) hn (fun c e => by cases e; decide)
  have pos : nmLen (n ++ 125 :: s) ≠ 0 := by
    rw [l1]
    cases n with
    | nil => cases hn
    | cons a n => rw [List.length_cons]; omega
  refine .fld (k := n.length + 2) (by intro z; cases z) ?_ ?_
  · show (if nmLen (n ++ 125 :: s) = 0 then none else if ((n ++ 125 :: s).drop (nmLen (n ++ 125 :: s))).head? = some 125 then some ((n ++ 125 :: s).take (nmLen (n ++ 125 :: s)), nmLen (n ++ 125 :: s) + 2) else none) = _
    rw [if_neg pos, l1, List.drop_left, if_pos (show (125 :: s).head? = some 125 from rfl), List.take_left]
  · have e : (123 :: (n ++ 125 :: s)).drop (n.length + 2) = s := by
      show (n ++ 125 :: s).drop (n.length + 1) = s
      rw [show n ++ 125 :: s = (n ++ [125]) ++ s by simp, show n.length + 1 = (n ++ [125]).length by simp, List.drop_left]
    rw [e]; exact k
/-- what is written is read again -/
theorem rnd_pd : ∀ {ps : List Fm} {s : S}, Rnd ps s → PD s (some (flat ps))
  | _, _, .nil => .nil
  | _, _, .text (t := t) h => pd_text (rnd_pd h) t
  | _, _, .bare (n := n) (s := s) hn e h => by
    have z : s.takeWhile nameB = [] := by
      cases s with
      | nil => rfl
      | cons c s => rw [List.takeWhile_cons, e c rfl]; rfl
    have z2 : s.dropWhile nameB = s := by
      cases s with
      | nil => rfl
      | cons c s => rw [List.dropWhile_cons, e c rfl]; rfl
    have := pd_bare (o := some _) (s := s) hn (by rw [z2]; exact rnd_pd h)
    rw [z, List.append_nil] at this
    exact this
  | _, _, .brace hn h => pd_brace (o := some _) hn (rnd_pd h)
/-- what is broken behind what is written is broken -/
theorem rnd_bad {X : S} (h1 : PD X none) (h2 : PD (X.dropWhile nameB) none) : ∀ {ps : List Fm} {s : S}, Rnd ps s → PD (s ++ X) none
  | _, _, .nil => h1
  | _, _, .text (t := t) h => by rw [List.append_assoc]; exact pd_text (rnd_bad h1 h2 h) t
  | _, _, .bare (n := n) (s := s) hn e h => by
    rw [List.cons_append, List.append_assoc]
    cases s with
    | nil => exact pd_bare (o := none) hn (by rw [List.nil_append]; exact h2)
    | cons c s =>
      have z : (c :: s ++ X).dropWhile nameB = c :: s ++ X := by rw [List.cons_append, List.dropWhile_cons, e c rfl]; rfl
      exact pd_bare (o := none) hn (by rw [z]; exact rnd_bad h1 h2 h)
  | _, _, .brace (n := n) (s := s) hn h => by
    have e : (36 :: 123 :: (n ++ 125 :: s)) ++ X = 36 :: 123 :: (n ++ 125 :: (s ++ X)) := by simp
    rw [e]
    exact pd_brace (o := none) hn (rnd_bad h1 h2 h)
/-- without its first signs, as far as they are of names, it is still written -/
theorem rnd_drop : ∀ {ps : List Fm} {s : S}, Rnd ps s → ∃ qs, Rnd qs (s.dropWhile nameB)
  | _, _, .nil => ⟨[], .nil⟩
  | _, _, .bare (n := n) (s := s) hn e h => ⟨_, by
    have z : (36 :: (n ++ s)).dropWhile nameB = 36 :: (n ++ s) := by rw [List.dropWhile_cons, show nameB 36 = false from by decide]; rfl
    rw [z]; exact .bare hn e h⟩
  | _, _, .brace (n := n) (s := s) hn h => ⟨_, by
    have z : (36 :: 123 :: (n ++ 125 :: s)).dropWhile nameB = 36 :: 123 :: (n ++ 125 :: s) := by rw [List.dropWhile_cons, show nameB 36 = false from by decide]; rfl
    rw [z]; exact .brace hn h⟩
  | _, _, .text (t := t) (s := s) (ps := ps) h => by
    induction t with
    | nil => exact rnd_drop h
    | cons c t ih =>
      cases e : nameB c with
      | true =>
        have nc : c ≠ 36 := fun z => by rw [z] at e; revert e; decide
        have z : (esc (c :: t) ++ s).dropWhile nameB = (esc t ++ s).dropWhile nameB := by
          have q : esc (c :: t) = c :: esc t := by show (if c = 36 then _ else _) = _; rw [if_neg nc]
          rw [q, List.cons_append, List.dropWhile_cons, e, if_pos rfl]
        rw [z]; exact ih
      | false =>
        refine ⟨.inl (c :: t) :: ps, ?_⟩
        have z : (esc (c :: t) ++ s).dropWhile nameB = esc (c :: t) ++ s := by
          by_cases d : c = 36
          · subst d
            show (36 :: 36 :: (esc t ++ s)).dropWhile nameB = _
            rw [List.dropWhile_cons, e]; simp [esc]
          · have q : esc (c :: t) = c :: esc t := by show (if c = 36 then _ else _) = _; rw [if_neg d]
            rw [q, List.cons_append, List.dropWhile_cons, e]; rfl
        rw [z]; exact .text h
theorem drop_app {b tail : S} (h : ∀ c, tail.head? = some c → nameB c = false) : (b ++ tail).dropWhile nameB = b.dropWhile nameB ++ tail := by
  induction b with
  | nil =>
    cases tail with
    | nil => rfl
    | cons c t => show (c :: t).dropWhile nameB = _; rw [List.dropWhile_cons, h c rfl]; rfl
  | cons a b ih =>
    rw [List.cons_append, List.dropWhile_cons, List.dropWhile_cons]
    cases nameB a with
    | true => exact ih
    | false => rfl
/-- ahead, behind, something broken at the end that begins with a dollar -/
theorem bad_end {as bs : List Fm} {a b r : S} (ha : Rnd as a) (hb : Rnd bs b) (h : PD (36 :: r) none) : PD (a ++ (b ++ 36 :: r)) none := by
  have h36 : ∀ c, (36 :: r).head? = some c → nameB c = false := fun c e => by cases e; decide
  have hd : (36 :: r).dropWhile nameB = 36 :: r := by rw [List.dropWhile_cons, show nameB 36 = false from by decide]; rfl
  have h2 : PD ((36 :: r).dropWhile nameB) none := by rw [hd]; exact h
  refine rnd_bad (rnd_bad h h2 hb) ?_ ha
  rw [drop_app h36]
  obtain ⟨qs, hq⟩ := rnd_drop hb
  exact rnd_bad h h2 hq
/-- ahead, something broken that begins with a dollar, anything -/
theorem bad_mid {as : List Fm} {a r : S} (ha : Rnd as a) (h : PD (36 :: r) none) : PD (a ++ 36 :: r) none := by
  refine rnd_bad h ?_ ha
  rw [List.dropWhile_cons, show nameB 36 = false from by decide]; exact h
end RP

set_option Elab.async false
set_option linter.all false
set_option maxRecDepth 100000
set_option maxHeartbeats 4000000
/-! Formats in braces, over lists of signs. -/
namespace RO
open RP (S nmLen digB letB nameB digits letters)
def alB (c : Nat) : Bool := decide (c ∈ ([60, 62, 94] : S))
def wdB (l : S) : Bool := (decide (0 < l.length) && decide (l.length < 3)) && (decide (l.head? ≠ some 48) && l.all digB)
/-- fill, align, width as they stand -/
def cut3 : S → S × S × S
  | c :: d :: r => if alB d then ([c], [d], r) else if alB c then ([32], [c], d :: r) else ([32], [], c :: d :: r)
  | [c] => if alB c then ([32], [c], []) else ([32], [], [c])
  | [] => ([32], [], [])
def okB (f a w : S) : Bool := !(decide (f = [123]) || decide (f = [125])) && !(decide (w = []) && decide (a = [])) && (decide (w = []) || wdB w)
def specB (l : S) : Option (S × S × S) := if okB (cut3 l).1 (cut3 l).2.1 (cut3 l).2.2 then some (cut3 l) else none
/-- the conversion, and what is behind it -/
def conv (l : S) : S × S := if l.take 2 = [33, 114] ∨ l.take 2 = [33, 115] then ((l.drop 1).take 1, l.drop 2) else ([], l)
abbrev Fd := S × S × S × S × S
def fieldB (b : S) : Option Fd :=
  if nmLen b = 0 then none else
  match (conv (b.drop (nmLen b))).2 with
  | [] => some (b.take (nmLen b), (conv (b.drop (nmLen b))).1, [32], [], [])
  | c :: r => if c = 58 then (specB r).map fun q => (b.take (nmLen b), (conv (b.drop (nmLen b))).1, q) else none
abbrev Pt := Nat ⊕ Fd
inductive PB : S → Option (List Pt) → Prop
  | nil : PB [] (some [])
  | two {c : Nat} {r : S} {o : Option (List Pt)} : c = 123 ∨ c = 125 → PB r o → PB (c :: c :: r) (o.map (Sum.inl c :: ·))
  | ch {c : Nat} {r : S} {o : Option (List Pt)} : c ≠ 123 → c ≠ 125 → PB r o → PB (c :: r) (o.map (Sum.inl c :: ·))
  | close {r : S} : r.head? ≠ some 125 → PB (125 :: r) none
  | lost {r : S} : r.head? ≠ some 123 → 125 ∉ r → PB (123 :: r) none
  | bad {b r : S} : (b ++ 125 :: r).head? ≠ some 123 → 125 ∉ b → fieldB b = none → PB (123 :: (b ++ 125 :: r)) none
  | fld {b r : S} {f : Fd} {o : Option (List Pt)} : (b ++ 125 :: r).head? ≠ some 123 → 125 ∉ b → fieldB b = some f → PB r o → PB (123 :: (b ++ 125 :: r)) (o.map (Sum.inr f :: ·))
theorem split : ∀ r : S, 125 ∈ r → ∃ b t, r = b ++ 125 :: t ∧ 125 ∉ b
  | [], h => nomatch h
  | c :: r, h => by
    by_cases e : c = 125
    · subst e; exact ⟨[], r, rfl, fun h => nomatch h⟩
    · rcases List.mem_cons.mp h with h | h
      · exact absurd h.symm e
      · obtain ⟨b, t, rfl, hb⟩ := split r h
        refine ⟨c :: b, t, rfl, fun h => ?_⟩
        rcases List.mem_cons.mp h with h | h
        · exact e h.symm
        · exact hb h
theorem total : ∀ (n : Nat) (s : S), s.length ≤ n → ∃ o, PB s o
  | _, [], _ => ⟨_, .nil⟩
  | 0, _ :: _, h => absurd h (Nat.not_succ_le_zero _)
  | n + 1, c :: r, h => by
    have hr : r.length ≤ n := Nat.le_of_succ_le_succ h
    by_cases e1 : c = 123
    · subst e1
      by_cases e : r.head? = some 123
      · cases r with
        | nil => cases e
        | cons d r =>
          cases e
          obtain ⟨o, ho⟩ := total n r (Nat.le_of_succ_le hr)
          exact ⟨_, .two (.inl rfl) ho⟩
      · by_cases m : 125 ∈ r
        · obtain ⟨b, t, rfl, hb⟩ := split r m
          cases f : fieldB b with
          | none => exact ⟨_, .bad e hb f⟩
          | some f' =>
            obtain ⟨o, ho⟩ := total n t (by rw [List.length_append, List.length_cons] at hr; omega)
            exact ⟨_, .fld e hb f ho⟩
        · exact ⟨_, .lost e m⟩
    · by_cases e2 : c = 125
      · subst e2
        by_cases e : r.head? = some 125
        · cases r with
          | nil => cases e
          | cons d r =>
            cases e
            obtain ⟨o, ho⟩ := total n r (Nat.le_of_succ_le hr)
            exact ⟨_, .two (.inr rfl) ho⟩
        · exact ⟨_, .close e⟩
      · obtain ⟨o, ho⟩ := total n r hr
        exact ⟨_, .ch e1 e2 ho⟩
/-- how many braces -/
def brB (c : Nat) : Bool := decide (c = 123 ∨ c = 125)
def cnt (s : S) : Nat := s.countP brB
theorem cnt_app (a b : S) : cnt (a ++ b) = cnt a + cnt b := List.countP_append ..
theorem cnt_zero {s : S} (h : ∀ c ∈ s, c ≠ 123 ∧ c ≠ 125) : cnt s = 0 := by
  unfold cnt
  rw [List.countP_eq_zero]
  intro c hc
  obtain ⟨h1, h2⟩ := h c hc
  unfold brB
  simp [h1, h2]
theorem name_no {c : Nat} (h : nameB c = true) : c ≠ 123 ∧ c ≠ 125 := by
  constructor <;> intro z <;> rw [z] at h <;> revert h <;> decide
theorem dig_no {c : Nat} (h : digB c = true) : c ≠ 123 ∧ c ≠ 125 := by
  constructor <;> intro z <;> rw [z] at h <;> revert h <;> decide
theorem al_no {c : Nat} (h : alB c = true) : c ≠ 123 ∧ c ≠ 125 := by
  constructor <;> intro z <;> rw [z] at h <;> revert h <;> decide
theorem tw_mem {p : Nat → Bool} {c : Nat} : ∀ l : S, c ∈ l.takeWhile p → p c = true
  | [], h => nomatch h
  | a :: r, h => by
    rw [List.takeWhile_cons] at h
    cases e : p a with
    | false => rw [e] at h; cases h
    | true =>
      rw [e] at h
      rcases List.mem_cons.mp h with h | h
      · subst h; exact e
      · exact tw_mem r h
theorem nm_no : ∀ b : S, ∀ c ∈ b.take (nmLen b), c ≠ 123 ∧ c ≠ 125
  | [], _, h => nomatch h
  | a :: r, c, h => by
    rw [RP.nm_cons] at h
    split at h
    · rename_i ha
      rw [show 1 + (r.takeWhile nameB).length = (r.takeWhile nameB).length + 1 by omega, List.take_succ_cons] at h
      rcases List.mem_cons.mp h with h | h
      · subst h; exact name_no (by show (letB c || _) = true; rw [ha]; rfl)
      · refine name_no ?_
        have e : r.take (r.takeWhile nameB).length = r.takeWhile nameB := by
          have hd : r.takeWhile nameB ++ r.dropWhile nameB = r := List.takeWhile_append_dropWhile
          conv => lhs; rw [← hd]
          rw [show (List.takeWhile nameB (List.takeWhile nameB r ++ List.dropWhile nameB r)).length = (List.takeWhile nameB r).length by rw [hd], List.take_left]
        rw [e] at h
        exact tw_mem r h
    · cases h
theorem cut_two (c d : Nat) (r : S) : cut3 (c :: d :: r) = if alB d = true then ([c], [d], r) else if alB c = true then ([32], [c], d :: r) else ([32], [], c :: d :: r) := rfl
theorem cut_one (c : Nat) : cut3 [c] = if alB c = true then ([32], [c], []) else ([32], [], [c]) := rfl
theorem spec_no {l : S} {q : S × S × S} (h : specB l = some q) : ∀ c ∈ l, c ≠ 123 ∧ c ≠ 125 := by
  unfold specB at h
  split at h
  · rename_i hk
    unfold okB at hk
    rw [Bool.and_eq_true, Bool.and_eq_true] at hk
    obtain ⟨⟨h1, _⟩, h3⟩ := hk
    have wno : ∀ w : S, (decide (w = []) || wdB w) = true → ∀ c ∈ w, c ≠ 123 ∧ c ≠ 125 := fun w hw c hc => by
      rcases Bool.or_eq_true_iff.mp hw with z | z
      · rw [of_decide_eq_true z] at hc; cases hc
      · unfold wdB at z
        rw [Bool.and_eq_true] at z
        exact dig_no (List.all_eq_true.mp (Bool.and_eq_true_iff.mp z.2).2 c hc)
    have fno : ∀ c : Nat, (!(decide (([c] : S) = [123]) || decide (([c] : S) = [125]))) = true → c ≠ 123 ∧ c ≠ 125 := fun c hc => by
      constructor <;> intro z <;> rw [z] at hc <;> revert hc <;> decide
    intro c hc
    match l, h1, h3, hc with
    | [], _, _, hc => cases hc
    | [a], h1, h3, hc =>
      obtain rfl := List.mem_singleton.mp hc
      rw [cut_one] at h3
      by_cases ha : alB c = true
      · exact al_no ha
      · rw [if_neg ha] at h3
        exact wno _ h3 _ List.mem_cons_self
    | a :: d :: r, h1, h3, hc =>
      rw [cut_two] at h1 h3
      by_cases hd : alB d = true
      · rw [if_pos hd] at h1 h3
        rcases List.mem_cons.mp hc with rfl | hc
        · exact fno _ h1
        rcases List.mem_cons.mp hc with rfl | hc
        · exact al_no hd
        · exact wno _ h3 _ hc
      · rw [if_neg hd] at h1 h3
        by_cases ha : alB a = true
        · rw [if_pos ha] at h1 h3
          rcases List.mem_cons.mp hc with rfl | hc
          · exact al_no ha
          · exact wno _ h3 _ hc
        · rw [if_neg ha] at h1 h3
          exact wno _ h3 _ hc
  · cases h
theorem conv_no {l r : S} (h : (conv l).2 = r) (hr : ∀ c ∈ r, c ≠ 123 ∧ c ≠ 125) : ∀ c ∈ l, c ≠ 123 ∧ c ≠ 125 := by
  unfold conv at h
  by_cases k : l.take 2 = [33, 114] ∨ l.take 2 = [33, 115]
  · rw [if_pos k] at h
    intro c hc
    rw [← List.take_append_drop 2 l, List.mem_append] at hc
    rcases hc with hc | hc
    · rcases k with k | k
      · rw [k] at hc
        rcases List.mem_cons.mp hc with rfl | hc
        · decide
        · obtain rfl := List.mem_singleton.mp hc; decide
      · rw [k] at hc
        rcases List.mem_cons.mp hc with rfl | hc
        · decide
        · obtain rfl := List.mem_singleton.mp hc; decide
    · exact hr c (h ▸ hc)
  · rw [if_neg k] at h
    subst h; exact hr
theorem field_no {b : S} {f : Fd} (h : fieldB b = some f) : ∀ c ∈ b, c ≠ 123 ∧ c ≠ 125 := by
  unfold fieldB at h
  split at h
  · cases h
  · have tail : ∀ c ∈ b.drop (nmLen b), c ≠ 123 ∧ c ≠ 125 := by
      split at h
      · rename_i e
        exact conv_no e fun c hc => nomatch hc
      · rename_i c r e
        by_cases k : c = 58
        · rw [if_pos k] at h
          cases q : specB r with
          | none => rw [q] at h; cases h
          | some q' =>
            refine conv_no e fun x hx => ?_
            rcases List.mem_cons.mp hx with rfl | hx
            · subst k; decide
            · exact spec_no q x hx
        · rw [if_neg k] at h; cases h
    intro c hc
    rw [← List.take_append_drop (nmLen b) b, List.mem_append] at hc
    rcases hc with hc | hc
    · exact nm_no b c hc
    · exact tail c hc
/-- a right format holds an even number of braces -/
theorem even : ∀ {s : S} {o : Option (List Pt)}, PB s o → o ≠ none → cnt s % 2 = 0
  | _, _, .nil, _ => rfl
  | _, _, .two (c := c) (r := r) (o := o) hc h, k => by
    have ih := even h (fun z => k (by rw [z]; rfl))
    have e : cnt (c :: c :: r) = cnt r + 2 := by
      unfold cnt
      rw [List.countP_cons, List.countP_cons, if_pos (show brB c = true from decide_eq_true hc)]
    rw [e]; omega
  | _, _, .ch (c := c) (r := r) h1 h2 h, k => by
    have ih := even h (fun z => k (by rw [z]; rfl))
    have e : cnt (c :: r) = cnt r := by
      unfold cnt
      rw [List.countP_cons, if_neg (show ¬ brB c = true from fun z => (of_decide_eq_true z).elim h1 h2)]; rfl
    rw [e]; exact ih
  | _, _, .close _, k => absurd rfl k
  | _, _, .lost _ _, k => absurd rfl k
  | _, _, .bad _ _ _, k => absurd rfl k
  | _, _, .fld (b := b) (r := r) _ _ hf h, k => by
    have ih := even h (fun z => k (by rw [z]; rfl))
    have e : cnt (123 :: (b ++ 125 :: r)) = cnt r + 2 := by
      show cnt ([123] ++ (b ++ ([125] ++ r))) = _
      rw [cnt_app, cnt_app, cnt_app, cnt_zero (field_no hf)]
      show 1 + (0 + (1 + cnt r)) = _
      omega
    rw [e]; omega
/-- an odd number: broken -/
theorem odd_none {s : S} (h : cnt s % 2 = 1) : PB s none := by
  obtain ⟨o, ho⟩ := total s.length s (Nat.le_refl _)
  cases o with
  | none => exact ho
  | some ps => have := even ho (fun z => nomatch z); omega
/-- a piece: read as these parts whatever follows -/
def Pc (p : S) (fs : List Pt) : Prop := ∀ (X : S) (o : Option (List Pt)), PB X o → PB (p ++ X) (o.map (fs ++ ·))
theorem Pc.nil : Pc [] [] := fun X o h => by
  have e : o.map (([] : List Pt) ++ ·) = o := by cases o <;> rfl
  rw [e]; exact h
theorem Pc.app {p q : S} {fs gs : List Pt} (h : Pc p fs) (k : Pc q gs) : Pc (p ++ q) (fs ++ gs) := fun X o hX => by
  have e : o.map ((fs ++ gs) ++ ·) = (o.map (gs ++ ·)).map (fs ++ ·) := by cases o <;> simp
  rw [e, List.append_assoc]
  exact h _ _ (k _ _ hX)
theorem Pc.right {p : S} {fs : List Pt} (h : Pc p fs) : PB p (some fs) := by
  have := h [] _ .nil
  rw [List.append_nil] at this
  rw [show some fs = (some ([] : List Pt)).map (fs ++ ·) by simp]
  exact this
theorem Pc.wrong {p X : S} {fs : List Pt} (h : Pc p fs) (k : PB X none) : PB (p ++ X) none := h X none k
def escB : S → S
  | [] => []
  | c :: r => if c = 123 ∨ c = 125 then c :: c :: escB r else c :: escB r
theorem Pc.text : ∀ t : S, Pc (escB t) (t.map Sum.inl)
  | [] => Pc.nil
  | c :: t => fun X o h => by
    have ih := Pc.text t X o h
    have e : o.map ((c :: t).map Sum.inl ++ ·) = (o.map ((t.map Sum.inl : List Pt) ++ ·)).map (Sum.inl c :: ·) := by cases o <;> rfl
    rw [e]
    unfold escB
    by_cases k : c = 123 ∨ c = 125
    · rw [if_pos k]; exact .two k ih
    · rw [if_neg k]; exact .ch (fun z => k (.inl z)) (fun z => k (.inr z)) ih
theorem Pc.field {b : S} {f : Fd} (h : fieldB b = some f) : Pc (123 :: (b ++ [125])) [Sum.inr f] := fun X o hX => by
  have no := field_no h
  have e : 123 :: (b ++ [125]) ++ X = 123 :: (b ++ 125 :: X) := by simp
  rw [e]
  refine .fld (fun z => ?_) (fun z => (no _ z).2 rfl) h hX
  cases b with
  | nil => cases z
  | cons c b => exact (no c List.mem_cons_self).1 (Option.some.inj z)
theorem field_bad {b : S} (h : fieldB b = none) (h1 : 125 ∉ b) (h2 : b.head? ≠ some 123) (X : S) : PB (123 :: (b ++ 125 :: X)) none := by
  refine .bad (fun z => ?_) h1 h
  cases b with
  | nil => cases z
  | cons c b => exact h2 z
end RO

set_option Elab.async false
set_option linter.all false
set_option maxRecDepth 100000
set_option maxHeartbeats 0

namespace K17
open PySem PySem.Spec PyProof.Rows L2 RC
section
variable {P : Program} {w : World} {K : PySem.W.Frag} {mg : Str → Option Value} {base : Heap}
/-! ### messages -/
abbrev CBm (K : PySem.W.Frag) : Addr := He.ga K "BadMessage"
abbrev CBf (K : PySem.W.Frag) : Addr := He.ga K "BadField"
theorem ok_badmessage_init {f : Addr} (T : Txt P w K mg) (F : Stands K "__init__" "BadMessage.__init__" s_BadMessage_init [] f) : Callable P w K mg base 1 f ["self", "msg"] [] (RQ.spExcInit K "msg") := by
  refine F.call0 sc_BadMessage_init (fun vs H Q E h => ?_) (fun cdv A outer s H vs Q E hr h => ?_) (fun _ _ _ _ _ _ us hl => match us, hl with | [_, _], _ => rfl)
  · obtain ⟨a, C, v, rfl, _⟩ := h; rfl
  obtain ⟨a, C, v, rfl, hx, ha, hQ⟩ := h
  refine ⟨_, (pss_one (ps_ost (pv 0) (pv 1))), ?_⟩
  walk_at "in"
  exact RQ.init_rd hx (fun Q h => ⟨_, rfl, h⟩) (fun Q h => ⟨_, rfl, h⟩) ha hQ
theorem ok_badfield_init {f : Addr} (T : Txt P w K mg) (F : Stands K "__init__" "BadField.__init__" s_BadField_init [] f) : Callable P w K mg base 1 f ["self", "name"] [] (RQ.spExcInit K "name") := by
  refine F.call0 sc_BadField_init (fun vs H Q E h => ?_) (fun cdv A outer s H vs Q E hr h => ?_) (fun _ _ _ _ _ _ us hl => match us, hl with | [_, _], _ => rfl)
  · obtain ⟨a, C, v, rfl, _⟩ := h; rfl
  obtain ⟨a, C, v, rfl, hx, ha, hQ⟩ := h
  refine ⟨_, (pss_one (ps_ost (pv 0) (pv 1))), ?_⟩
  walk_at "in"
  exact RQ.init_rd hx (fun Q h => ⟨_, rfl, h⟩) (fun Q h => ⟨_, rfl, h⟩) ha hQ
theorem two_invM : ∀ {s : SS} {as : List SS} {o : Option SS}, PM s as o → ∀ {c : Nat} {r : SS}, s = c :: c :: r → (c = 123 ∨ c = 125) → ∃ o2, PM r as o2 ∧ o = o2.map (c :: ·)
  | _, _, _, .nil, _, _, e, _ => by cases e
  | _, _, _, .left, _, _, e, _ => by cases e
  | _, _, _, .two _ h, _, _, e, _ => by cases e; exact ⟨_, h, rfl⟩
  | _, _, _, .ch h1 h2 _, _, _, e, hc => by cases e; exact (hc.elim h1 h2).elim
  | _, _, _, .arg h, _, _, e, _ => by cases e
  | _, _, _, .bad _ h _, _, _, e, _ => by cases e; exact absurd rfl h
def spMsgOf (K : PySem.W.Frag) : Sp := fun vs H Q E => ∃ (z : Str) (a : Addr) (xs : List V) (o : Option SS), vs = [.str z, .ref a] ∧ H a = some (.tup xs) ∧ (∀ x ∈ xs, PArg x) ∧ z.length ≤ 2000 ∧ xs.length ≤ 100 ∧ PM z.cps.toList (xs.map argS) o ∧
  (∀ (t : SS) (H' : Hp), o = some t → Same H H' → Q (.str (tx t)) H') ∧ (∀ (d : Addr) (H1 : Hp), o = none → Same H H1 → H1 d = none → E (.ref (CBm K)) (some d) (upd H1 d (.xd [("msg", .str z)])))
theorem s_pair : Str.ofString "{}" = tx [123, 125] := by decide +kernel
/-- what holds in the loop -/
def MInv (H : Hp) (z : Str) (a p : Addr) (xs : List V) (o : Option SS) (m : Nat) (σ : L2.St) (H' : Hp) : Prop := Same H H' ∧ ∃ (i u : Nat) (ws : List Str) (o' : Option SS) (a1 b1 : Option V), m = z.length - i ∧ i ≤ z.length ∧ u ≤ xs.length ∧ ws.length ≤ i ∧ (catS ws).length ≤ i + 2000 * u ∧ H' p = some (.lst (ws.map V.str)) ∧ PM (z.cps.toList.drop i) ((xs.drop u).map argS) o' ∧ o = o'.map (catS ws ++ ·) ∧
    σ = [some (.str z), some (.ref a), some (.ref p), some (.int (i : Nat)), some (.int (u : Nat)), a1, b1]
theorem ok_message_of {f : Addr} (T : Txt P w K mg) (F : Stands K "message_of" "message_of" s_message_of [] f) (c_BadMessage_init : Callable P w K mg base 1 (He.ma K (He.ga K "BadMessage") "__init__") ["self", "msg"] [] (RQ.spExcInit K "msg")) : RH.CallN P w K mg base 4 f ["msg", "args"] [] (spMsgOf K) := by
  refine RH.stands_callN0 F sc_message_of (fun vs H Q E h => ?_) (fun cdv A outer s H vs Q E hr h => ?_) (fun _ _ _ _ _ _ us hl => match us, hl with | [_, _], _ => rfl)
  · obtain ⟨z, a, xs, o, rfl, _⟩ := h; rfl
  obtain ⟨z, a, xs, o, rfl, ha, hx, hz, hl, hP, hQ, hE⟩ := h
  refine ⟨_, (pss_cons (ps_par3 (by rfl) sc_message_of.nd (i := 2) (j := 3) (l := 4) rfl rfl rfl (by decide) (by decide) (by decide) rfl rfl rfl (pa_cons (pe_lst pa_nil) (pa_cons pe_int (pa_cons pe_int pa_nil))) (by rfl))
      (pss_cons (ps_while (passes_of rfl) (pt_cmpR op_lt (pv 3) (pe_callB call_len_str (by rfl) T.b_len (by decide +kernel) (pa_cons (pv 0) pa_nil)) (nomark _)) (pss_cons (ps_par (by rfl) sc_message_of.nd (i := 5) (j := 6) rfl rfl (by decide) rfl rfl (pa_cons (pe_ix ix_str (pv 0) (pv 3) (fun _ _ => rfl)) (pa_cons (pe_slice sl_str (pv 0) (po_some (pv 3)) (po_some (pe_op op_add (pv 3) pe_int))) pa_nil)) (by rfl))
      (pss_one (ps_if (pt_cmpR (show OpR _ (compareOp .NotIn) (rIn K true) from op_notIn_seq) (pv 5) (pe_tup (pa_cons pe_str (pa_cons pe_str pa_nil))) (by rfl)) (pss_cons (ps_expr (pe_bm PySem.F.plainAttrs_list PySem.F.slot_list_append PySem.F.type_list_append mt_append (pv 2) (pa_cons (pv 5) pa_nil)))
      (pss_one (ps_aug (i := 3) sc_message_of.nd rfl (by first | exact Or.inl rfl | exact Or.inr rfl) pe_int ip_add))) (pss_one (ps_if (pt_cmpR op_in_seq (pv 6) (pe_tup (pa_cons pe_str (pa_cons pe_str pa_nil))) (by rfl)) (pss_cons (ps_expr (pe_bm PySem.F.plainAttrs_list PySem.F.slot_list_append PySem.F.type_list_append mt_append (pv 2) (pa_cons (pv 5) pa_nil)))
      (pss_one (ps_aug (i := 3) sc_message_of.nd rfl (by first | exact Or.inl rfl | exact Or.inr rfl) pe_int ip_add))) (pss_one (ps_if (PW.pt (pw_and (pt_cmpR op_eq (pv 6) pe_str (nomark _)) (pw_and1 (pt_cmpR op_lt (pv 4) (pe_callB call_len (by rfl) T.b_len (by decide +kernel) (pa_cons (pv 1) pa_nil)) (nomark _))))) (pss_cons (ps_expr (pe_bm PySem.F.plainAttrs_list PySem.F.slot_list_append PySem.F.type_list_append mt_append (pv 2) (pa_cons (RA.PE.or (pe_callTy call_str_int (by rfl) T.b_str (by decide +kernel) (pa_cons (pe_ix ix_tup (pv 1) (pv 4) (fun _ _ => rfl)) pa_nil)) (pe_callTy SkE.call_str_str (by rfl) T.b_str (by decide +kernel) (pa_cons (pe_ix ix_tup (pv 1) (pv 4) (fun _ _ => rfl)) pa_nil))) pa_nil)))
      (pss_cons (ps_aug (i := 4) sc_message_of.nd rfl (by first | exact Or.inl rfl | exact Or.inr rfl) pe_int ip_add)
      (pss_one (ps_aug (i := 3) sc_message_of.nd rfl (by first | exact Or.inl rfl | exact Or.inr rfl) pe_int ip_add)))) (pss_one (RH.ps_excN rfl (L2N.takes_of rfl rfl rfl rfl) T.x_BadMessage c_BadMessage_init (hr.mono (by first | decide | exact Nat.le_refl _)) T.g_BadMessage (by rfl) (pa_cons (pv 0) pa_nil)))))))))))
      (pss_cons (ps_if (pt_cmpR op_lt (pv 4) (pe_callB call_len (by rfl) T.b_len (by decide +kernel) (pa_cons (pv 1) pa_nil)) (nomark _)) (pss_one (RH.ps_excN rfl (L2N.takes_of rfl rfl rfl rfl) T.x_BadMessage c_BadMessage_init (hr.mono (by first | decide | exact Nat.le_refl _)) T.g_BadMessage (by rfl) (pa_cons (pv 0) pa_nil))) pss_nil)
      (pss_one (ps_ret (pe_join pe_str (pv 2))))))), ?_⟩
  walk_at "in"
  dsimp only [cxK2]
  have hlz : z.cps.toList.length = z.length := Array.length_toList ..
  have hz2 : z.length ≤ sizeLine := by rw [sizeLine_eq]; omega
  walk_at "go"
  intro p fp
  walk_at "go"
  have npa : p ≠ a := fun e => by rw [e, ha] at fp; cases fp
  refine ⟨MInv H z a p xs o, ⟨_, same_new fp _, 0, 0, [], o, _, _, rfl, Nat.zero_le _, Nat.zero_le _, Nat.zero_le _, Nat.zero_le _, upd_same, hP, by cases o <;> rfl, rfl⟩, ?_⟩
  rintro m σ H1 ⟨s1, i, u, ws, o', a1, b1, rfl, hi, hu, hw, hcl, hp, hd, ho, rfl⟩
  have ha1 := s1 _ _ ha
  rw [s_open2, s_close2, s_open, s_close, s_pair]
  by_cases c : i < z.length
  · have t1 : decide (((i : Nat) : Int) < (z.length : Nat)) = true := decide_eq_true (by omega)
    have c2 : cutS z (some (i : Int)) (some ((i : Int) + 2)) = tx ((z.cps.toList.drop i).take 2) := cut_two hi
    obtain ⟨ch, hc⟩ : ∃ ch, z.cps.toList[i]? = some ch := ⟨_, List.getElem?_eq_getElem (by rw [hlz]; exact c)⟩
    have hat : atI z.cps.toList ((i : Nat) : Int) = some ch := atI_nat hc
    have hdr : z.cps.toList.drop i = ch :: z.cps.toList.drop (i + 1) := by
      obtain ⟨h1, h2⟩ := List.getElem?_eq_some_iff.mp hc
      rw [← h2]; exact List.drop_eq_getElem_cons h1
    generalize hr0 : z.cps.toList.drop (i + 1) = r at hdr
    have hlr : r.length = z.length - (i + 1) := by rw [← hr0, List.length_drop, hlz]
    rw [hdr] at hd c2
    have hsz : (ws.map V.str).length < sizeLine := by rw [List.length_map, sizeLine_eq]; omega
    have next : ∀ (j u2 : Nat) (e e2 : Int) (w : Str) (H2 : Hp) (o2 : Option SS) (a2 b2 : Option V), e = (j : Int) → e2 = (u2 : Int) → i < j → j ≤ z.length → u2 ≤ xs.length → (catS ws).length + w.length ≤ j + 2000 * u2 → Same H1 H2 → PM (z.cps.toList.drop j) ((xs.drop u2).map argS) o2 → o = o2.map ((catS ws ++ w.cps.toList) ++ ·) →
        ∃ m', m' < z.length - i ∧ MInv H z a p xs o m' [some (.str z), some (.ref a), some (.ref p), some (.int e), some (.int e2), a2, b2] (upd H2 p (.lst (ws.map V.str ++ [.str w]))) := fun j u2 e e2 w H2 o2 a2 b2 h1 h2 h3 h4 h5 h6 h7 h8 h9 =>
      ⟨z.length - j, by omega, fun b v hb => (by rw [upd_ne (ne_of_none hb fp)]; exact h7 _ _ (s1 _ _ hb)), j, u2, ws ++ [w], o2, a2, b2, rfl, h4, h5, by rw [List.length_append]; show ws.length + 1 ≤ j; omega, by
        have hw2 : w.cps.toList.length = w.length := Array.length_toList ..
        rw [catS_snoc, List.length_append, hw2]; exact h6, by rw [upd_same, List.map_append]; rfl, h8, by rw [catS_snoc]; exact h9, by rw [h1, h2]⟩
    walk_at "go"
    obtain ⟨N, hN⟩ : ∃ N : L2.St → Hp → Prop, N = fun σ' H' => ∃ m', m' < z.length - i ∧ MInv H z a p xs o m' σ' H' := ⟨_, rfl⟩
    refine ⟨N, fun σ' H' h => by rw [hN] at h; exact h, ?_⟩
    walk_at "go"
    intro q fq
    have s2 : Same H1 (upd H1 q (.tup [.str (tx [123]), .str (tx [125])])) := same_new fq _
    have hq : (upd H1 q (.tup [.str (tx [123]), .str (tx [125])])) q = some (.tup [.str (tx [123]), .str (tx [125])]) := upd_same
    generalize upd H1 q (.tup [.str (tx [123]), .str (tx [125])]) = H2 at s2 hq ⊢
    have hp2 := s2 _ _ hp
    have ha2 := s2 _ _ ha1
    refine ⟨q, _, rfl, .inr (SqT.of hq), rfl, rfl, _, rfl, ?_⟩
    have vG : inV (.str ⟨#[ch]⟩) [V.str (tx [123]), V.str (tx [125])] = decide ([ch] ∈ ([[123], [125]] : List (List Nat))) := inV_tx [ch] [[123], [125]]
    have mG : (ch = 123 ∨ ch = 125) → [ch] ∈ ([[123], [125]] : List (List Nat)) := fun h => by rcases h with rfl | rfl <;> decide
    generalize hg : (xs.drop u).map argS = as at hd
    have e1 : tx [ch] = ⟨#[ch]⟩ := rfl
    have l1 : (⟨#[ch]⟩ : Str).length = 1 := rfl
    cases hd with
    | @ch _ _ _ o2 h1 h2 h3 =>
      have v1 : (!inV (.str ⟨#[ch]⟩) [V.str (tx [123]), V.str (tx [125])]) = true := by
        rw [vG, decide_eq_false fun h => ?_]; rfl
        rcases List.mem_cons.mp h with h | h
        · cases h; exact h1 rfl
        · cases List.mem_singleton.mp h; exact h2 rfl
      refine iteT' v1 ?_
      walk_at "go"
      rw [hN]
      refine next (i + 1) u ((i : Int) + 1) (u : Nat) ⟨#[ch]⟩ H2 o2 _ _ (by omega) rfl (by omega) (by omega) hu (by rw [l1]; omega) s2 (by rw [hr0, hg]; exact h3) ?_
      rw [ho]; cases o2 <;> simp
    | @two _ r2 _ o2 h1 h3 =>
      have v1 : (!inV (.str ⟨#[ch]⟩) [V.str (tx [123]), V.str (tx [125])]) = false := by rw [vG, decide_eq_true (mG h1)]; rfl
      refine iteF' v1 ?_
      walk_at "go"
      intro q2 fq2
      have s3 := s2.trans (same_new fq2 (.tup [.str (tx [123, 123]), .str (tx [125, 125])]))
      have hp3 := same_new fq2 (.tup [.str (tx [123, 123]), .str (tx [125, 125])]) _ _ hp2
      have hq2 : (upd H2 q2 (.tup [.str (tx [123, 123]), .str (tx [125, 125])])) q2 = some (.tup [.str (tx [123, 123]), .str (tx [125, 125])]) := upd_same
      generalize upd H2 q2 (.tup [.str (tx [123, 123]), .str (tx [125, 125])]) = H3 at s3 hp3 hq2 ⊢
      refine ⟨q2, _, rfl, .inr (SqT.of hq2), rfl, rfl, _, rfl, ?_⟩
      have vF : inV (.str (cutS z (some (i : Int)) (some ((i : Int) + 2)))) [V.str (tx [123, 123]), V.str (tx [125, 125])] = true := by
        rw [c2]
        refine (inV_tx _ [[123, 123], [125, 125]]).trans (decide_eq_true ?_)
        rcases h1 with rfl | rfl
        · exact List.mem_cons_self
        · exact List.mem_cons_of_mem _ List.mem_cons_self
      refine iteT' vF ?_
      walk_at "go"
      rw [List.length_cons] at hlr
      rw [hN]
      refine next (i + 2) u ((i : Int) + 2) (u : Nat) ⟨#[ch]⟩ H3 o2 _ _ (by omega) rfl (by omega) (by omega) hu (by rw [l1]; omega) s3 (by rw [show i + 2 = (i + 1) + 1 by omega, ← List.drop_drop, hr0, hg]; exact h3) ?_
      rw [ho]; cases o2 <;> simp
    | @arg r2 a0 as o2 h3 =>
      have v1 : (!inV (.str ⟨#[123]⟩) [V.str (tx [123]), V.str (tx [125])]) = false := by rw [vG, decide_eq_true (mG (.inl rfl))]; rfl
      refine iteF' v1 ?_
      walk_at "go"
      intro q2 fq2
      have s3 := s2.trans (same_new fq2 (.tup [.str (tx [123, 123]), .str (tx [125, 125])]))
      have hp3 := same_new fq2 (.tup [.str (tx [123, 123]), .str (tx [125, 125])]) _ _ hp2
      have hq2 : (upd H2 q2 (.tup [.str (tx [123, 123]), .str (tx [125, 125])])) q2 = some (.tup [.str (tx [123, 123]), .str (tx [125, 125])]) := upd_same
      generalize upd H2 q2 (.tup [.str (tx [123, 123]), .str (tx [125, 125])]) = H3 at s3 hp3 hq2 ⊢
      refine ⟨q2, _, rfl, .inr (SqT.of hq2), rfl, rfl, _, rfl, ?_⟩
      have vF : inV (.str (cutS z (some (i : Int)) (some ((i : Int) + 2)))) [V.str (tx [123, 123]), V.str (tx [125, 125])] = false := by
        rw [c2]
        exact (inV_tx _ [[123, 123], [125, 125]]).trans (decide_eq_false (by show ¬ ([123, 125] : List Nat) ∈ ([[123, 123], [125, 125]] : List (List Nat)); decide))
      refine iteF' vF ?_
      have cu : u < xs.length := by
        rcases Nat.lt_or_ge u xs.length with h | h
        · exact h
        · rw [List.drop_eq_nil_of_le h] at hg; cases hg
      obtain ⟨x, hxu⟩ : ∃ x, xs[u]? = some x := ⟨_, List.getElem?_eq_getElem cu⟩
      have hd2 : xs.drop u = x :: xs.drop (u + 1) := by
        obtain ⟨h1, h2⟩ := List.getElem?_eq_some_iff.mp hxu
        rw [← h2]; exact List.drop_eq_getElem_cons h1
      rw [hd2, List.map_cons] at hg
      obtain ⟨rfl, rfl⟩ := List.cons.inj hg
      have ha3 := s3 _ _ ha1
      have t3 : decide (V.str (cutS z (some (i : Int)) (some ((i : Int) + 2))) = V.str (tx [123, 125])) = true := by rw [c2]; exact decide_eq_true rfl
      have t4 : decide (((u : Nat) : Int) < (xs.length : Nat)) = true := decide_eq_true (by omega)
      have hat2 : atI xs ((u : Nat) : Int) = some x := atI_nat hxu
      rw [List.length_cons] at hlr
      have fin : ∀ (w : Str) (a2 b2 : Option V), w.cps.toList = argS x → w.length ≤ 2000 → ∃ m', m' < z.length - i ∧ MInv H z a p xs o m' [some (.str z), some (.ref a), some (.ref p), some (.int ((i : Int) + 2)), some (.int ((u : Int) + 1)), a2, b2] (upd H3 p (.lst (ws.map V.str ++ [.str w]))) := fun w a2 b2 hw2 hw3 => by
        refine next (i + 2) (u + 1) _ _ w H3 o2 a2 b2 (by omega) (by omega) (by omega) (by omega) (by omega) (by omega) s3 (by rw [show i + 2 = (i + 1) + 1 by omega, ← List.drop_drop, hr0]; exact h3) ?_
        rw [ho, hw2]; cases o2 <;> simp
      rcases hx x (List.mem_of_getElem? hxu) with ⟨y, rfl, hy⟩ | ⟨k, rfl, hk⟩
      · walk_at "go"
        refine .inr ?_
        walk_at "go"
        rw [hN]
        exact fin y _ _ rfl hy
      · have hl2 : k.natAbs.log2 < 1920 := by
          by_cases c : k.natAbs = 0
          · rw [c]; decide
          · have := (Nat.log2_lt c).mpr hk; omega
        walk_at "go"
        refine .inl ?_
        walk_at "go"
        have hlk := RN.len_toString k
        rw [hN]
        refine fin _ _ _ rfl ?_
        have h64 : k.natAbs.log2 < 63 := by
          by_cases c : k.natAbs = 0
          · rw [c]; decide
          · exact (Nat.log2_lt c).mpr hk
        show (Str.ofString (toString k)).length ≤ 2000
        omega
    | bad h1 h2 h3 =>
      have v1 : (!inV (.str ⟨#[ch]⟩) [V.str (tx [123]), V.str (tx [125])]) = false := by rw [vG, decide_eq_true (mG h1)]; rfl
      refine iteF' v1 ?_
      walk_at "go"
      intro q2 fq2
      have s3 := s2.trans (same_new fq2 (.tup [.str (tx [123, 123]), .str (tx [125, 125])]))
      have hp3 := same_new fq2 (.tup [.str (tx [123, 123]), .str (tx [125, 125])]) _ _ hp2
      have hq2 : (upd H2 q2 (.tup [.str (tx [123, 123]), .str (tx [125, 125])])) q2 = some (.tup [.str (tx [123, 123]), .str (tx [125, 125])]) := upd_same
      generalize upd H2 q2 (.tup [.str (tx [123, 123]), .str (tx [125, 125])]) = H3 at s3 hp3 hq2 ⊢
      refine ⟨q2, _, rfl, .inr (SqT.of hq2), rfl, rfl, _, rfl, ?_⟩
      have tk : ∀ x y : Nat, (ch :: r).take 2 = [x, y] → ch = x ∧ r.head? = some y := fun x y h => by
        cases r with
        | nil => cases h
        | cons d r => cases h; exact ⟨rfl, rfl⟩
      have vF : inV (.str (cutS z (some (i : Int)) (some ((i : Int) + 2)))) [V.str (tx [123, 123]), V.str (tx [125, 125])] = false := by
        rw [c2]
        refine (inV_tx _ [[123, 123], [125, 125]]).trans (decide_eq_false fun h => ?_)
        rcases List.mem_cons.mp h with h | h
        · obtain ⟨e1, e2⟩ := tk _ _ h; rw [e1] at h2; exact h2 e2
        · obtain ⟨e1, e2⟩ := tk _ _ (List.mem_singleton.mp h); rw [e1] at h2; exact h2 e2
      refine iteF' vF ?_
      have s13 : Same H H3 := s1.trans s3
      have ha3 := s3 _ _ ha1
      have on : o = none := by rw [ho]; rfl
      by_cases e : (ch :: r).take 2 = [123, 125]
      · have t3 : decide (V.str (cutS z (some (i : Int)) (some ((i : Int) + 2))) = V.str (tx [123, 125])) = true := by rw [c2, tx_dec]; exact decide_eq_true e
        obtain ⟨e1, e2⟩ := tk _ _ e
        have ea : as = [] := by
          rcases h3 with h | h | h
          · rw [e1] at h; cases h
          · exact absurd e2 h
          · exact h
        have t4 : decide (((u : Nat) : Int) < (xs.length : Nat)) = false := decide_eq_false fun h => by
          have cu : u < xs.length := by omega
          rw [List.drop_eq_getElem_cons cu, ea] at hg
          cases hg
        walk_at "go"
        intro d fd
        exact hE d _ on s13 fd
      · have t3 : decide (V.str (cutS z (some (i : Int)) (some ((i : Int) + 2))) = V.str (tx [123, 125])) = false := by rw [c2, tx_dec]; exact decide_eq_false e
        walk_at "go"
        intro d fd
        exact hE d _ on s13 fd
  · have t1 : decide (((i : Nat) : Int) < (z.length : Nat)) = false := decide_eq_false (by omega)
    have d0 : z.cps.toList.drop i = [] := List.drop_eq_nil_of_le (by omega)
    rw [d0] at hd
    by_cases cu : u < xs.length
    · have t2 : decide (((u : Nat) : Int) < (xs.length : Nat)) = true := decide_eq_true (by omega)
      have on : o = none := by
        obtain ⟨x, r, hx⟩ : ∃ x r, xs.drop u = x :: r := ⟨_, _, List.drop_eq_getElem_cons cu⟩
        rw [hx] at hd
        cases hd; rw [ho]; rfl
      walk_at "go"
      intro d fd
      exact hE d _ on s1 fd
    · have t2 : decide (((u : Nat) : Int) < (xs.length : Nat)) = false := decide_eq_false (by omega)
      have os : o = some (catS ws) := by
        rw [List.drop_eq_nil_of_le (by omega)] at hd
        cases hd; rw [ho]; show some (catS ws ++ []) = _; rw [List.append_nil]
      walk_at "go"
      refine ⟨⟨_, rfl⟩, _, rfl, "", p, ws, rfl, rfl, .inl (SqL.of hp), ?_, ?_⟩
      · rw [catS_len]; show _ + ws.length * 0 ≤ _; omega
      · rw [join_cat]; exact hQ _ _ os s1
end
end K17

set_option Elab.async false
set_option linter.all false
set_option maxRecDepth 100000
set_option maxHeartbeats 0

namespace K17
open PySem PySem.Spec PyProof.Rows L2 RC
section
variable {P : Program} {w : World} {K : PySem.W.Frag} {mg : Str → Option Value} {base : Heap}
/-! ### what a record holds, its message -/
structure Rc where
  name : Str
  lv : Int
  ln : Str
  msg : Str
  clk : Int
  ns : List Int
structure Rc.Ok (d : Rc) : Prop where
  nm : d.name.length ≤ 2000
  l : d.lv.natAbs < 2 ^ 63
  lnl : d.ln.length ≤ 2000
  ms : d.msg.length ≤ 2000
  nsl : d.ns.length ≤ 100
  nsv : ∀ n ∈ d.ns, n.natAbs < 2 ^ 63
  ck : d.clk.natAbs < 2 ^ 63
abbrev RcAt (K : PySem.W.Frag) (H : Hp) (r : Addr) (d : Rc) : Prop := RecAt K H r d.name d.lv d.ln d.msg d.clk (d.ns.map V.int)
def MsgO (d : Rc) (o : Option SS) : Prop := (d.ns = [] ∧ o = some d.msg.cps.toList) ∨ (d.ns ≠ [] ∧ PM d.msg.cps.toList ((d.ns.map V.int).map argS) o)
theorem sh_intsT (ns : List Int) : SeqAt.shaped (.tuple (ns.map PyData.int)) = true := by
  unfold SeqAt.shaped
  simp [PyData.canLay0, PyData.depth, can_ints, dep_ints]
theorem eqv_nil (n : Int) (r : List Int) : PyData.eqv (.tuple ((n :: r).map PyData.int)) (.tuple []) = false := by
  first | rfl | simp [PyData.eqv, PyData.eqvAll] | (unfold PyData.eqv; rfl)
/-- the error of a wrong message -/
def ErrM (K : PySem.W.Frag) (H : Hp) (E : XK) (d : Rc) : Prop := ∀ (dx : Addr) (H1 : Hp), Same H H1 → H1 dx = none → E (.ref (CBm K)) (some dx) (upd H1 dx (.xd [("msg", .str d.msg)]))
def spMessage (K : PySem.W.Frag) : Sp := fun vs H Q E => ∃ (r : Addr) (d : Rc) (o : Option SS), vs = [.ref r] ∧ RcAt K H r d ∧ d.Ok ∧ MsgO d o ∧ (∀ (t : SS) (H' : Hp), o = some t → Same H H' → Q (.str (tx t)) H') ∧ (o = none → ErrM K H E d)
theorem ok_message {f : Addr} (T : Txt P w K mg) (F : Stands K "message" "LogRecord.message" s_LogRecord_message [] f) (c_message_of : RH.CallN P w K mg base 4 (He.ga K "message_of") ["msg", "args"] [] (spMsgOf K)) : RH.CallN P w K mg base 5 f ["self"] [] (spMessage K) := by
  refine RH.stands_callN0 F sc_LogRecord_message (fun vs H Q E h => ?_) (fun cdv A outer s H vs Q E hr h => ?_) (fun _ _ _ _ _ _ us hl => match us, hl with | [_], _ => rfl)
  · obtain ⟨r, d, o, rfl, _⟩ := h; rfl
  obtain ⟨r, d, o, rfl, ⟨dx, g, e, hr1, hg, he⟩, hok, hM, hQ, hE⟩ := h
  refine ⟨_, (pss_one (ps_ret (pe_ifExp (pt_cmpR (op_eqD hr.units) (pe_fld (pv 0) rfl) (pe_tup pa_nil) (nomark _)) (pe_fld (pv 0) rfl) (RH.pe_fnN (L2N.takes_of rfl rfl rfl rfl) T.g_message_of c_message_of (hr.mono (by first | decide | exact Nat.le_refl _)) (by rfl) (pa_cons (pe_fld (pv 0) rfl) (pa_cons (pe_fld (pv 0) rfl) pa_nil)))))), ?_⟩
  dsimp only [cxK2]
  walk_at "go"
  intro p fp
  have s1 := same_new fp (.tup [])
  have hg2 := s1 _ _ hg
  have hr2 := s1 _ _ hr1
  have hp2 := upd_same (H := H) (a := p) (o := .tup [])
  generalize upd H p (.tup []) = H1 at s1 hg2 hr2 hp2 ⊢
  refine ⟨_, _, Dp.tup (SqT.of hg2) (dp_ints _), Dp.tup (SqT.of hp2) .nil, sh_intsT _, by decide +kernel, ?_⟩
  rcases hM with ⟨h0, rfl⟩ | ⟨h0, hP⟩
  · rw [h0] at hg2 ⊢
    refine ⟨true, rfl, iteT ?_⟩
    walk_at "go"
    rw [← tx_of d.msg]
    exact hQ _ _ rfl s1
  · obtain ⟨n, r2, h1⟩ : ∃ n r, d.ns = n :: r := by
      cases e : d.ns with
      | nil => exact absurd e h0
      | cons n r => exact ⟨n, r, rfl⟩
    refine ⟨false, by rw [h1, eqv_nil], iteF ?_⟩
    have hx : ∀ x ∈ d.ns.map V.int, PArg x := fun x hx => by
      obtain ⟨n, hn, rfl⟩ := List.mem_map.mp hx
      exact .inr ⟨n, rfl, hok.nsv n hn⟩
    have hl : (d.ns.map V.int).length ≤ 100 := by rw [List.length_map]; exact hok.nsl
    have hms := hok.ms
    walk_at "go"
    exact ⟨fun t H' ho s2 => hQ t H' ho (s1.trans s2), fun d2 H2 ho s2 fd => hE ho d2 H2 (s1.trans s2) fd⟩
end
end K17

set_option Elab.async false
set_option linter.all false
set_option maxRecDepth 100000
set_option maxHeartbeats 0
namespace K17
open PySem PySem.Spec PyProof.Rows L2 RC
section
variable {P : Program} {w : World} {K : PySem.W.Frag} {mg : Str → Option Value} {base : Heap}
/-! ### fields of a record -/
theorem valV_none {kvs : List (Key × V)} {k : Key} (h : ∀ p ∈ kvs, p.1 ≠ k) : valV kvs k = none := by
  induction kvs with
  | nil => rfl
  | cons p r ih => rw [valV_neg (h p List.mem_cons_self)]; exact ih fun q hq => h q (List.mem_cons_of_mem _ hq)
def ownKeys : List Str := ["name", "levelno", "levelname", "msg", "args", "created", "msecs"]
def own7 (d : Rc) (g : Addr) : List (Key × V) := [(Sum.inr "name", .str d.name), (Sum.inr "levelno", .int d.lv), (Sum.inr "levelname", .str d.ln), (Sum.inr "msg", .str d.msg), (Sum.inr "args", .ref g), (Sum.inr "created", .int d.clk), (Sum.inr "msecs", .int (d.clk % 1000))]
def fval (d : Rc) (nm : Str) : Option V := ([((Sum.inr "name" : Key), V.str d.name), (Sum.inr "levelno", .int d.lv), (Sum.inr "levelname", .str d.ln), (Sum.inr "msg", .str d.msg), (Sum.inr "created", .int d.clk), (Sum.inr "msecs", .int (d.clk % 1000))].find? (fun p => decide (p.1 = Sum.inr nm))).map (·.2)
/-- what a formatter writes, or the error -/
inductive TxO
  | tx (s : SS)
  | msg
  | fld (nm : Str)
inductive FldO (d : Rc) (nm : Str) : TxO → Prop
  | msgT {t : SS} : nm = "message" → MsgO d (some t) → FldO d nm (.tx t)
  | msgE : nm = "message" → MsgO d none → FldO d nm .msg
  | val {v : V} : nm ≠ "message" → fval d nm = some v → nm ∈ (["name", "levelno", "levelname", "msg", "created", "msecs"] : List Str) → FldO d nm (.tx (argS v))
  | bad : nm ≠ "message" → nm ∉ ownKeys → FldO d nm (.fld nm)
def ErrF (K : PySem.W.Frag) (H : Hp) (E : XK) (nm : Str) : Prop := ∀ (dx : Addr) (H1 : Hp), Same H H1 → H1 dx = none → E (.ref (CBf K)) (some dx) (upd H1 dx (.xd [("name", .str nm)]))
/-- values that are told -/
def VOk (v : V) : Prop := (∃ z : Str, v = .str z ∧ z.length ≤ 1000000) ∨ ∃ i : Int, v = .int i ∧ i.natAbs < 2 ^ 63
theorem fval_own {d : Rc} {nm : Str} {v : V} (hok : d.Ok) (h : fval d nm = some v) (hm : nm ∈ (["name", "levelno", "levelname", "msg", "created", "msecs"] : List Str)) (g : Addr) : valV (own7 d g) (Sum.inr nm) = some v ∧ VOk v ∧ PlainV v := by
  have n1 := hok.nm
  have n2 := hok.lnl
  have n3 := hok.ms
  have n4 := hok.ck
  simp only [List.mem_cons, List.not_mem_nil, or_false] at hm
  rcases hm with rfl | rfl | rfl | rfl | rfl | rfl
  · have h' : some (V.str d.name) = some v := h
    cases h'; exact ⟨rfl, .inl ⟨_, rfl, by omega⟩, .str _⟩
  · have h' : some (V.int d.lv) = some v := h
    cases h'; exact ⟨rfl, .inr ⟨_, rfl, hok.l⟩, .int _⟩
  · have h' : some (V.str d.ln) = some v := h
    cases h'; exact ⟨rfl, .inl ⟨_, rfl, by omega⟩, .str _⟩
  · have h' : some (V.str d.msg) = some v := h
    cases h'; exact ⟨rfl, .inl ⟨_, rfl, by omega⟩, .str _⟩
  · have h' : some (V.int d.clk) = some v := h
    cases h'; exact ⟨rfl, .inr ⟨_, rfl, hok.ck⟩, .int _⟩
  · have h' : some (V.int (d.clk % 1000)) = some v := h
    cases h'; exact ⟨rfl, .inr ⟨_, rfl, by omega⟩, .int _⟩
theorem fval_not {d : Rc} {nm : Str} (h : nm ∉ ownKeys) (g : Addr) : valV (own7 d g) (Sum.inr nm) = none := valV_none fun p hp z => by
  have hm : p.1 ∈ (own7 d g).map (·.1) := List.mem_map_of_mem hp
  have e : (own7 d g).map (·.1) = ownKeys.map (Sum.inr : Str → Key) := rfl
  rw [e, z] at hm
  obtain ⟨k, hk, ek⟩ := List.mem_map.mp hm
  cases ek; exact h hk
/-- what is told of the value of a field -/
def ValO (K : PySem.W.Frag) (H : Hp) (Q : VK) (E : XK) (d : Rc) (o : TxO) : Prop := (∀ (v : V) (H' : Hp), o = .tx (argS v) → VOk v → Same H H' → Q v H') ∧ (o = .msg → ErrM K H E d) ∧ (∀ nm, o = .fld nm → ErrF K H E nm)
def spField (K : PySem.W.Frag) : Sp := fun vs H Q E => ∃ (r : Addr) (d : Rc) (nm : Str) (o : TxO), vs = [.ref r, .str nm] ∧ RcAt K H r d ∧ d.Ok ∧ FldO d nm o ∧ ValO K H Q E d o
theorem msgO_len {d : Rc} {t : SS} (h : MsgO d (some t)) (hok : d.Ok) : t.length ≤ 2000 + 2000 * 100 := by
  have pl : ∀ {s : SS} {as : List SS} {o : Option SS}, PM s as o → (∀ a ∈ as, a.length ≤ 2000) → ∀ t, o = some t → t.length ≤ s.length + 2000 * as.length := fun {s as o} h => by
    induction h with
    | nil => intro _ t e; cases e; exact Nat.zero_le _
    | left => intro _ t e; cases e
    | two _ _ ih =>
      intro ha t e
      obtain ⟨t2, e2, rfl⟩ := Option.map_eq_some_iff.mp e
      have := ih ha t2 e2
      simp only [List.length_cons]; omega
    | ch _ _ _ ih =>
      intro ha t e
      obtain ⟨t2, e2, rfl⟩ := Option.map_eq_some_iff.mp e
      have := ih ha t2 e2
      simp only [List.length_cons]; omega
    | arg _ ih =>
      intro ha t e
      obtain ⟨t2, e2, rfl⟩ := Option.map_eq_some_iff.mp e
      have := ih (fun a h => ha a (List.mem_cons_of_mem _ h)) t2 e2
      have := ha _ List.mem_cons_self
      simp only [List.length_cons, List.length_append]; omega
    | bad => intro _ t e; cases e
  have hl : d.msg.cps.toList.length = d.msg.length := Array.length_toList ..
  have hms := hok.ms
  rcases h with ⟨_, h⟩ | ⟨_, h⟩
  · cases h; omega
  · have := pl h (fun a ha => by
      obtain ⟨x, hx, rfl⟩ := List.mem_map.mp ha
      obtain ⟨n, hn, rfl⟩ := List.mem_map.mp hx
      have h1 := RN.len_toString n
      have h2 := hok.nsv n hn
      have h64 : n.natAbs.log2 < 63 := by
        by_cases c : n.natAbs = 0
        · rw [c]; decide
        · exact (Nat.log2_lt c).mpr h2
      show (Str.ofString (toString n)).cps.toList.length ≤ 2000
      have h3 : (Str.ofString (toString n)).cps.toList.length = (Str.ofString (toString n)).length := Array.length_toList ..
      omega) t rfl
    have := hok.nsl
    simp only [List.length_map] at *
    omega
end
end K17

set_option Elab.async false
set_option linter.all false
set_option maxRecDepth 100000
set_option maxHeartbeats 0

namespace K17
open PySem PySem.Spec PyProof.Rows L2 RC
section
variable {P : Program} {w : World} {K : PySem.W.Frag} {mg : Str → Option Value} {base : Heap}
/-! ### a plain field written -/
abbrev CFd (K : PySem.W.Frag) : Addr := He.ga K "Field"
def fdF (n c f a : Str) (w : Int) : List (Str × V) := [("name", .str n), ("conversion", .str c), ("fill", .str f), ("align", .str a), ("width", .int w)]
abbrev fdP (n : Str) : List (Str × V) := fdF n "" " " "" 0
def spSide (K : PySem.W.Frag) : Sp := fun vs H Q _ => ∃ (q dx : Addr) (n : Str) (v : V), vs = [.ref q, v] ∧ H q = some (.ins (CFd K) dx (fdP n)) ∧ ((∃ i, v = .int i ∧ Q (.str ">") H) ∨ ∃ z, v = .str z ∧ Q (.str "<") H)
theorem ok_side {f : Addr} (T : Txt P w K mg) (F : Stands K "side_of" "Field.side_of" s_Field_side_of [] f) (c_is_integer : Callable P w K mg base 1 (He.ga K "is_integer") ["thing"] [] spIsInt) : Callable P w K mg base 2 f ["self", "value"] [] (spSide K) := by
  refine F.call0 sc_Field_side_of (fun vs H Q E h => ?_) (fun cdv A outer s H vs Q E hr h => ?_) (fun _ _ _ _ _ _ us hl => match us, hl with | [_, _], _ => rfl)
  · obtain ⟨q, dx, n, v, rfl, _⟩ := h; rfl
  obtain ⟨q, dx, n, v, rfl, hq, h⟩ := h
  refine ⟨_, (pss_cons (ps_if (pt_cmpR op_ne (pe_fld (pv 0) rfl) pe_str (nomark _)) (pss_one (ps_ret (pe_fld (pv 0) rfl))) pss_nil)
      (pss_one (ps_ret (pe_ifExp (PW.pt (pw_and (pt_cmpR op_eq (pe_fld (pv 0) rfl) pe_str (nomark _)) (pw_and1 (pt_val (pe_fn T.g_is_integer c_is_integer (hr.mono (by first | decide | exact Nat.le_refl _)) (by rfl) (pa_cons (pv 1) pa_nil)))))) pe_str pe_str)))), ?_⟩
  walk_at "in"
  have t1 : (!decide (V.str (Str.ofString "") = V.str (Str.ofString ""))) = false := by rw [decide_eq_true rfl]; rfl
  have t2 : decide (V.str (Str.ofString "") = V.str (Str.ofString "")) = true := decide_eq_true rfl
  rcases h with ⟨i, rfl, hQ⟩ | ⟨z, rfl, hQ⟩
  · walk_at "go"
    refine ⟨(rfl : _ = [(LvIn.int i).v]), ?_⟩
    refine ⟨_, rfl, iteT ?_⟩
    exact hQ
  · walk_at "go"
    refine ⟨(rfl : _ = [(LvIn.nm z).v]), ?_⟩
    refine ⟨_, rfl, iteF ?_⟩
    exact hQ
/-- the text of a value -/
def valT : V → Str
  | .str z => z
  | .int i => Str.ofString (toString i)
  | _ => ""
def spWritten (K : PySem.W.Frag) : Sp := fun vs H Q _ => ∃ (q dx : Addr) (n : Str) (v : V), vs = [.ref q, v] ∧ H q = some (.ins (CFd K) dx (fdP n)) ∧ VOk v ∧ ∀ H', Same H H' → Q (.str (valT v)) H'
theorem ok_written {f : Addr} (T : Txt P w K mg) (F : Stands K "written" "Field.written" s_Field_written [] f) (c_Field_side_of : Callable P w K mg base 2 (He.ma K (He.ga K "Field") "side_of") ["self", "value"] [] (spSide K)) : Callable P w K mg base 3 f ["self", "value"] [] (spWritten K) := by
  refine F.call0 sc_Field_written (fun vs H Q E h => ?_) (fun cdv A outer s H vs Q E hr h => ?_) (fun _ _ _ _ _ _ us hl => match us, hl with | [_, _], _ => rfl)
  · obtain ⟨q, dx, n, v, rfl, _⟩ := h; rfl
  obtain ⟨q, dx, n, v, rfl, hq, hv, hQ⟩ := h
  refine ⟨_, (pss_cons (ps_set (i := 2) sc_Field_written.nd rfl (by first | exact Or.inl rfl | exact Or.inr rfl) (pe_ifExp (pt_cmpR op_eq (pe_fld (pv 0) rfl) pe_str (nomark _)) pe_never (RA.PE.or (pe_callTy call_str_int (by rfl) T.b_str (by decide +kernel) (pa_cons (pv 1) pa_nil)) (pe_callTy SkE.call_str_str (by rfl) T.b_str (by decide +kernel) (pa_cons (pv 1) pa_nil)))))
      (pss_cons (ps_set (i := 3) sc_Field_written.nd rfl (by first | exact Or.inl rfl | exact Or.inr rfl) (pe_callB (call_max2 rfl) (by rfl) T.b_max (by decide +kernel) (pa_cons pe_int (pa_cons (pe_op op_sub (pe_fld (pv 0) rfl) (pe_callB call_len_str (by rfl) T.b_len (by decide +kernel) (pa_cons (pv 2) pa_nil))) pa_nil))))
      (pss_cons (ps_set (i := 4) sc_Field_written.nd rfl (by first | exact Or.inl rfl | exact Or.inr rfl) (pe_dget (hu_of hr) (pe_disp (pps_cons pe_str pe_int (pps_cons pe_str (pv 3) (pps_cons pe_str (pe_op op_fdiv (pv 3) pe_int) pps_nil))) (by rfl) (by rfl) (fun z => by cases z) (by decide)) (pe_mt T.c_Field T.m_Field_side_of c_Field_side_of (hr.mono (by first | decide | exact Nat.le_refl _)) (pv 0) (pa_cons (pv 1) pa_nil)) (fun _ _ => rfl)))
      (pss_one (ps_ret (pe_op op_add_str (pe_op op_add_str (pe_op RD.op_mulS (pe_fld (pv 0) rfl) (pv 4)) (pv 2)) (pe_op RD.op_mulS (pe_fld (pv 0) rfl) (pe_op op_sub (pv 3) (pv 4))))))))), ?_⟩
  walk_at "in"
  have t1 : decide (V.str (Str.ofString "") = V.str (Str.ofString "r")) = false := by decide +kernel
  have tl : (valT v).length ≤ 1000000 := by
    rcases hv with ⟨z, rfl, hz⟩ | ⟨i, rfl, hi⟩
    · exact hz
    · have h1 := RN.len_toString i
      have h64 : i.natAbs.log2 < 63 := by
        by_cases c : i.natAbs = 0
        · rw [c]; decide
        · exact (Nat.log2_lt c).mpr hi
      show (Str.ofString (toString i)).length ≤ _
      omega
  refine seq_of (fun σ' H' => σ' = [some (.ref q), some v, some (.str (valT v)), none, none] ∧ H = H') (fun b' kb => ?_) (fun σ' H' hm => ?_)
  · rcases hv with ⟨z, rfl, hz⟩ | ⟨i, rfl, hi⟩
    · walk_at "go"
      refine .inr ?_
      walk_at "go"
      exact kb _ _ ⟨rfl, rfl⟩
    · have hl2 : i.natAbs.log2 < 1920 := by
        by_cases c : i.natAbs = 0
        · rw [c]; decide
        · have := (Nat.log2_lt c).mpr hi; omega
      walk_at "go"
      refine .inl ?_
      walk_at "go"
      exact kb _ _ ⟨rfl, rfl⟩
  obtain ⟨rfl, rfl⟩ := hm
  have hz2 : (valT v).length ≤ sizeLine := by rw [sizeLine_eq]; omega
  generalize valT v = z at tl hz2 hQ ⊢
  refine seq_of (fun σ' H' => σ' = [some (.ref q), some v, some (.str z), some (.int 0), none] ∧ H = H') (fun b' kb => ?_) (fun σ' H' hm => ?_)
  · walk_at "go"
    refine kb _ _ ⟨?_, rfl⟩
    have e0 : (if (0 : Int) - (z.length : Nat) > 0 then (0 : Int) - (z.length : Nat) else 0) = 0 := if_neg (by omega)
    rw [e0]; rfl
  obtain ⟨rfl, rfl⟩ := hm
  have mo : PySem.MulOk (Str.ofString " ") 0 := ⟨by decide, fun h => absurd (by decide) h, fun h => absurd (by decide) h⟩
  have mo2 : PySem.MulOk (Str.ofString " ") (0 - 0) := mo
  have cd : CDiv 0 2 := by first | exact ⟨by decide, by decide⟩ | (unfold CDiv; decide)
  have eM : Txt.mul (Str.ofString " ") 0 = Str.ofString "" := by decide +kernel
  have h0 : (Txt.mul (Str.ofString " ") 0).length = 0 := by rw [eM]; rfl
  have e1 : Txt.mul (Str.ofString " ") 0 ++ z = z := by
    rw [eM]; refine TL.ext_tl ?_; rw [TL.tl_append]; rfl
  have hL : (Txt.mul (Str.ofString " ") 0 ++ z).length + (Txt.mul (Str.ofString " ") (0 - 0)).length ≤ sizeLine := by
    rw [e1]; show z.length + (Txt.mul (Str.ofString " ") 0).length ≤ sizeLine; omega
  have e2 : Txt.mul (Str.ofString " ") 0 ++ z ++ Txt.mul (Str.ofString " ") (0 - 0) = z := by
    rw [e1]; show z ++ Txt.mul (Str.ofString " ") 0 = z
    rw [eM]; refine TL.ext_tl ?_; rw [TL.tl_append]; exact List.append_nil _
  walk_at "go"
  intro p fp
  walk_at "go"
  rcases hv with ⟨y, rfl, _⟩ | ⟨i, rfl, _⟩
  · refine .inr ⟨y, rfl, ?_⟩
    walk_at "go"
    rw [e2]
    exact hQ _ (by rw [upd_upd]; exact same_new fp _)
  · refine .inl ⟨i, rfl, ?_⟩
    walk_at "go"
    rw [e2]
    exact hQ _ (by rw [upd_upd]; exact same_new fp _)
end
end K17

set_option Elab.async false
set_option linter.all false
set_option maxRecDepth 100000
set_option maxHeartbeats 0

namespace K17
open PySem PySem.Spec PyProof.Rows L2 RC
section
variable {P : Program} {w : World} {K : PySem.W.Frag} {mg : Str → Option Value} {base : Heap}
/-! ### fields of formats in braces -/
def spFieldInit (K : PySem.W.Frag) : Sp := fun vs H Q _ => ∃ (p dx : Addr) (n c f a : Str) (w : Int), vs = [.ref p, .str n, .str c, .str f, .str a, .int w] ∧ H p = some (.ins (CFd K) dx []) ∧ Q .non (upd H p (.ins (CFd K) dx (fdF n c f a w)))
theorem field_body {f : Addr} {cdv : Value} {A : Around} {outer : List Env} {s : Shared} {H : Hp} {vs : List V} {Q : VK} {E : XK} (T : Txt P w K mg) (h : spFieldInit K vs H Q E) :
    ∃ t, PSs (cxOf CX0 P w K mg base nm_Field_init "Field.__init__" (defScope s_Field_init) f cdv A outer s H E).nox (defBody s_Field_init) t ∧ t { nx := fun _ H' => Q .non H', rt := Q } (L2.start nm_Field_init vs) H := by
  obtain ⟨p, dx, n, c, fl, al, wd, rfl, hp, hQ⟩ := h
  refine ⟨_, (pss_cons (ps_fld (pv 0) (pv 1) rfl)
      (pss_cons (ps_fld (pv 0) (pv 2) rfl)
      (pss_cons (ps_fld (pv 0) (pv 3) rfl)
      (pss_cons (ps_fld (pv 0) (pv 4) rfl)
      (pss_one (ps_fld (pv 0) (pv 5) rfl)))))), ?_⟩
  walk_at "in"
  walk_at "go"
  rw [upd_upd, upd_upd, upd_upd, upd_upd]
  exact hQ
/-- all but the first default given: Field(name, conversion) leaves three -/
theorem ok_field_init2 {f : Addr} (T : Txt P w K mg) (F : Stands K "__init__" "Field.__init__" s_Field_init [.str "", .str " ", .str "", .int 0] f) : Callable P w K mg base 1 f ["self", "name", "conversion", "fill", "align", "width"] [.str " ", .str "", .int 0] (spFieldInit K) := by
  refine F.call sc_Field_init 3 1 (fun vs H Q E h => ?_) (fun cdv A outer s H vs Q E hr h => field_body T h) (fun z => nomatch z) fun _ => ⟨rfl, fun _ _ _ _ _ _ _ us its hl hi => match us, hl, its, hi with | [_, _, _], _, [_, _, _, _], _ => ⟨_, rfl, rfl⟩⟩
  obtain ⟨p, dx, n, c, f, a, w, rfl, _⟩ := h; rfl
def spNameEnd : Sp := fun vs H Q _ => ∃ (z : Str) (i n : Nat), vs = [.str z, .int (i : Nat)] ∧ z.length ≤ 1000000 ∧ i ≤ z.length ∧ RP.nmLen (z.cps.toList.drop i) = n ∧ Q (.int ((i + n : Nat) : Int)) H
theorem ok_name_end {f : Addr} (T : Txt P w K mg) (F : Stands K "name_end" "name_end" s_name_end [] f) : Callable P w K mg base 1 f ["text", "start"] [] spNameEnd := by
  refine F.call0 sc_name_end (fun vs H Q E h => ?_) (fun cdv A outer s H vs Q E hr h => ?_) (fun _ _ _ _ _ _ us hl => match us, hl with | [_, _], _ => rfl)
  · obtain ⟨z, i, n, rfl, _⟩ := h; rfl
  obtain ⟨z, i, n, rfl, hz, hi, rfl, hQ⟩ := h
  refine ⟨_, (pss_cons (ps_set (i := 2) sc_name_end.nd rfl (by first | exact Or.inl rfl | exact Or.inr rfl) (pv 1))
      (pss_cons (ps_while PassesOwn.never (PW.pt (pw_and (pt_cmpR op_lt (pv 2) (pe_callB call_len_str (by rfl) T.b_len (by decide +kernel) (pa_cons (pv 0) pa_nil)) (nomark _)) (pw_and1 (PW.pt (pw_or (pt_cmpR op_inS (pe_ix ix_str (pv 0) (pv 2) (fun _ _ => rfl)) (pe_gs (by rfl) T.g_LETTERS) (by rfl)) (pw_or1 (PW.pt (pw_and (pt_cmpR op_gt (pv 2) (pv 1) (nomark _)) (pw_and1 (pt_cmpR op_inS (pe_ix ix_str (pv 0) (pv 2) (fun _ _ => rfl)) (pe_gs (by rfl) T.g_DIGITS) (by rfl))))))))))) (pss_one (ps_aug (i := 2) sc_name_end.nd rfl (by first | exact Or.inl rfl | exact Or.inr rfl) pe_int ip_add)))
      (pss_one (ps_ret (pv 2))))), ?_⟩
  walk_at "in"
  have hl : z.cps.toList.length = z.length := Array.length_toList ..
  have hn := RP.nm_le (z.cps.toList.drop i)
  rw [List.length_drop, hl] at hn
  refine ⟨_, rfl, ?_⟩
  refine ⟨fun m σ H' => H' = H ∧ ∃ k, k ≤ RP.nmLen (z.cps.toList.drop i) ∧ m = RP.nmLen (z.cps.toList.drop i) - k ∧ σ = [some (.str z), some (.int (i : Nat)), some (.int ((i + k : Nat) : Int))], ⟨_, rfl, 0, Nat.zero_le _, rfl, rfl⟩, ?_⟩
  rintro m σ H' ⟨rfl, k, hk, rfl, rfl⟩
  have eL : ("abcdefghijklmnopqrstuvwxyzABCDEFGHIJKLMNOPQRSTUVWXYZ_" : Str).cps.toList = RP.letters := by decide +kernel
  have eD : ("0123456789" : Str).cps.toList = RP.digits := by decide +kernel
  have hget : (z.cps.toList.drop i)[k]? = z.cps.toList[i + k]? := List.getElem?_drop ..
  by_cases c : k = RP.nmLen (z.cps.toList.drop i)
  · have ce := RP.cont_end (z.cps.toList.drop i)
    rw [← c] at ce hQ
    by_cases e : i + k < z.length
    · have t1 : decide (((i + k : Nat) : Int) < (z.length : Nat)) = true := decide_eq_true (by omega)
      obtain ⟨ch, hc⟩ : ∃ ch, z.cps.toList[i + k]? = some ch := ⟨_, List.getElem?_eq_getElem (by rw [hl]; exact e)⟩
      have hat : atI z.cps.toList ((i + k : Nat) : Int) = some ch := atI_nat hc
      unfold RP.contB at ce
      rw [hget, hc] at ce
      obtain ⟨ce1, ce2⟩ := Bool.or_eq_false_iff.mp ce
      have t2 : decide (ch ∈ ("abcdefghijklmnopqrstuvwxyzABCDEFGHIJKLMNOPQRSTUVWXYZ_" : Str).cps.toList) = false := by rw [eL]; exact ce1
      have hz2 : z.length ≤ sizeLine := by rw [sizeLine_eq]; omega
      by_cases k0 : k = 0
      · have t3 : decide (((i : Nat) : Int) < ((i + k : Nat) : Int)) = false := decide_eq_false (by omega)
        walk_at "go"
        exact hQ
      · have t3 : decide (((i : Nat) : Int) < ((i + k : Nat) : Int)) = true := decide_eq_true (by omega)
        have t4 : decide (ch ∈ ("0123456789" : Str).cps.toList) = false := by
          rw [eD]
          rcases Bool.and_eq_false_iff.mp ce2 with h | h
          · exact absurd (of_decide_eq_false h) (by omega)
          · exact h
        walk_at "go"
        exact hQ
    · have t1 : decide (((i + k : Nat) : Int) < (z.length : Nat)) = false := decide_eq_false (by omega)
      walk_at "go"
      exact hQ
  · have lt : k < RP.nmLen (z.cps.toList.drop i) := by omega
    have ce := RP.cont_lt lt
    have e : i + k < z.length := by omega
    have t1 : decide (((i + k : Nat) : Int) < (z.length : Nat)) = true := decide_eq_true (by omega)
    obtain ⟨ch, hc⟩ : ∃ ch, z.cps.toList[i + k]? = some ch := ⟨_, List.getElem?_eq_getElem (by rw [hl]; exact e)⟩
    have hat : atI z.cps.toList ((i + k : Nat) : Int) = some ch := atI_nat hc
    have hz2 : z.length ≤ sizeLine := by rw [sizeLine_eq]; omega
    unfold RP.contB at ce
    rw [hget, hc] at ce
    have next : ∀ H2 : Hp, H2 = H' → ∃ m', m' < RP.nmLen (z.cps.toList.drop i) - k ∧ H2 = H' ∧ ∃ k', k' ≤ RP.nmLen (z.cps.toList.drop i) ∧ m' = RP.nmLen (z.cps.toList.drop i) - k' ∧ [some (V.str z), some (V.int (i : Nat)), some (V.int (((i + k : Nat) : Int) + 1))] = [some (.str z), some (.int (i : Nat)), some (.int ((i + k' : Nat) : Int))] :=
      fun H2 h => ⟨RP.nmLen (z.cps.toList.drop i) - (k + 1), by omega, h, k + 1, by omega, rfl, by rw [show ((i + (k + 1) : Nat) : Int) = ((i + k : Nat) : Int) + 1 by omega]⟩
    cases ce1 : RP.letB ch with
    | true =>
      have t2 : decide (ch ∈ ("abcdefghijklmnopqrstuvwxyzABCDEFGHIJKLMNOPQRSTUVWXYZ_" : Str).cps.toList) = true := by rw [eL]; exact ce1
      walk_at "go"
      refine ⟨_, fun _ _ h => h, ?_⟩
      walk_at "go"
      exact (next _ rfl).choose_spec
    | false =>
      replace ce : (RP.letB ch || (decide (0 < k) && RP.digB ch)) = true := ce
      rw [ce1, Bool.false_or] at ce
      obtain ⟨ce3, ce4⟩ := Bool.and_eq_true_iff.mp ce
      have t2 : decide (ch ∈ ("abcdefghijklmnopqrstuvwxyzABCDEFGHIJKLMNOPQRSTUVWXYZ_" : Str).cps.toList) = false := by rw [eL]; exact ce1
      have t3 : decide (((i : Nat) : Int) < ((i + k : Nat) : Int)) = true := decide_eq_true (by have := of_decide_eq_true ce3; omega)
      have t4 : decide (ch ∈ ("0123456789" : Str).cps.toList) = true := by rw [eD]; exact ce4
      walk_at "go"
      refine ⟨_, fun _ _ h => h, ?_⟩
      walk_at "go"
      exact (next _ rfl).choose_spec
end
end K17

set_option Elab.async false
set_option linter.all false
set_option maxRecDepth 100000
set_option maxHeartbeats 0

namespace K17
open PySem PySem.Spec PyProof.Rows L2 RC
section
variable {P : Program} {w : World} {K : PySem.W.Frag} {mg : Str → Option Value} {base : Heap}
/-! ### a plain field between two braces -/
def spFieldOf (K : PySem.W.Frag) : Sp := fun vs H Q _ => ∃ z : Str, vs = [.str z] ∧ z.length ≤ 1000 ∧ z.length ≠ 0 ∧ RP.nmLen z.cps.toList = z.length ∧ ∀ (q dx : Addr) (H' : Hp), Same H H' → H q = none → H' q = some (.ins (CFd K) dx (fdP z)) → Q (.ref q) H'
theorem ok_field_of {f : Addr} (T : Txt P w K mg) (F : Stands K "field_of" "field_of" s_field_of [] f) (c_name_end : Callable P w K mg base 1 (He.ga K "name_end") ["text", "start"] [] spNameEnd)
    (c_Field_init_d3 : Callable P w K mg base 1 (He.ma K (He.ga K "Field") "__init__") ["self", "name", "conversion", "fill", "align", "width"] [.str " ", .str "", .int 0] (spFieldInit K)) : Callable P w K mg base 3 f ["body"] [] (spFieldOf K) := by
  refine F.call0 sc_field_of (fun vs H Q E h => ?_) (fun cdv A outer s0 H vs Q E hr h => ?_) (fun _ _ _ _ _ _ us hl => match us, hl with | [_], _ => rfl)
  · obtain ⟨z, rfl, _⟩ := h; rfl
  obtain ⟨z, rfl, hz, hz0, hn, hQ⟩ := h
  refine ⟨_, (pss_cons (ps_set (i := 1) sc_field_of.nd rfl (by first | exact Or.inl rfl | exact Or.inr rfl) (pe_fn T.g_name_end c_name_end (hr.mono (by first | decide | exact Nat.le_refl _)) (by rfl) (pa_cons (pv 0) (pa_cons pe_int pa_nil))))
      (pss_cons (ps_par3 (by rfl) sc_field_of.nd (i := 2) (j := 3) (l := 4) rfl rfl rfl (by decide) (by decide) (by decide) rfl rfl rfl (pa_cons (pe_slice sl_str (pv 0) po_none (po_some (pv 1))) (pa_cons (pe_slice sl_str (pv 0) (po_some (pv 1)) po_none) (pa_cons pe_str pa_nil))) (by rfl))
      (pss_cons (ps_if (pt_cmpR op_in_seq (pe_slice sl_str (pv 3) po_none (po_some pe_int)) (pe_tup (pa_cons pe_str (pa_cons pe_str pa_nil))) (by rfl)) (pss_one (ps_par (by rfl) sc_field_of.nd (i := 4) (j := 3) rfl rfl (by decide) rfl rfl (pa_cons (pe_ix ix_str (pv 3) pe_int (fun _ _ => rfl)) (pa_cons (pe_slice sl_str (pv 3) (po_some pe_int) po_none) pa_nil)) (by rfl))) pss_nil)
      (pss_cons (ps_if (PW.pt (pw_or (pt_cmpR op_eq (pv 2) pe_str (nomark _)) (pw_or1 (PW.pt (pw_and (pt_cmpR op_ne (pv 3) pe_str (nomark _)) (pw_and1 (pt_cmpR op_ne (pe_ix ix_str (pv 3) pe_int (fun _ _ => rfl)) pe_str (nomark _)))))))) (pss_one (ps_ret pe_non)) pss_nil)
      (pss_cons (ps_if (pt_cmpR op_eq (pv 3) pe_str (nomark _)) (pss_one (ps_ret (pe_mk T.k_Field T.g_Field c_Field_init_d3 (hr.mono (by first | decide | exact Nat.le_refl _)) (by rfl) (pa_cons (pv 2) (pa_cons (pv 4) pa_nil))))) pss_nil)
      (pss_cons (ps_set (i := 5) sc_field_of.nd rfl (by first | exact Or.inl rfl | exact Or.inr rfl) pe_never)
      (pss_one (ps_ret pe_never)))))))), ?_⟩
  walk_at "in"
  have hl : z.cps.toList.length = z.length := Array.length_toList ..
  have hz2 : z.length ≤ sizeLine := by rw [sizeLine_eq]; omega
  have hz3 : z.length ≤ 1000000 := by omega
  refine seq_of (fun σ' H' => σ' = [some (.str z), some (.int (z.length : Nat)), none, none, none, none] ∧ H = H') (fun b' kb => ?_) (fun σ' H' hm => ?_)
  · walk_at "go"
    refine kb _ _ ⟨?_, rfl⟩
    rw [Nat.zero_add, List.drop_zero, hn]; rfl
  obtain ⟨rfl, rfl⟩ := hm
  have c1 : cutS z none (some ((z.length : Nat) : Int)) = z := by rw [cut_to, List.take_of_length_le (by omega), tx_of]
  have c2 : cutS z (some ((z.length : Nat) : Int)) none = tx [] := by rw [cut_from, List.drop_eq_nil_of_le (by omega)]
  refine seq_of (fun σ' H' => σ' = [some (.str z), some (.int (z.length : Nat)), some (.str z), some (.str (tx [])), some (.str (tx [])), none] ∧ H = H') (fun b' kb => ?_) (fun σ' H' hm => ?_)
  · walk_at "go"
    refine kb _ _ ⟨?_, rfl⟩
    rw [c1, c2, ← s_empty]; rfl
  obtain ⟨rfl, rfl⟩ := hm
  clear c1 c2
  have c3 : cutS (tx []) none (some 2) = tx [] := cut_to (b := 2)
  have vF : inV (.str (cutS (tx []) none (some 2))) [V.str (tx [33, 114]), V.str (tx [33, 115])] = false := by rw [c3]; exact (inV_tx _ [[33, 114], [33, 115]]).trans (decide_eq_false (by decide))
  have e0 : (tx ([] : List Nat)).length ≤ sizeLine := by rw [sizeLine_eq]; decide
  rw [s_bangr, s_bangs, s_empty]
  walk_at "go"
  intro p fp
  have s1 : Same H (upd H p (.tup [.str (tx [33, 114]), .str (tx [33, 115])])) := same_new fp _
  have hp : (upd H p (.tup [.str (tx [33, 114]), .str (tx [33, 115])])) p = some (.tup [.str (tx [33, 114]), .str (tx [33, 115])]) := upd_same
  generalize upd H p (.tup [.str (tx [33, 114]), .str (tx [33, 115])]) = H1 at s1 hp ⊢
  refine ⟨p, _, rfl, .inr (SqT.of hp), rfl, rfl, _, rfl, ?_⟩
  refine iteF' vF ?_
  have t1 : decide (V.str z = V.str (tx [])) = false := decide_eq_false fun h => by
    have := congrArg Str.length (V.str.inj h)
    rw [tx_len] at this; exact hz0 this
  have t2 : (!decide (V.str (tx ([] : List Nat)) = V.str (tx []))) = false := by rw [decide_eq_true rfl]; rfl
  have t3 : decide (V.str (tx ([] : List Nat)) = V.str (tx [])) = true := decide_eq_true rfl
  walk_at "go"
  intro x dx f1 f2 f3
  refine ⟨x, dx, _, _, _, _, _, rfl, upd_same, rfl, ?_⟩
  rw [upd_upd]
  have s3 := (same_new f2 (.own x)).trans (same_new (by rw [upd_ne (Ne.symm f3)]; exact f1) (.ins (CFd K) dx (fdP z)))
  rw [← s_empty]
  exact hQ x dx _ (s1.trans s3) (RW.free_same s1 f1) upd_same
end
end K17

set_option Elab.async false
set_option linter.all false
set_option maxRecDepth 100000
set_option maxHeartbeats 0

namespace K17
open PySem PySem.Spec PyProof.Rows L2 RC
section
variable {P : Program} {w : World} {K : PySem.W.Frag} {mg : Str → Option Value} {base : Heap}
/-! ### the parts of a plain format in braces -/
/-- what was laid since -/
noncomputable abbrev nw (H H' : Hp) : Hp := rst (fun b => H b ≠ none) H'
theorem nw_at {H H' : Hp} {p : Addr} {o : HO} (h : H' p = some o) (f : H p = none) : nw H H' p = some o := rst_at h fun z => z f
theorem nw_same {H H1 H2 : Hp} (s : Same H1 H2) : Same (nw H H1) (nw H H2) := rst_next (fun b u _ h => s b u h) fun b h => .inl h
theorem nw_free {H H' : Hp} {b : Addr} {u : HO} (e : nw H H' b = some u) : H b = none := Classical.byContradiction fun z => by
  have e2 : rst (fun b => H b ≠ none) H' b = some u := e
  rw [rst_none (S := fun b => H b ≠ none) z] at e2; cases e2
theorem nw_upd {H H2 : Hp} {p : Addr} {o : HO} (f : H p = none) : nw H (upd H2 p o) = upd (nw H H2) p o := by
  funext b
  by_cases e : b = p
  · rw [e, upd_same]; exact nw_at upd_same f
  · rw [upd_ne e]
    show rst _ (upd H2 p o) b = rst _ H2 b
    unfold rst
    by_cases c : H b ≠ none
    · rw [if_pos c, if_pos c]
    · rw [if_neg c, if_neg c, upd_ne e]
abbrev PtT : Type := Nat ⊕ SS
/-- a format of letters and plain fields, read from the left -/
inductive PlB : SS → List PtT → Prop
  | nil : PlB [] []
  | ch {c : Nat} {r : SS} {ps : List PtT} : c ≠ 123 → c ≠ 125 → PlB r ps → PlB (c :: r) (.inl c :: ps)
  | fld {b r : SS} {ps : List PtT} : b ≠ [] → RP.nmLen b = b.length → (b ++ 125 :: r).head? ≠ some 123 → 125 ∉ b → PlB r ps → PlB (123 :: (b ++ 125 :: r)) (.inr b :: ps)
def PtV (K : PySem.W.Frag) (H : Hp) : PtT → V → Prop
  | .inl c, v => v = .str ⟨#[c]⟩
  | .inr b, v => ∃ q dx fs, v = .ref q ∧ H q = some (.ins (CFd K) dx fs) ∧ fs.length = 5 ∧ fs = fdP (tx b)
inductive PtsV (K : PySem.W.Frag) (H : Hp) : List PtT → List V → Prop
  | nil : PtsV K H [] []
  | cons {p : PtT} {v : V} {ps : List PtT} {vs : List V} : PtV K H p v → PtsV K H ps vs → PtsV K H (p :: ps) (v :: vs)
theorem PtV.to {K : PySem.W.Frag} {H H' : Hp} (h : ∀ (q dx : Addr) (fs : List (Str × V)), fs.length = 5 → H q = some (.ins (CFd K) dx fs) → H' q = some (.ins (CFd K) dx fs)) : ∀ {p : PtT} {v : V}, PtV K H p v → PtV K H' p v
  | .inl _, _, e => e
  | .inr _, _, ⟨q, dx, fs, e, g, l⟩ => ⟨q, dx, fs, e, h _ _ _ l.1 g, l⟩
theorem PtsV.to {K : PySem.W.Frag} {H H' : Hp} (h : ∀ (q dx : Addr) (fs : List (Str × V)), fs.length = 5 → H q = some (.ins (CFd K) dx fs) → H' q = some (.ins (CFd K) dx fs)) : ∀ {ps : List PtT} {vs : List V}, PtsV K H ps vs → PtsV K H' ps vs
  | _, _, .nil => .nil
  | _, _, .cons a b => .cons (a.to h) (b.to h)
theorem PtsV.same {K : PySem.W.Frag} {H H' : Hp} (s : Same H H') {ps : List PtT} {vs : List V} (h : PtsV K H ps vs) : PtsV K H' ps vs := h.to fun _ _ _ _ e => s _ _ e
theorem PtsV.put {K : PySem.W.Frag} {H : Hp} {p : Addr} {xs : List V} {o : HO} (e : H p = some (.lst xs)) {ps : List PtT} {vs : List V} (h : PtsV K H ps vs) : PtsV K (upd H p o) ps vs := h.to fun q dx fs l g => by
  rw [upd_ne]; exact g
  intro z; rw [z, e] at g; cases g
theorem PtV.put {K : PySem.W.Frag} {H : Hp} {p : Addr} {xs : List V} {o : HO} (e : H p = some (.lst xs)) {x : PtT} {v : V} (h : PtV K H x v) : PtV K (upd H p o) x v := h.to fun q dx fs l g => by
  rw [upd_ne]; exact g
  intro z; rw [z, e] at g; cases g
theorem PtsV.own {K : PySem.W.Frag} {H : Hp} {p C dx : Addr} {o : HO} (e : H p = some (.ins C dx [])) {ps : List PtT} {vs : List V} (h : PtsV K H ps vs) : PtsV K (upd H p o) ps vs := h.to fun q dx n l g => by
  rw [upd_ne]; exact g
  intro z; rw [z, e] at g; cases g; cases l
theorem PtsV.snoc {K : PySem.W.Frag} {H : Hp} {p : PtT} {v : V} (h : PtV K H p v) : ∀ {ps : List PtT} {vs : List V}, PtsV K H ps vs → PtsV K H (ps ++ [p]) (vs ++ [v])
  | _, _, .nil => .cons h .nil
  | _, _, .cons a b => .cons a (b.snoc h)
theorem PtsV.get {K : PySem.W.Frag} {H : Hp} : ∀ {ps : List PtT} {vs : List V}, PtsV K H ps vs → ∀ {i : Nat} {v : V}, vs[i]? = some v → ∃ x, ps[i]? = some x ∧ PtV K H x v
  | _, _, .nil, _, _, h => by cases h
  | _, _, .cons a b, 0, _, h => by cases h; exact ⟨_, rfl, a⟩
  | _, _, .cons a b, _ + 1, _, h => b.get h
theorem PtsV.len {K : PySem.W.Frag} {H : Hp} : ∀ {ps : List PtT} {vs : List V}, PtsV K H ps vs → ps.length = vs.length
  | _, _, .nil => rfl
  | _, _, .cons _ b => congrArg Nat.succ b.len
theorem len_add (a b : Str) : (a ++ b).length = a.length + b.length := by
  rw [TL.len_tl, TL.tl_append, List.length_append, ← TL.len_tl, ← TL.len_tl]
theorem from_nat (n i : Nat) : fromIndex n (i : Int) = i := by
  unfold fromIndex
  rw [if_neg (by omega)]; omega
theorem getD_list (z : Str) (v : Nat) : z.cps.getD v 0 = (z.cps.toList[v]?).getD 0 := by
  rw [Array.getD_eq_getD_getElem?, Array.getElem?_toList]
theorem getD_some {z : Str} {v : Nat} (h : v < z.length) (e : z.cps.getD v 0 = 125) : z.cps.toList[v]? = some 125 := by
  have hl : z.cps.toList.length = z.length := Array.length_toList ..
  rw [getD_list, List.getElem?_eq_getElem (by rw [hl]; exact h)] at e
  rw [List.getElem?_eq_getElem (by rw [hl]; exact h)]
  exact congrArg some e
theorem find_at {z : Str} {i : Nat} {b t : List Nat} (h : z.cps.toList.drop i = b ++ 125 :: t) (hb : 125 ∉ b) (hi : i ≤ z.length) : Txt.find3 z (tx [125]) (i : Int) = ((i + b.length : Nat) : Int) := by
  have hl : z.cps.toList.length = z.length := Array.length_toList ..
  have at_b : z.cps.toList[i + b.length]? = some 125 := by
    rw [← List.getElem?_drop, h, List.getElem?_append_right (Nat.le_refl _), Nat.sub_self]; rfl
  have inb : ∀ j, j < b.length → z.cps.toList[i + j]? = some 125 → False := fun j hj e => by
    rw [← List.getElem?_drop, h, List.getElem?_append_left hj] at e
    exact hb (List.mem_of_getElem? e)
  have gb : z.cps.getD (i + b.length) 0 = 125 := by rw [getD_list, at_b]; rfl
  have lb : i + b.length < z.length := by rw [← hl]; exact (List.getElem?_eq_some_iff.mp at_b).1
  have hs := PySem.StrLaws.find3_spec z 125 (i : Int)
  rw [from_nat] at hs
  rcases hs with ⟨_, h2⟩ | ⟨k, h1, h2, h3, h4, h5⟩
  · exact absurd gb (h2 _ (by omega) lb)
  · refine h1.trans ?_
    rcases Nat.lt_trichotomy k (i + b.length) with q | q | q
    · exact (inb (k - i) (by omega) (by rw [show i + (k - i) = k by omega]; exact getD_some h3 h4)).elim
    · rw [q]
    · exact absurd gb (h5 _ (by omega) q)
def spParts (K : PySem.W.Frag) : Sp := fun vs H Q _ => ∃ (z : Str) (ps : List PtT), vs = [.str z] ∧ z.length ≤ 1000 ∧ PlB z.cps.toList ps ∧ ∀ (vs : List V) (p : Addr) (H' : Hp), Same H H' → H p = none → H' p = some (.lst vs) → vs.length ≤ 1000 → PtsV K (nw H H') ps vs → Q (.ref p) H'
structure PInv (K : PySem.W.Frag) (H : Hp) (z : Str) (p : Addr) (ps : List PtT) (m : Nat) (σ : L2.St) (H' : Hp) : Prop where
  same : Same H H'
  ex : ∃ (i : Nat) (p1 p2 : List PtT) (vs : List V) (a b : Option V), m = z.length - i ∧ i ≤ z.length ∧ vs.length ≤ i ∧ H' p = some (.lst vs) ∧ PtsV K (nw H H') p1 vs ∧ PlB (z.cps.toList.drop i) p2 ∧ ps = p1 ++ p2 ∧ σ = [some (.str z), some (.ref p), some (.int (i : Nat)), a, b]
theorem ok_parts {f : Addr} (T : Txt P w K mg) (F : Stands K "parts_of_braces" "parts_of_braces" s_parts_of_braces [] f) (c_field_of : Callable P w K mg base 3 (He.ga K "field_of") ["body"] [] (spFieldOf K)) : Callable P w K mg base 4 f ["fmt"] [] (spParts K) := by
  refine F.call0 sc_parts_of_braces (fun vs H Q E h => ?_) (fun cdv A outer s H vs Q E hr h => ?_) (fun _ _ _ _ _ _ us hl => match us, hl with | [_], _ => rfl)
  · obtain ⟨z, ps, rfl, _⟩ := h; rfl
  obtain ⟨z, ps, rfl, hz, hP, hQ⟩ := h
  refine ⟨_, (pss_cons (ps_par (by rfl) sc_parts_of_braces.nd (i := 1) (j := 2) rfl rfl (by decide) rfl rfl (pa_cons (pe_lst pa_nil) (pa_cons pe_int pa_nil)) (by rfl))
      (pss_cons (ps_while PassesOwn.never (pt_cmpR op_lt (pv 2) (pe_callB call_len_str (by rfl) T.b_len (by decide +kernel) (pa_cons (pv 0) pa_nil)) (nomark _)) (pss_cons (ps_par (by rfl) sc_parts_of_braces.nd (i := 3) (j := 4) rfl rfl (by decide) rfl rfl (pa_cons (pe_op op_add (pv 2) pe_int) (pa_cons (pe_ix ix_str (pv 0) (pv 2) (fun _ _ => rfl)) pa_nil)) (by rfl))
      (pss_cons (ps_if (pt_cmpR op_in_seq (pe_slice sl_str (pv 0) (po_some (pv 2)) (po_some (pe_op op_add (pv 2) pe_int))) (pe_tup (pa_cons pe_str (pa_cons pe_str pa_nil))) (by rfl)) (pss_one (ps_set (i := 3) sc_parts_of_braces.nd rfl (by first | exact Or.inl rfl | exact Or.inr rfl) (pe_op op_add (pv 2) pe_int))) (pss_one (ps_if (pt_cmpR op_in_seq (pv 4) (pe_tup (pa_cons pe_str (pa_cons pe_str pa_nil))) (by rfl)) (pss_cons (ps_set (i := 3) sc_parts_of_braces.nd rfl (by first | exact Or.inl rfl | exact Or.inr rfl) (pe_op op_add (pe_bm PySem.F.plainAttrs_str PySem.F.slot_str_find PySem.F.type_str_find mt_find3 (pv 0) (pa_cons pe_str (pa_cons (pv 2) pa_nil))) pe_int))
      (pss_one (ps_set (i := 4) sc_parts_of_braces.nd rfl (by first | exact Or.inl rfl | exact Or.inr rfl) (pe_ifExp (pt_cmpR op_gt (pv 3) pe_int (nomark _)) (pe_fn T.g_field_of c_field_of (hr.mono (by first | decide | exact Nat.le_refl _)) (by rfl) (pa_cons (pe_slice sl_str (pv 0) (po_some (pe_op op_add (pv 2) pe_int)) (po_some (pe_op op_sub (pv 3) pe_int))) pa_nil)) pe_non)))) pss_nil)))
      (pss_cons (ps_if (pt_cmpR op_isN (pv 4) pe_non (nomark _)) (pss_one (ps_ret pe_non)) pss_nil)
      (pss_cons (ps_expr (pe_bm PySem.F.plainAttrs_list PySem.F.slot_list_append PySem.F.type_list_append mt_append (pv 1) (pa_cons (pv 4) pa_nil)))
      (pss_one (ps_set (i := 2) sc_parts_of_braces.nd rfl (by first | exact Or.inl rfl | exact Or.inr rfl) (pv 3))))))))
      (pss_one (ps_ret (pv 1))))), ?_⟩
  walk_at "in"
  have hl : z.cps.toList.length = z.length := Array.length_toList ..
  have hz2 : z.length ≤ sizeLine := by rw [sizeLine_eq]; omega
  walk_at "go"
  intro p fp
  walk_at "go"
  refine ⟨PInv K H z p ps, ⟨_, same_new fp _, 0, [], ps, [], _, _, rfl, Nat.zero_le _, Nat.zero_le _, upd_same, .nil, hP, rfl, rfl⟩, ?_⟩
  rintro m σ H1 ⟨s1, i, p1, p2, vs, a, b, rfl, hi, hv, hp, hps, hd, rfl, rfl⟩
  rw [s_open2, s_close2, s_open, s_close]
  by_cases c : i < z.length
  · have t1 : decide (((i : Nat) : Int) < (z.length : Nat)) = true := decide_eq_true (by omega)
    have c2 : cutS z (some (i : Int)) (some ((i : Int) + 2)) = tx ((z.cps.toList.drop i).take 2) := cut_two hi
    obtain ⟨ch, hc⟩ : ∃ ch, z.cps.toList[i]? = some ch := ⟨_, List.getElem?_eq_getElem (by rw [hl]; exact c)⟩
    have hat : atI z.cps.toList ((i : Nat) : Int) = some ch := atI_nat hc
    have hdr : z.cps.toList.drop i = ch :: z.cps.toList.drop (i + 1) := by
      obtain ⟨h1, h2⟩ := List.getElem?_eq_some_iff.mp hc
      rw [← h2]; exact List.drop_eq_getElem_cons h1
    have hsz : vs.length < sizeLine := by rw [sizeLine_eq]; omega
    have hdi := hdr
    generalize hr : z.cps.toList.drop (i + 1) = r at hdi
    have hlr : r.length = z.length - (i + 1) := by rw [← hr, List.length_drop, hl]
    rw [hdi] at hd c2
    have next : ∀ (j : Nat) (e : Int) (x : PtT) (v : V) (a2 b2 : Option V) (H2 : Hp) (p3 : List PtT), e = (j : Int) → i < j → j ≤ z.length → Same H1 H2 → PtV K (nw H H2) x v → PlB (z.cps.toList.drop j) p3 → p2 = x :: p3 →
        ∃ m', m' < z.length - i ∧ PInv K H z p (p1 ++ p2) m' [some (.str z), some (.ref p), some (.int e), a2, b2] (upd H2 p (.lst (vs ++ [v]))) :=
      fun j e x v a2 b2 H2 p3 e1 e2 e3 e4 e6 e8 e9 => ⟨z.length - j, by omega, fun b u hb => (by rw [upd_ne (ne_of_none hb fp)]; exact e4 _ _ (s1 _ _ hb)), j, p1 ++ [x], p3, vs ++ [v], a2, b2, rfl, e3, by rw [List.length_append]; show vs.length + 1 ≤ j; omega, upd_same, (by rw [nw_upd fp]; exact ((hps.same (nw_same e4)).put (nw_at (e4 _ _ hp) fp)).snoc (e6.put (nw_at (e4 _ _ hp) fp))), e8, by rw [e9]; simp, by rw [e1]⟩
    obtain ⟨N, hN⟩ : ∃ N : L2.St → Hp → Prop, N = fun σ' H' => ∃ m', m' < z.length - i ∧ PInv K H z p (p1 ++ p2) m' σ' H' := ⟨_, rfl⟩
    walk_at "go"
    refine ⟨N, fun σ' H' h => by rw [hN] at h; exact h, ?_⟩
    refine seq_of (fun σ' H' => σ' = [some (.str z), some (.ref p), some (.int (i : Nat)), some (.int ((i : Int) + 1)), some (.str ⟨#[ch]⟩)] ∧ H1 = H') (fun b' kb => ?_) (fun σ' H' hm => ?_)
    · walk_at "go"
      exact kb _ _ ⟨rfl, rfl⟩
    obtain ⟨rfl, rfl⟩ := hm
    walk_at "go"
    intro q fq
    have s2 : Same H1 (upd H1 q (.tup [.str (tx [123, 123]), .str (tx [125, 125])])) := same_new fq _
    have hq : (upd H1 q (.tup [.str (tx [123, 123]), .str (tx [125, 125])])) q = some (.tup [.str (tx [123, 123]), .str (tx [125, 125])]) := upd_same
    generalize upd H1 q (.tup [.str (tx [123, 123]), .str (tx [125, 125])]) = H2 at s2 hq ⊢
    refine ⟨q, _, rfl, .inr (SqT.of hq), rfl, rfl, _, rfl, ?_⟩
    have vF : inV (.str (cutS z (some (i : Int)) (some ((i : Int) + 2)))) [V.str (tx [123, 123]), V.str (tx [125, 125])] = decide ((ch :: r).take 2 ∈ ([[123, 123], [125, 125]] : List (List Nat))) := by rw [c2]; exact inV_tx _ [[123, 123], [125, 125]]
    have hf : ¬ (ch :: r).take 2 ∈ ([[123, 123], [125, 125]] : List (List Nat)) := fun h => by
      have tk : ∀ x y : Nat, (ch :: r).take 2 = [x, y] → ch = x ∧ r.head? = some y := fun x y h => by
        cases r with
        | nil => cases h
        | cons d r => cases h; exact ⟨rfl, rfl⟩
      rcases List.mem_cons.mp h with h | h
      · obtain ⟨e1, e2⟩ := tk _ _ h
        cases hd with
        | ch h1 _ _ => exact h1 e1
        | fld _ _ h3 _ _ => exact h3 e2
      · obtain ⟨e1, e2⟩ := tk _ _ (List.mem_singleton.mp h)
        cases hd with
        | ch _ h2 _ => exact h2 e1
        | fld _ _ h3 _ _ => cases e1
    refine iteF' (vF.trans (decide_eq_false hf)) ?_
    walk_at "go"
    intro q2 fq2
    have s3 : Same H2 (upd H2 q2 (.tup [.str (tx [123]), .str (tx [125])])) := same_new fq2 _
    have hq2 : (upd H2 q2 (.tup [.str (tx [123]), .str (tx [125])])) q2 = some (.tup [.str (tx [123]), .str (tx [125])]) := upd_same
    generalize upd H2 q2 (.tup [.str (tx [123]), .str (tx [125])]) = H3 at s3 hq2 ⊢
    refine ⟨q2, _, rfl, .inr (SqT.of hq2), rfl, rfl, _, rfl, ?_⟩
    have s13 := s2.trans s3
    have hp3 := s13 _ _ hp
    have vG : inV (.str ⟨#[ch]⟩) [V.str (tx [123]), V.str (tx [125])] = decide ([ch] ∈ ([[123], [125]] : List (List Nat))) := inV_tx [ch] [[123], [125]]
    cases hd with
    | @ch _ _ p3 h1 h2 h3 =>
      refine iteF' (vG.trans (decide_eq_false fun h => ?_)) ?_
      · rcases List.mem_cons.mp h with h | h
        · cases h; exact h1 rfl
        · cases List.mem_singleton.mp h; exact h2 rfl
      walk_at "go"
      rw [hN]
      exact next (i + 1) _ (.inl ch) (.str ⟨#[ch]⟩) _ _ H3 p3 (show ((i : Int) + 1) = ((i + 1 : Nat) : Int) by omega) (by omega) (by omega) s13 rfl (by rw [hr]; exact h3) rfl
    | @fld b r2 p3 h0 h1 h2 h3 h4 =>
      refine iteT' (vG.trans (decide_eq_true List.mem_cons_self)) ?_
      have fa : Txt.find3 z (tx [125]) (i : Int) = ((i + (b.length + 1) : Nat) : Int) := find_at (b := 123 :: b) (t := r2) (hdr.trans (by rw [hr]; rfl)) (fun h => (List.mem_cons.mp h).elim (by decide) h3) hi
      have c3 : cutS z (some ((i : Int) + 1)) (some (Txt.find3 z (tx [125]) (i : Int) + 1 - 1)) = tx b := by
        have := cut_ab (z := z) (a := i + 1) (b := i + (b.length + 1)) (by omega)
        rw [hr, show i + (b.length + 1) - (i + 1) = b.length by omega, List.take_left] at this
        rw [fa, show ((i + (b.length + 1) : Nat) : Int) + 1 - 1 = ((i + (b.length + 1) : Nat) : Int) by omega]
        exact this
      walk_at "go"
      refine iteT' (decide_eq_true (show (0 : Int) < Txt.find3 z (tx [125]) (i : Int) + 1 by rw [fa]; omega)) ?_
      walk_at "go"
      rw [c3]
      rw [List.length_append, List.length_cons] at hlr
      have bl : (tx b).length ≤ 1000 := by rw [tx_len]; omega
      have b0 : (tx b).length ≠ 0 := by rw [tx_len]; exact fun h => h0 (List.length_eq_zero_iff.mp h)
      have bn : RP.nmLen (tx b).cps.toList = (tx b).length := by rw [tx_len]; exact h1
      refine ⟨bl, b0, bn, fun x dx H4 s4 fx hx => ?_⟩
      have fx0 : H x = none := (s1.trans s13).free fx
      have hp4 := s4 _ _ hp3
      walk_at "go"
      have hr2 : z.cps.toList.drop (i + (b.length + 2)) = r2 := by
        rw [show i + (b.length + 2) = (i + 1) + (b.length + 1) by omega, ← List.drop_drop, hr, List.drop_append]
        simp
      rw [hN]
      exact next (i + (b.length + 2)) _ (.inr b) (.ref x) _ _ H4 p3 (show Txt.find3 z (tx [125]) (i : Int) + 1 = ((i + (b.length + 2) : Nat) : Int) by rw [fa]; omega) (by omega) (by omega) (s13.trans s4) ⟨x, dx, _, rfl, nw_at hx fx0, rfl, rfl⟩ (by rw [hr2]; exact h4) rfl
  · have t1 : decide (((i : Nat) : Int) < (z.length : Nat)) = false := decide_eq_false (by omega)
    have dn : z.cps.toList.drop i = [] := List.drop_eq_nil_of_le (by omega)
    rw [dn] at hd
    cases hd
    rw [List.append_nil] at hQ
    walk_at "go"
    exact hQ vs p _ s1 fp hp (by omega) hps
end
end K17

set_option Elab.async false
set_option linter.all false
set_option maxRecDepth 100000
set_option maxHeartbeats 0

namespace K17
open PySem PySem.Spec PyProof.Rows L2 RC
section
variable {P : Program} {w : World} {K : PySem.W.Frag} {mg : Str → Option Value} {base : Heap}
/-! ### a field of a record -/
theorem ok_field {f : Addr} (T : Txt P w K mg) (F : Stands K "field" "LogRecord.field" s_LogRecord_field [] f) (c_LogRecord_message : RH.CallN P w K mg base 5 (He.ma K (He.ga K "LogRecord") "message") ["self"] [] (spMessage K))
    (c_BadField_init : Callable P w K mg base 1 (He.ma K (He.ga K "BadField") "__init__") ["self", "name"] [] (RQ.spExcInit K "name")) (c_copied_value : Callable P w K mg base 3 (He.ga K "copied_value") ["thing"] [] (spCopied K 2)) : RH.CallN P w K mg base 6 f ["self", "name"] [] (spField K) := by
  refine RH.stands_callN0 F sc_LogRecord_field (fun vs H Q E h => ?_) (fun cdv A outer s H vs Q E hr h => ?_) (fun _ _ _ _ _ _ us hl => match us, hl with | [_, _], _ => rfl)
  · obtain ⟨r, d, nm, o, rfl, _⟩ := h; rfl
  obtain ⟨r, d, nm, o, rfl, hR, hok, hO, hV, hEm, hEf⟩ := h
  obtain ⟨dx, g, e, hr1, hg, he⟩ := id hR
  refine ⟨_, (pss_cons (ps_if (pt_cmpR op_eq (pv 1) pe_str (nomark _)) (pss_one (ps_ret (RH.pe_mtN0 (L2N.takes_of rfl rfl rfl rfl) T.c_LogRecord T.m_LogRecord_message c_LogRecord_message (hr.mono (by first | decide | exact Nat.le_refl _)) (pv 0)))) pss_nil)
      (pss_cons (ps_set (i := 2) sc_LogRecord_field.nd rfl (by first | exact Or.inl rfl | exact Or.inr rfl) (pe_disp (pps_cons pe_str (pe_fld (pv 0) rfl) (pps_cons pe_str (pe_fld (pv 0) rfl) (pps_cons pe_str (pe_fld (pv 0) rfl) (pps_cons pe_str (pe_fld (pv 0) rfl) pps_nil)))) (by rfl) (by rfl) (fun z => by cases z) (by decide)))
      (pss_cons (ps_expr (pe_bm PySem.F.plainAttrs_dict PySem.F.slot_dict_update PySem.F.type_dict_update RF.mt_updD (pv 2) (pa_cons (pe_disp (pps_cons pe_str (pe_fld (pv 0) rfl) (pps_cons pe_str (pe_fld (pv 0) rfl) (pps_cons pe_str (pe_op op_mod (pe_fld (pv 0) rfl) pe_int) pps_nil))) (by rfl) (by rfl) (fun z => by cases z) (by decide)) pa_nil)))
      (pss_cons (ps_set (i := 3) sc_LogRecord_field.nd rfl (by first | exact Or.inl rfl | exact Or.inr rfl) (pe_ifExp (pt_cmp (pc_din (hu_of hr) (pv 1) (pv 2))) (pv 2) (pe_fld (pv 0) rfl)))
      (pss_cons (ps_if (pt_cmp (pc_dnotin (hu_of hr) (pv 1) (pv 3))) (pss_one (RH.ps_excN rfl (L2N.takes_of rfl rfl rfl rfl) T.x_BadField c_BadField_init (hr.mono (by first | decide | exact Nat.le_refl _)) T.g_BadField (by rfl) (pa_cons (pv 1) pa_nil))) pss_nil)
      (pss_one (ps_ret (pe_fn T.g_copied_value c_copied_value (hr.mono (by first | decide | exact Nat.le_refl _)) (by rfl) (pa_cons (pe_dget (hu_of hr) (pv 3) (pv 1) (fun _ _ => rfl)) pa_nil))))))))), ?_⟩
  dsimp only [cxK2]
  by_cases hm : nm = "message"
  · subst hm
    obtain ⟨oM, hMo, h1, h2⟩ : ∃ oM, MsgO d oM ∧ (∀ t, oM = some t → o = .tx t) ∧ (oM = none → o = .msg) := by
      cases hO with
      | @msgT t _ h => exact ⟨some t, h, fun _ e => by cases e; rfl, fun e => nomatch e⟩
      | msgE _ h => exact ⟨none, h, (fun _ e => nomatch e), fun _ => rfl⟩
      | val h => exact absurd rfl h
      | bad h => exact absurd rfl h
    have t1 : decide (V.str (Str.ofString "message") = V.str (Str.ofString "message")) = true := decide_eq_true rfl
    refine ⟨_, rfl, rfl, _, rfl, ?_⟩
    refine iteT' t1 ?_
    refine ⟨_, rfl, r, dx, _, rfl, hr1, rfl, ?_⟩
    refine ⟨r, d, oM, rfl, hR, hok, hMo, fun t H' ho s => ?_, fun ho => hEm (h2 ho)⟩
    refine hV _ _ (h1 t ho) (.inl ⟨_, rfl, ?_⟩) s
    subst ho
    rw [tx_len]
    have := msgO_len hMo hok
    omega
  · have t1 : decide (V.str nm = V.str (Str.ofString "message")) = false := decide_eq_false fun z => hm (V.str.inj z)
    walk_at "go"
    intro q1 fq1
    walk_at "go"
    generalize hH1 : upd (upd H q1 _) q1 _ = H1
    have s1 : Same H H1 := by rw [← hH1, upd_upd]; exact same_new fq1 _
    have hq1 : H1 q1 = some (.dK [(Sum.inr "name", .str d.name), (Sum.inr "levelno", .int d.lv), (Sum.inr "levelname", .str d.ln), (Sum.inr "msg", .str d.msg)]) := by rw [← hH1]; exact upd_same
    clear hH1
    have hr2 := s1 _ _ hr1
    have n1 : q1 ≠ r := fun z => by rw [z, hr1] at fq1; cases fq1
    have n2 : q1 ≠ e := fun z => by rw [z, he] at fq1; cases fq1
    refine ⟨.inr (.inr (.inl ⟨rfl, .inl ⟨_, hq1⟩⟩)), ?_⟩
    walk_at "go"
    intro q2 fq2
    have n3 : q2 ≠ q1 := fun z => by rw [z, hq1] at fq2; cases fq2
    have he1 := s1 _ _ he
    have n4 : q2 ≠ e := fun z => by rw [z, he1] at fq2; cases fq2
    walk_at "go"
    generalize hH2 : upd (upd (upd H1 q2 _) q2 _) q1 _ = H2
    have hq3 : H2 q1 = some (.dK (own7 d g)) := by rw [← hH2]; exact upd_same
    have he3 : H2 e = some (.dK []) := by rw [← hH2, upd_ne (Ne.symm n2), upd_ne (Ne.symm n4), upd_ne (Ne.symm n4)]; exact he1
    have s2 : Same H H2 := fun b u hb => by
      have b1 : b ≠ q1 := ne_of_none hb fq1
      have b2 : b ≠ q2 := ne_of_none (s1 _ _ hb) fq2
      rw [← hH2, upd_ne b1, upd_ne b2, upd_ne b2]; exact s1 _ _ hb
    clear hH2 s1 hq1 hr2 he1
    show (fun c H1 => if c = true then _ else _) (valV (own7 d g) (Sum.inr nm)).isSome H2
    cases hO with
    | msgT h => exact absurd h hm
    | msgE h => exact absurd h hm
    | @val v _ h hmem =>
      obtain ⟨e1, e2, e3⟩ := fval_own hok h hmem g
      rw [e1]
      refine iteT ?_
      walk_at "go"
      exact .inl ⟨v, rfl, by decide, e3, hV v _ rfl e2 s2⟩
    | bad _ h =>
      have e1 := fval_not h g (d := d)
      rw [e1]
      refine iteF ?_
      walk_at "go"
      intro dd fd
      exact hEf nm rfl dd _ s2 fd
end
end K17

set_option Elab.async false
set_option linter.all false
set_option maxRecDepth 100000
set_option maxHeartbeats 0

namespace K17
open PySem PySem.Spec PyProof.Rows L2 RC
section
variable {P : Program} {w : World} {K : PySem.W.Frag} {mg : Str → Option Value} {base : Heap}
/-! ### the value of a field -/
abbrev CFm (K : PySem.W.Frag) : Addr := He.ga K "Formatter"
def fmF (z : Str) (t d : Addr) : List (Str × V) := [("fmt", .str z), ("style", .str "{"), ("parts", .ref t), ("defaults", .ref d)]
def spValueOf (K : PySem.W.Frag) : Sp := fun vs H Q E => ∃ (m dm t df r : Addr) (z : Str) (d : Rc) (nm : Str) (o : TxO), vs = [.ref m, .str nm, .ref r] ∧ H m = some (.ins (CFm K) dm (fmF z t df)) ∧ H df = some (.dK []) ∧ RcAt K H r d ∧ d.Ok ∧ nm ≠ "asctime" ∧ FldO d nm o ∧ ValO K H Q E d o
theorem fldO_nm {d : Rc} {nm n2 : Str} {o : TxO} (h : FldO d nm o) (e : o = .fld n2) : n2 = nm := by
  cases h with
  | msgT => cases e
  | msgE => cases e
  | val => cases e
  | bad => cases e; rfl
theorem ok_value_of {f : Addr} (T : Txt P w K mg) (F : Stands K "value_of" "Formatter.value_of" s_Formatter_value_of [] f) (c_LogRecord_field : RH.CallN P w K mg base 6 (He.ma K (He.ga K "LogRecord") "field") ["self", "name"] [] (spField K))
    (i_BadField_init : RH.InitH P w K mg base 1 (He.ma K (He.ga K "BadField") "__init__") ["self", "name"] (RQ.spExcInit K "name")) : RQ.CallX P w K mg base 7 f ["self", "name", "record"] [] (spValueOf K) := by
  refine RQ.stands_callX0 F sc_Formatter_value_of (fun vs H Q E h => ?_) (fun cdv A outer s H vs Q E hr h => ?_) (fun _ _ _ _ _ _ us hl => match us, hl with | [_, _, _], _ => rfl)
  · obtain ⟨m, dm, t, df, r, z, d, nm, o, rfl, _⟩ := h; rfl
  obtain ⟨m, dm, t, df, r, z, d, nm, o, rfl, hm, hdf, hR, hok, hne, hO, hV, hEm, hEf⟩ := h
  obtain ⟨dx, g, e, hr1, hg, he⟩ := id hR
  refine ⟨_, (pss_cons (ps_if (pt_cmpR op_eq (pv 1) pe_str (nomark _)) (pss_one (ps_ret pe_never)) pss_nil)
      (pss_cons (L2H.ps_try_onlyX rfl rfl ⟨by rfl, by decide, .inl T.g_BadField⟩ (fun hd => L2H.passesAt_of rfl hd) (takes_of rfl rfl rfl rfl) (fun W pn xe tk tk2 _ => (pss_one (ps_set (i := 3) sc_Formatter_value_of.nd rfl (by first | exact Or.inl rfl | exact Or.inr rfl) (RH.pe_mtN tk T.c_LogRecord T.m_LogRecord_field c_LogRecord_field (hr.mono (by first | decide | exact Nat.le_refl _)) (pv 2) (pa_cons (pv 1) pa_nil))))) (fun a oe cls dd pn hz hf tk hot => (pss_cons (ps_if (pt_cmp (pc_dnotin (by exact hu_hot hr) (pv 1) (pe_fldK (K := K) (pv 0) rfl))) (pss_one (RH.ps_excH hot tk T.x_BadField i_BadField_init (L2H.roomH_mark (hr.mono (by first | decide | exact Nat.le_refl _)) _) T.g_BadField (by rfl) (pa_cons (pv 1) pa_nil))) pss_nil)
      (pss_one (ps_set (i := 3) sc_Formatter_value_of.nd rfl (by first | exact Or.inl rfl | exact Or.inr rfl) (pe_dget (by exact hu_hot hr) (pe_fldK (K := K) (pv 0) rfl) (pv 1) (fun _ _ => rfl)))))))
      (pss_one (ps_ret (pv 3))))), ?_⟩
  dsimp only [cxK2]
  have t1 : decide (V.str nm = V.str (Str.ofString "asctime")) = false := decide_eq_false fun z => hne (V.str.inj z)
  refine ⟨_, rfl, rfl, _, rfl, ?_⟩
  refine iteF' t1 ?_
  refine ⟨_, rfl, r, dx, _, rfl, hr1, rfl, _, rfl, ?_⟩
  refine ⟨r, d, nm, o, rfl, hR, hok, hO, fun v H' ho hv s => ?_, fun ho d2 H1 s1 fd => ?_, fun n2 ho d2 H1 s1 fd => ?_⟩
  · walk_at "go"
    exact hV v H' ho hv s
  · refine ⟨false, T.e_BadMessage_BadField, (fun h => nomatch h), fun _ => hEm ho d2 H1 s1 fd⟩
  · refine ⟨true, T.e_BadField_BadField, fun _ a fa => ?_, fun h => nomatch h⟩
    have e1 := fldO_nm hO ho
    subst e1
    have s2 : Same H (upd H1 d2 (.xd [("name", .str n2)])) := s1.trans (same_new fd _)
    have hm2 := s2 _ _ hm
    have hd2 := s2 _ _ hdf
    generalize upd H1 d2 (.xd [("name", .str n2)]) = H2 at s2 hm2 hd2 fa ⊢
    walk_at "go"
    intro d3 fd3
    exact hEf n2 ho d3 _ s2 fd3
end
end K17

set_option Elab.async false
set_option linter.all false
set_option maxRecDepth 100000
set_option maxHeartbeats 0

namespace K17
open PySem PySem.Spec PyProof.Rows L2 RC
section
variable {P : Program} {w : World} {K : PySem.W.Frag} {mg : Str → Option Value} {base : Heap}
/-! ### a record formatted -/
/-- a part of a formatter: a text, or a plain field of a name -/
inductive PtA (K : PySem.W.Frag) (H : Hp) : Str ⊕ Str → V → Prop
  | txt (z : Str) : PtA K H (.inl z) (.str z)
  | fld {q dx : Addr} {n : Str} : H q = some (.ins (CFd K) dx (fdP n)) → PtA K H (.inr n) (.ref q)
def PtsA (K : PySem.W.Frag) (H : Hp) (ps : List (Str ⊕ Str)) (vs : List V) : Prop := ps.length = vs.length ∧ ∀ (i : Nat) (p : Str ⊕ Str) (v : V), ps[i]? = some p → vs[i]? = some v → PtA K H p v
theorem PtA.same {H H' : Hp} (s : Same H H') : ∀ {p : Str ⊕ Str} {v : V}, PtA K H p v → PtA K H' p v
  | _, _, .txt z => .txt z
  | _, _, .fld h => .fld (s _ _ h)
theorem PtsA.same {H H' : Hp} (s : Same H H') {ps : List (Str ⊕ Str)} {vs : List V} (h : PtsA K H ps vs) : PtsA K H' ps vs := ⟨h.1, fun i p v hp hv => (h.2 i p v hp hv).same s⟩
/-- a formatter of these parts stands at m -/
def FmAt (K : PySem.W.Frag) (H : Hp) (m : Addr) (ps : List (Str ⊕ Str)) : Prop := ∃ (dm t df : Addr) (z : Str) (vs : List V), H m = some (.ins (CFm K) dm (fmF z t df)) ∧ H df = some (.dK []) ∧ H t = some (.tup vs) ∧ PtsA K H ps vs
theorem FmAt.same {H H' : Hp} (s : Same H H') {m : Addr} {ps : List (Str ⊕ Str)} (h : FmAt K H m ps) : FmAt K H' m ps := by
  obtain ⟨dm, t, df, z, vs, h1, h2, h3, h4⟩ := h
  exact ⟨dm, t, df, z, vs, s _ _ h1, s _ _ h2, s _ _ h3, h4.same s⟩
def TxO.pre (s : SS) : TxO → TxO
  | .tx t => .tx (s ++ t)
  | .msg => .msg
  | .fld n => .fld n
theorem TxO.pre_app (a b : SS) : ∀ o : TxO, (o.pre b).pre a = o.pre (a ++ b)
  | .tx t => congrArg TxO.tx (List.append_assoc a b t).symm
  | .msg => rfl
  | .fld _ => rfl
/-- what is written of parts, or the first error -/
inductive FmO (d : Rc) : List (Str ⊕ Str) → TxO → Prop
  | nil : FmO d [] (.tx [])
  | txt {z : Str} {r : List (Str ⊕ Str)} {o : TxO} : FmO d r o → FmO d (.inl z :: r) (o.pre z.cps.toList)
  | val {n : Str} {r : List (Str ⊕ Str)} {t : SS} {o : TxO} : FldO d n (.tx t) → FmO d r o → FmO d (.inr n :: r) (o.pre t)
  | msg {n : Str} {r : List (Str ⊕ Str)} : FldO d n .msg → FmO d (.inr n :: r) .msg
  | fld {n n2 : Str} {r : List (Str ⊕ Str)} : FldO d n (.fld n2) → FmO d (.inr n :: r) (.fld n2)
/-- no part is longer than 1000, nor are there more than 100; no field is the time -/
def PsOk (ps : List (Str ⊕ Str)) : Prop := ps.length ≤ 50 ∧ (∀ z : Str, Sum.inl z ∈ ps → z.length ≤ 1000) ∧ ∀ n : Str, Sum.inr n ∈ ps → n ≠ "asctime"
def TxtO (K : PySem.W.Frag) (H : Hp) (Q : VK) (E : XK) (d : Rc) (o : TxO) : Prop := (∀ (t : SS) (H' : Hp), o = .tx t → t.length ≤ 12000000 → Same H H' → Q (.str (tx t)) H') ∧ (o = .msg → ErrM K H E d) ∧ (∀ nm, o = .fld nm → ErrF K H E nm)
def spFmFormatted (K : PySem.W.Frag) : Sp := fun vs H Q E => ∃ (m r : Addr) (ps : List (Str ⊕ Str)) (d : Rc) (o : TxO), vs = [.ref m, .ref r] ∧ FmAt K H m ps ∧ PsOk ps ∧ RcAt K H r d ∧ d.Ok ∧ FmO d ps o ∧ TxtO K H Q E d o
theorem valT_argS {v : V} (h : VOk v) : (valT v).cps.toList = argS v ∧ (valT v).length ≤ 1000000 ∧ ∃ z, valT v = z := by
  rcases h with ⟨z, rfl, hz⟩ | ⟨i, rfl, hi⟩
  · exact ⟨rfl, hz, _, rfl⟩
  · refine ⟨rfl, ?_, _, rfl⟩
    have h1 := RN.len_toString i
    have h64 : i.natAbs.log2 < 63 := by
      by_cases c : i.natAbs = 0
      · rw [c]; decide
      · exact (Nat.log2_lt c).mpr hi
    show (Str.ofString (toString i)).length ≤ _
    omega
theorem fldO_len {d : Rc} {n : Str} {t : SS} (hok : d.Ok) (h : FldO d n (.tx t)) : t.length ≤ 210000 := by
  cases h with
  | msgT _ h => have := msgO_len h hok; omega
  | @val v _ h hm =>
    obtain ⟨_, _, e⟩ := fval_own hok h hm 0
    have n1 := hok.nm
    have n2 := hok.lnl
    have n3 := hok.ms
    have n4 := hok.ck
    have n5 := hok.l
    simp only [List.mem_cons, List.not_mem_nil, or_false] at hm
    have len : ∀ z : Str, (argS (.str z)).length = z.length := fun z => Array.length_toList ..
    have leni : ∀ i : Int, i.natAbs < 2 ^ 63 → (argS (.int i)).length ≤ 210000 := fun i hi => by
      have h1 := RN.len_toString i
      have h64 : i.natAbs.log2 < 63 := by
        by_cases c : i.natAbs = 0
        · rw [c]; decide
        · exact (Nat.log2_lt c).mpr hi
      have h3 : (argS (.int i)).length = (Str.ofString (toString i)).length := Array.length_toList ..
      omega
    rcases hm with rfl | rfl | rfl | rfl | rfl | rfl
    · have h' : some (V.str d.name) = some v := h
      cases h'; rw [len]; omega
    · have h' : some (V.int d.lv) = some v := h
      cases h'; exact leni _ n5
    · have h' : some (V.str d.ln) = some v := h
      cases h'; rw [len]; omega
    · have h' : some (V.str d.msg) = some v := h
      cases h'; rw [len]; omega
    · have h' : some (V.int d.clk) = some v := h
      cases h'; exact leni _ n4
    · have h' : some (V.int (d.clk % 1000)) = some v := h
      cases h'; exact leni _ (by omega)
theorem ErrM.same {H H' : Hp} {E : XK} {d : Rc} (s : Same H H') (h : ErrM K H E d) : ErrM K H' E d := fun dx H1 s1 => h dx H1 (s.trans s1)
theorem ErrF.same {H H' : Hp} {E : XK} {nm : Str} (s : Same H H') (h : ErrF K H E nm) : ErrF K H' E nm := fun dx H1 s1 => h dx H1 (s.trans s1)
/-- what holds in the loop over the parts -/
structure FInv (H : Hp) (m r p : Addr) (ps : List (Str ⊕ Str)) (d : Rc) (o : TxO) (i : Nat) (σ : L2.St) (H' : Hp) : Prop where
  same : Same H H'
  ex : ∃ (ws : List Str) (o' : TxO) (a : Option V), H' p = some (.lst (ws.map V.str)) ∧ ws.length = i ∧ (catS ws).length ≤ 210000 * i ∧ FmO d (ps.drop i) o' ∧ o = o'.pre (catS ws) ∧ σ = [some (.ref m), some (.ref r), some (.ref p), a]
theorem ok_fm_formatted {f : Addr} (T : Txt P w K mg) (F : Stands K "formatted" "Formatter.formatted" s_Formatter_formatted [] f) (c_Formatter_value_of : RQ.CallX P w K mg base 7 (He.ma K (He.ga K "Formatter") "value_of") ["self", "name", "record"] [] (spValueOf K))
    (c_Field_written : Callable P w K mg base 3 (He.ma K (He.ga K "Field") "written") ["self", "value"] [] (spWritten K)) : RQ.CallX P w K mg base 8 f ["self", "record"] [] (spFmFormatted K) := by
  refine RQ.stands_callX0 F sc_Formatter_formatted (fun vs H Q E h => ?_) (fun cdv A outer s H vs Q E hr h => ?_) (fun _ _ _ _ _ _ us hl => match us, hl with | [_, _], _ => rfl)
  · obtain ⟨m, r, ps, d, o, rfl, _⟩ := h; rfl
  obtain ⟨m, r, ps, d, o, rfl, hFm, hps, hR, hok, hO, hQ, hEm, hEf⟩ := h
  obtain ⟨dm, t, df, z, vs, hm, hdf, ht, hpl, hpt⟩ := id hFm
  refine ⟨_, (pss_cons (ps_set (i := 2) sc_Formatter_formatted.nd rfl (by first | exact Or.inl rfl | exact Or.inr rfl) (pe_lst pa_nil))
      (pss_cons (ps_for (passes_of rfl) rfl (pi_tup (pe_fld (pv 0) rfl)) (pg_name (i := 3) sc_Formatter_formatted.nd rfl (by first | exact Or.inl rfl | exact Or.inr rfl)) (pss_one (ps_expr (pe_bm PySem.F.plainAttrs_list PySem.F.slot_list_append PySem.F.type_list_append mt_append (pv 2) (pa_cons (pe_ifExp (pt_val (pe_callB call_isi (by rfl) T.b_isinstance (by decide +kernel) (pa_cons (pv 3) (pa_cons (pe_bltn (v := .ty "str") (u := .type "str") (by rfl) T.b_str (by decide +kernel) rfl) pa_nil)))) (pv 3) (pe_mt T.c_Field T.m_Field_written c_Field_written (hr.mono (by first | decide | exact Nat.le_refl _)) (pv 3) (pa_cons (RQ.pe_mtX (takes_of rfl rfl rfl rfl) T.c_Formatter T.m_Formatter_value_of c_Formatter_value_of (hr.mono (by first | decide | exact Nat.le_refl _)) (pv 0) (pa_cons (pe_fld (pv 3) rfl) (pa_cons (pv 1) pa_nil))) pa_nil))) pa_nil)))))
      (pss_one (ps_ret (pe_join pe_str (pv 2)))))), ?_⟩
  dsimp only [cxK2]
  walk_at "go"
  intro p fp
  walk_at "go"
  refine for_it (walk_tup (xs := vs)) (FInv H m r p ps d o) ⟨same_new fp _, [], o, _, upd_same, rfl, Nat.zero_le _, hO, by cases o <;> rfl, rfl⟩ (fun i σ H' _ h => SqT.of (h.same _ _ ht)) (fun i x σ H0 H1 hi hP hy => ?_) (fun σ H1 hP => ?_)
  · obtain ⟨rfl, hy⟩ := hy
    obtain ⟨s1, ws, o', a, hp1, hw, hcl, hO', ho, rfl⟩ := hP
    obtain ⟨part, hpart⟩ : ∃ part, ps[i]? = some part := ⟨_, List.getElem?_eq_getElem (by rw [hpl]; exact hi)⟩
    have hdr : ps.drop i = part :: ps.drop (i + 1) := by
      obtain ⟨h1, h2⟩ := List.getElem?_eq_some_iff.mp hpart
      rw [← h2]; exact List.drop_eq_getElem_cons h1
    have hpm := List.mem_of_getElem? hpart
    rw [hdr] at hO'
    have hA := hpt i part x hpart hy
    have l50 := hps.1
    have hsz : (ws.map V.str).length < sizeLine := by rw [List.length_map, sizeLine_eq]; omega
    have next : ∀ (w : Str) (o2 : TxO) (H2 : Hp) (a2 : Option V), w.length ≤ 210000 → Same H1 H2 → FmO d (ps.drop (i + 1)) o2 → o = o2.pre (catS ws ++ w.cps.toList) → FInv H m r p ps d o (i + 1) [some (.ref m), some (.ref r), some (.ref p), a2] (upd H2 p (.lst (ws.map V.str ++ [.str w]))) := fun w o2 H2 a2 h1 s2 h3 h4 =>
      ⟨fun b v hb => (by rw [upd_ne (ne_of_none hb fp)]; exact s2 _ _ (s1 _ _ hb)), ws ++ [w], o2, a2, by rw [upd_same, List.map_append]; rfl, by rw [List.length_append, hw]; rfl, by
        have hw2 : w.cps.toList.length = w.length := Array.length_toList ..
        rw [catS_snoc, List.length_append, hw2]; omega, h3, by rw [catS_snoc]; exact h4, rfl⟩
    cases hA with
    | txt z =>
      cases hO' with
      | @txt _ _ o2 h3 =>
        have hz := hps.2.1 z hpm
        walk_at "go"
        exact next z o2 H1 _ (by omega) (Same.refl _) h3 (by rw [ho, TxO.pre_app])
    | @fld q dq n hq =>
      have hne := hps.2.2 n hpm
      have hq1 := s1 _ _ hq
      have hm1 := s1 _ _ hm
      have hdf1 := s1 _ _ hdf
      have hR1 : RcAt K H1 r d := RecAt.same hR s1
      have ky := T.kiy_Field_str
      have ty4 := RB.TyC.tyx T.ty_Field T.c_Field hq1
      obtain ⟨oF, hF, hf⟩ : ∃ oF, FldO d n oF ∧ ((∃ t o2, oF = .tx t ∧ FmO d (ps.drop (i + 1)) o2 ∧ o' = o2.pre t) ∨ ((∀ t, oF ≠ .tx t) ∧ o' = oF)) := by
        cases hO' with
        | @val _ _ t o2 h1 h2 => exact ⟨_, h1, .inl ⟨t, o2, rfl, h2, rfl⟩⟩
        | msg h1 => exact ⟨_, h1, .inr ⟨(fun t z => nomatch z), rfl⟩⟩
        | fld h1 => exact ⟨_, h1, .inr ⟨(fun t z => nomatch z), rfl⟩⟩
      walk_at "go"
      refine ⟨fun v H2 hv1 hv2 s2 => ?_, fun hv1 => ?_, fun n2 hv1 => ?_⟩
      · rcases hf with ⟨t, o2, rfl, h2, h3⟩ | ⟨h1, _⟩
        · have et : t = argS v := TxO.tx.inj hv1
          have hq2 := s2 _ _ hq1
          have hp2 := s2 _ _ hp1
          have ln := fldO_len hok hF
          walk_at "go"
          intro H3 s3
          have hp3 := s3 _ _ hp2
          obtain ⟨g1, g2, _⟩ := valT_argS hv2
          have hw2 : (valT v).cps.toList.length = (valT v).length := Array.length_toList ..
          walk_at "go"
          refine next (valT v) o2 H3 _ ?_ (s2.trans s3) h2 ?_
          · rw [← hw2, g1, ← et]; exact ln
          · rw [ho, h3, TxO.pre_app, g1, et]
        · exact absurd hv1 (h1 _)
      · subst hv1
        rcases hf with ⟨t, o2, h1, _⟩ | ⟨_, h1⟩
        · cases h1
        · exact (hEm (by rw [ho, h1]; rfl)).same s1
      · subst hv1
        rcases hf with ⟨t, o2, h1, _⟩ | ⟨_, h1⟩
        · cases h1
        · exact (hEf n2 (by rw [ho, h1]; rfl)).same s1
  · obtain ⟨s1, ws, o', a, hp1, hw, hcl, hO', ho, rfl⟩ := hP
    have l50 := hps.1
    rw [List.drop_eq_nil_of_le (by omega)] at hO'
    cases hO'
    have ho2 : o = .tx (catS ws) := by rw [ho]; exact congrArg TxO.tx (List.append_nil _)
    walk_at "go"
    refine ⟨⟨_, rfl⟩, _, rfl, "", p, ws, rfl, rfl, .inl (SqL.of hp1), ?_, ?_⟩
    · rw [catS_len]; show _ + ws.length * 0 ≤ _; omega
    · rw [join_cat]; exact hQ _ _ ho2 (by omega) s1
end
end K17

set_option Elab.async false
set_option linter.all false
set_option maxRecDepth 100000
set_option maxHeartbeats 4000000
/-! A token is out: str.replace in a for; list(text); a list's item in an op=; a dict of the top asked. -/
namespace RT
open PySem PySem.Spec PyProof.Rows L2 RC
section
variable {X : Cx} {st : Stmt} {rest body : List Stmt} {t u : TS} {e f : Expr} {te : TE} {pos : Pos}
/-- x = e -/
theorem pst_set {i : Nat} {x : Str} {px : Pos} (hN : X.N.Nodup) (hi : X.N[i]? = some x) (hx : Loc X.env.scope x) (he : PET X e te) (hs : swapsWith e (some (.Name x px)) pos.line X.env = pure false := by rfl)
    (hf : X.fn x = true ∨ X.env.scope.names.lookup x = some .local := by first | exact .inl rfl | exact .inr rfl | assumption) : PST X (.Assign [.Name x px] e pos) (tAsg te (gName i)) := by
  intro pins s σ H D h0 I h
  refine wpAny_Assign_Name (thn (he pins s σ H _ h0 I h) fun v sA ⟨y, HA, IA, rA, qA⟩ => ?_) hs
  exact store_ok IA hN hi hx rA (fun sB IB => ⟨_, HA, IB, qA⟩) hf
/-- x, y = 'a', 'b': a token is out behind it -/
theorem pss_parS {i j k1 k2 : Nat} {x y c d : Str} {px py pt pc pd pu : Pos} {kt kt2} (hc : X.calm = true) (hN : X.N.Nodup) (hi : X.N[i]? = some x) (hj : X.N[j]? = some y) (hij : i ≠ j)
    (hx : X.env.scope.names.lookup x = some .local) (hy : X.env.scope.names.lookup y = some .local) (hr : PSsT X rest u)
    (hw : swappedStores [.Tuple [.Name x px, .Name y py] kt pt] (.Tuple [.Constant (.str c) k1 pc, .Constant (.str d) k2 pd] kt2 pu) X.env = pure (some [x, y]))
    (hs : swapsWithSole [.Tuple [.Name x px, .Name y py] kt pt] (.Tuple [.Constant (.str c) k1 pc, .Constant (.str d) k2 pd] kt2 pu) pos.line X.env = pure false := by rfl) :
    PSs X (.Assign [.Tuple [.Name x px, .Name y py] kt pt] (.Tuple [.Constant (.str c) k1 pc, .Constant (.str d) k2 pd] kt2 pu) pos :: rest) (tSeq (tPar i j (tCons (tC (.str c)) (tCons (tC (.str d)) tNil))) u) := by
  refine ⟨fun pins s σ H D I h => ?_⟩
  have h : u D ((σ.set i (some (.str c))).set j (some (.str d))) H := by
    obtain ⟨v, w, e1, q⟩ := h
    cases e1
    exact q
  refine wpAny_execs_cons ?_
  rw [exec_Assign_arm]
  refine wpAny_bind (wpAny_standAt ?_)
  rw [hs]
  refine wpAny_bind (wpAny_pure ?_)
  rw [if_neg (by decide)]
  refine wpAny_bind (Tuple_ (Calls.spliced_cons (Calls.Constant_str (k := k1) (pos := pc) (Calls.spliced_cons (Calls.Constant_str (k := k2) (pos := pd) (Calls.spliced_nil ?_))))))
  have tA : 1 ≤ ({ s with toks := s.toks + 1 + 1 } : Shared).toks := by show 1 ≤ s.toks + 1 + 1; omega
  have I1 : Inv X pins σ H { s with toks := s.toks + 1 + 1 } := I.tok _
  refine wpAny_newObj_type ?_ (by show 2 ≤ sizeLine; decide)
  generalize hsA : ({ s with toks := s.toks + 1 + 1 } : Shared) = sA at I1 tA ⊢
  have I2 := I1.kept (t' := sA.toks) (h' := sA.heap.push { cls := .type "tuple", data := .seq [Value.str c s.toks, Value.str d (s.toks + 1)].toArray }) fun b o q => Heap.get?_push_of_some _ q
  rw [hw]
  refine wpAny_bind (wpAny_pure ?_)
  show wpAny (model X.prog X.w) X.A (do rule "assign.swapped-stores"; let its ← unpackItems (.ref sA.heap.objs.size) 2 none; assignInOrder [fun v => bindName X.env y v, fun v => bindName X.env x v] its.reverse; pure Flow.next) _ _ _
  refine wpAny_with_toks (n := 1) tA ?_
  refine wpAny_bind (wpAny_rule (wpAny_bind (unpackItems_tuple (items := #[Value.str c s.toks, Value.str d (s.toks + 1)]) (I.ok.hd hc) (IsTup.new sA.heap _) fun hB kB => ?_)))
  have I3 := I2.kept (h' := hB) (t' := sA.toks) fun b o q => kB b o (Nat.ne_of_lt (Heap.lt_size q)) q
  refine wpAny_bind (assignInOrder_cons (wpAny_bindName (store_ok I3 hN hj (.inl hy) (v := .str d) ⟨_, rfl⟩ (fun s2 I4 => ?_) (.inr hy))))
  refine assignInOrder_cons (wpAny_bindName (store_ok I4 hN hi (.inl hx) (v := .str c) ⟨_, rfl⟩ (fun s3 I5 => assignInOrder_nil (wpAny_pure ?_)) (.inr hx)))
  rw [List.set_comm _ _ (Ne.symm hij)] at I5
  intro h1
  exact hr pins s3 _ H D h1 I5 h
/-- x, y = 'a', 'b', a folded pair: a token is out behind it -/
theorem pss_parC {c d : Str} {k1 k2 kt2 : Nat} {pc pd pu : Pos} {tg : Expr} {g : TG} (hg : PG X tg g) (hr : PSsT X rest u)
    (hw : swappedStores [tg] (.Tuple [.Constant (.str c) k1 pc, .Constant (.str d) k2 pd] kt2 pu) X.env = pure none := by rfl)
    (hs : swapsWithSole [tg] (.Tuple [.Constant (.str c) k1 pc, .Constant (.str d) k2 pd] kt2 pu) pos.line X.env = pure false := by rfl)
    (he : (assignEach [tg] X.env).map (·.2) = [assign tg X.env] := by rfl) :
    PSs X (.Assign [tg] (.Tuple [.Constant (.str c) k1 pc, .Constant (.str d) k2 pd] kt2 pu) pos :: rest) (tSeq (tAsg (tTup (tCons (tC (.str c)) (tCons (tC (.str d)) tNil))) g) u) := by
  refine ⟨fun pins s σ H D I h => ?_⟩
  refine wpAny_execs_cons ?_
  refine wpAny_Assign_stores ?_ hs hw
  refine Tuple_ (Calls.spliced_cons (Calls.Constant_str (k := k1) (pos := pc) (Calls.spliced_cons (Calls.Constant_str (k := k2) (pos := pd) (Calls.spliced_nil ?_)))))
  have tA : 1 ≤ ({ s with toks := s.toks + 1 + 1 } : Shared).toks := by show 1 ≤ s.toks + 1 + 1; omega
  have I1 : Inv X pins σ H { s with toks := s.toks + 1 + 1 } := I.tok _
  refine wpAny_newObj_type ?_ (by show 2 ≤ sizeLine; decide)
  generalize hsA : ({ s with toks := s.toks + 1 + 1 } : Shared) = sA at I1 tA ⊢
  have h : 2 ≤ sizeLine ∧ ∀ a, H a = none → g (.ref a) σ (upd H a (.tup [.str c, .str d])) (u D) := h
  have hf : H sA.heap.objs.size = none := I1.hok.fresh (Nat.le_refl _)
  have I2 := I1.laid (t' := sA.toks) (h' := sA.heap.push { cls := .type "tuple", data := .seq [Value.str c s.toks, Value.str d (s.toks + 1)].toArray }) (a := sA.heap.objs.size) (o := .tup [.str c, .str d]) (fun b u e => Heap.get?_push_of_some _ e) (Nat.le_refl _)
    ⟨by show 2 ≤ sizeLine; decide, [Value.str c s.toks, Value.str d (s.toks + 1)], .cons ⟨_, rfl⟩ (.cons ⟨_, rfl⟩ .nil), ⟨_, Heap.get?_push_size _ rfl, rfl, _, rfl⟩⟩
  rw [he]
  refine wpAny_mono (wpAny_toks_of tA (hg.run pins _ σ _ (.ref sA.heap.objs.size) (.ref sA.heap.objs.size) _ I2 rfl (h.2 _ hf))) (fun _ s2 ⟨t2, σ2, H2, I3, q3⟩ => ?_) (fun _ _ z => z.2)
  exact hr pins s2 σ2 H2 D t2 I3 q3
/-- for, the body where a token is out -/
theorem pst_forT {tg iter : Expr} {wi : TI} {g : TG} {tb : TS} (hp : PassesOwn (model X.prog X.w) X.A X.env X.xe) (hc : X.calm = true) (hi : PI X tg iter wi) (hg : PG X tg g) (hb : PSsT X body tb)
    (hs : ∀ x, foldedSetIterable iter X.env x = pure x := by intro _; rfl) : PST X (.For tg iter body [] pos) (tFor wi g tb) := by
  intro pins s σ H D h0 I h
  refine wpAny_For (wpAny_mono (wpAny_toks_of h0 (hi.run pins s σ H _ I h)) (fun v s1 ⟨t1, h1⟩ => wpAny_mono (wpAny_toks_of t1 h1) (fun itv s2 ⟨t2, h2⟩ => ?_) fun _ _ z => z.2) fun _ _ z => z.2) hs
  obtain ⟨it, fp, tn, J, H2, e, I2, T, st2, f2, W, ⟨m0, w0⟩, turn⟩ := h2
  subst e
  have stat : ∀ {HA : Hp}, (∀ b ∈ fp, HA b = none) → ∀ b ∈ fp, FpOk X pins HA b := fun hn b hb => ⟨hn b hb, (f2 b hb).2⟩
  refine codeAny_forLoop_any (fun n sA => 1 ≤ sA.toks ∧ ∃ i σA HA, Inv X pins σA HA sA ∧ tn i sA.heap ∧ (∀ b ∈ fp, HA b = none) ∧ W i n σA HA) ?_ m0 ⟨t2, 0, σ, H2, I2, st2, fun b hb => (f2 b hb).1, w0⟩
  rintro n s3 ⟨t3, i, σ3, H3, I3, st3, fr3, w3⟩
  rcases turn i n σ3 H3 w3 with ⟨stop, qn⟩ | ⟨go, N, hN, step⟩
  · refine wpAny_passesOwn hp (thn (T.done X rfl rfl rfl hc i pins s3 σ3 H3 X.xe I3 (stat fr3) st3 stop) fun r s4 ⟨hr, I4⟩ => ?_)
    subst hr
    exact wpAny_execs_nil ⟨σ3, H3, I4, qn⟩
  · refine wpAny_passesOwn hp (wpAny_mono (wpAny_toks_of t3 (T.item X rfl rfl rfl hc i pins s3 σ3 H3 X.xe I3 (stat fr3) st3 go)) (fun r s4 ⟨t4, u4, hr, h4⟩ => ?_) fun _ _ z => z.2)
    subst hr
    refine wpAny_passesOwn hp (wpAny_mono (wpAny_toks_of t4 h4) (fun _ s5 ⟨t5, x5, H5, I5, r5, y5, st5, fr5⟩ => ?_) fun _ _ z => z.2)
    have IP := I5.pinned (stat fr5) (T.obj _ _ st5)
    refine wpAny_passesOwn hp (wpAny_mono (wpAny_toks_of t5 (hg.run _ s5 σ3 H5 x5 u4 _ IP r5 (step x5 H5 y5))) (fun _ s6 ⟨t6, σ6, H6, I6, q6⟩ => ?_) fun _ _ z => z.2)
    refine wpAny_passesOwn hp (wpAny_mono (wpAny_toks_of t6 (hb _ s6 σ6 H6 _ t6 I6 q6)) (fun fl s7 ⟨t7, q7⟩ => ?_) fun _ _ z => z.2)
    have again : ∀ {σ7 : L2.St} {H7 : Hp}, Inv X (pins ++ pinsAt fp s5.heap) σ7 H7 s7 → N σ7 H7 → ∃ m, m < n ∧ 1 ≤ s7.toks ∧ ∃ i σA HA, Inv X pins σA HA s7 ∧ tn i s7.heap ∧ (∀ b ∈ fp, HA b = none) ∧ W i m σA HA := fun {σ7 H7} I7 n7 => by
      obtain ⟨m7, lt7, w7⟩ := hN σ7 H7 n7
      refine ⟨m7, lt7, t7, i + 1, σ7, H7, I7.unpinned, T.keep _ _ _ st5 fun b hb o eb => (I7.pin (b, o) (List.mem_append_right _ (List.mem_append_right _ (mem_pinsAt hb eb)))).1, fun b hb => ?_, w7⟩
      obtain ⟨o, eb, _⟩ := T.obj _ _ st5 b hb
      exact (I7.pin (b, o) (List.mem_append_right _ (List.mem_append_right _ (mem_pinsAt hb eb)))).2.1
    cases fl with
    | ret v =>
      obtain ⟨x7, σ7, H7, I7, r7, q8⟩ := q7
      exact ⟨x7, σ7, H7, I7.unpinned, r7, q8⟩
    | next =>
      obtain ⟨σ7, H7, I7, n7⟩ := q7
      exact again I7 n7
    | cont =>
      obtain ⟨σ7, H7, I7, n7⟩ := q7
      exact again I7 n7
    | brk =>
      obtain ⟨σ7, H7, I7, q8⟩ := q7
      exact ⟨σ7, H7, I7.unpinned, q8⟩
end
section
variable {X : Cx}
/-- z not in D, D a dict of the top, z a text -/
theorem op_notInKD {D : Addr} {kvs : List (Key × V)} (k : RB.KD X.prog X.w X.K D kvs) : OpR X (compareOp .NotIn) (fun x y H Q => ∃ z : Str, x = .str z ∧ y = .ref D ∧ Q (.bl (!(valV kvs (Sum.inr z)).isSome)) H) := by
  intro pins s σ H x y v u Q I rx ry h
  obtain ⟨z, rfl, rfl, q⟩ := h
  cases ry
  obtain ⟨vs, rel, dd⟩ := k.at_
  refine wpAny_notIn_of (kV_is (k := Sum.inr z) rx) k.low (dd _ I.kIn).mapOf ?_
  rw [← (rel.val (Sum.inr z)).isSome_eq]
  exact ⟨.bl _, H, I.tok _, rfl, q⟩
theorem op_inKD {D : Addr} {kvs : List (Key × V)} (k : RB.KD X.prog X.w X.K D kvs) : OpR X (compareOp .In) (fun x y H Q => ∃ z : Str, x = .str z ∧ y = .ref D ∧ Q (.bl (valV kvs (Sum.inr z)).isSome) H) := by
  intro pins s σ H x y v u Q I rx ry h
  obtain ⟨z, rfl, rfl, q⟩ := h
  cases ry
  obtain ⟨vs, rel, dd⟩ := k.at_
  refine wpAny_in_of (kV_is (k := Sum.inr z) rx) k.low (dd _ I.kIn).mapOf ?_
  rw [← (rel.val (Sum.inr z)).isSome_eq]
  exact ⟨.bl _, H, I.tok _, rfl, q⟩
/-- list(text) -/
theorem call_listS (hc : X.calm = true) : CallR X (.type "list") (fun xs H Q => ∃ z : Str, xs = [.str z] ∧ z.length ≤ 1000000 ∧ ∀ p, H p = none → Q (.ref p) (upd H p (.lst (z.cps.toList.map fun c => .str ⟨#[c]⟩)))) := by
  intro pins s σ H xs us Q I r q
  obtain ⟨z, ez, hz, q⟩ := q
  subst ez
  obtain ⟨u, eu, rx⟩ := vals1 r
  subst eu
  obtain ⟨t, et⟩ := rx
  subst et
  have z1 : z.cps.size ≤ sizeLine := by rw [sizeLine_eq]; exact Nat.le_trans hz (by decide)
  refine call_list_str (I.ok.hd hc) z t (fun h' tk acc c keep new items => ?_) z1
  have rel : Vals (z.cps.toList.map fun c => V.str ⟨#[c]⟩) acc.toList := by
    obtain ⟨hsz, hat⟩ := items
    refine vals_of_at (by rw [List.length_map, Array.length_toList, Array.length_toList]; exact hsz.symm) fun i v u hv hu => ?_
    rw [List.getElem?_map] at hv
    obtain ⟨c', hc', rfl⟩ := Option.map_eq_some_iff.mp hv
    obtain ⟨c2, u2, hc2, rfl⟩ := hat i u (by rw [← Array.getElem?_toList]; exact hu)
    rw [← Array.getElem?_toList, hc'] at hc2
    cases hc2
    exact ⟨u2, rfl⟩
  refine ⟨.ref s.heap.objs.size, _, I.laid (t' := tk) (o := .lst (z.cps.toList.map fun c => .str ⟨#[c]⟩)) keep (Nat.le_refl _) ?_, rfl, q _ (I.hok.fresh (Nat.le_refl _))⟩
  exact ⟨by rw [List.length_map, Array.length_toList]; exact z1, acc.toList, c, rel, by rw [Array.toArray_toList]; exact new⟩
/-- l[i], by values -/
theorem get_list : PGet X (rIxL X.K) := by
  intro pins s σ H o i ov iv Q I ro ri h
  obtain ⟨p, xs, n, z, rfl, rfl, hq, he, q⟩ := h
  cases ro
  obtain ⟨t, rfl⟩ := ri
  obtain ⟨its, r, pl, hz⟩ := I.list hq
  obtain ⟨j, h1, h2, h3, h4, h5⟩ := atI_get he
  obtain ⟨w, ew, rw'⟩ := r.get h2
  have hl := r.length
  have hn := line63
  by_cases h0 : 0 ≤ n
  · have hj : n.toNat = j := by
      rw [seqIndex_of h0 h5] at h1
      exact Option.some.inj h1
    exact wpAny_getItem_list pl.isList h0 (by omega) (by rw [hj]; simpa using ew) ⟨z, H, I, rw', q⟩
  · have hj : (n + (its.toArray.size : Int)).toNat = j := by
      rw [seqIndex_neg (by omega) h4] at h1
      rw [List.size_toArray, ← hl]
      exact Option.some.inj h1
    exact wpAny_getItem_list_neg pl.isList (by omega) (by rw [List.size_toArray] <;> omega) (by omega) (by rw [hj]; simpa using ew) ⟨z, H, I, rw', q⟩
end
section
variable {P : Program} {w : World} {K : PySem.W.Frag} {mg : Str → Option Value} {base : Heap} {x qual : Str} {f : Addr} {k : Nat} {N ps : List Str} {sp : Sp}
/-- a def with parameters and no cells: a token is out when its body begins -/
theorem call0T {st : Stmt} (F : Stands K x qual st [] f) (S : FnScope N ps (defScope st)) (hnc : ∀ y ∈ (defScope st).names, y.2 ≠ .cell) (hps : 1 ≤ ps.length) (len : ∀ vs H Q E, sp vs H Q E → vs.length = ps.length)
    (hbody : ∀ (cdv : Value) (A : Around) (outer : List Env) (s : Shared) (H : Hp) (vs : List V) (Q : VK) (E : XK), Room k (A.deeper (envOfC qual (defScope st) s.heap.objs.size f cdv)) → sp vs H Q E →
      ∃ t, PSsT (cxOf CX0 P w K mg base N qual (defScope st) f cdv A outer s H E) (defBody st) t ∧ t { nx := fun _ H' => Q .non H', rt := Q } (L2.start N vs) H)
    (h0 : ∀ (kV doc pm : Value) (an : Option Addr) (cdv ct : Value) (us : List Value), us.length = ps.length → bindArgs (PySem.W.fnOf x qual (defArgs st) (defBody st) (defScope st) .none kV doc pm an cdv ct) ⟨us, []⟩ = pure (ps.zip us)) :
    Callable P w K mg base (k + 1) f ps [] sp := by
  obtain ⟨fd, F⟩ := F
  have ok : FnOk P w K mg base CX0 (k + 1) f fd ps sp := by
    obtain ⟨oc, od, dV, kV, doc, pm, an, cdv, ct, osl, rfl, lk, hcd, _, _⟩ := F.ex
    exact fn_ofT lk hcd S hnc hps len fun A outer s H vs Q E hr hsp => hbody cdv A outer s H vs Q E hr hsp
  exact ⟨fd, [], ok, .nil, F.bindsN h0, F.kp⟩
end
end RT

set_option Elab.async false
set_option linter.all false
set_option maxRecDepth 100000
set_option maxHeartbeats 0

namespace K17
open PySem PySem.Spec PyProof.Rows L2 RC
section
variable {P : Program} {w : World} {K : PySem.W.Frag} {mg : Str → Option Value} {base : Heap}
/-! ### joined texts -/
def stepP (acc : List (Str ⊕ Str)) : PtT → List (Str ⊕ Str)
  | .inl c => match acc.getLast? with
    | some (.inl z) => acc.dropLast ++ [.inl (z ++ ⟨#[c]⟩)]
    | _ => acc ++ [.inl ⟨#[c]⟩]
  | .inr b => acc ++ [.inr (tx b)]
def joinP (ps : List PtT) : List (Str ⊕ Str) := ps.foldl stepP []
theorem snocCases {α : Type} : ∀ l : List α, l = [] ∨ ∃ L b, l = L ++ [b]
  | [] => .inl rfl
  | a :: r => match snocCases r with
    | .inl h => .inr ⟨[], a, by rw [h]; rfl⟩
    | .inr ⟨L, b, h⟩ => .inr ⟨a :: L, b, by rw [h]; rfl⟩
theorem PtsA.snoc {H : Hp} {ps : List (Str ⊕ Str)} {vs : List V} {p : Str ⊕ Str} {v : V} (h : PtsA K H ps vs) (a : PtA K H p v) : PtsA K H (ps ++ [p]) (vs ++ [v]) := by
  obtain ⟨h1, h2⟩ := h
  refine ⟨by rw [List.length_append, List.length_append, h1]; rfl, fun i x y hx hy => ?_⟩
  by_cases c : i < ps.length
  · rw [List.getElem?_append_left c] at hx
    rw [List.getElem?_append_left (by omega)] at hy
    exact h2 i x y hx hy
  · rw [List.getElem?_append_right (by omega)] at hx
    rw [List.getElem?_append_right (by omega), ← h1] at hy
    cases e : i - ps.length with
    | zero => rw [e] at hx hy; cases hx; cases hy; exact a
    | succ n => rw [e] at hx; cases hx
theorem PtsA.last {H : Hp} {L : List (Str ⊕ Str)} {ws : List V} {x : Str ⊕ Str} (h : PtsA K H (L ++ [x]) ws) : ∃ W v, ws = W ++ [v] ∧ PtsA K H L W ∧ PtA K H x v := by
  obtain ⟨h1, h2⟩ := h
  rcases snocCases ws with rfl | ⟨W, v, rfl⟩
  · rw [List.length_append] at h1; cases h1
  · rw [List.length_append, List.length_append] at h1
    have hl : L.length = W.length := Nat.succ.inj h1
    refine ⟨W, v, rfl, ⟨hl, fun i p u hp hu => ?_⟩, h2 L.length x v (by rw [List.getElem?_append_right (Nat.le_refl _), Nat.sub_self]; rfl) (by rw [List.getElem?_append_right (by omega), hl, Nat.sub_self]; rfl)⟩
    have l1 := (List.getElem?_eq_some_iff.mp hp).1
    exact h2 i p u (by rw [List.getElem?_append_left l1]; exact hp) (by rw [List.getElem?_append_left (by omega)]; exact hu)
theorem PtA.to {H H' : Hp} (h : ∀ (q dx : Addr) (fs : List (Str × V)), fs.length = 5 → H q = some (.ins (CFd K) dx fs) → H' q = some (.ins (CFd K) dx fs)) : ∀ {p : Str ⊕ Str} {v : V}, PtA K H p v → PtA K H' p v
  | _, _, .txt z => .txt z
  | _, _, .fld e => .fld (h _ _ _ rfl e)
theorem PtsA.to {H H' : Hp} (h : ∀ (q dx : Addr) (fs : List (Str × V)), fs.length = 5 → H q = some (.ins (CFd K) dx fs) → H' q = some (.ins (CFd K) dx fs)) {ps : List (Str ⊕ Str)} {vs : List V} (a : PtsA K H ps vs) : PtsA K H' ps vs := ⟨a.1, fun i p v hp hv => (a.2 i p v hp hv).to h⟩
theorem joinP_snoc (ps : List PtT) (x : PtT) : joinP (ps ++ [x]) = stepP (joinP ps) x := by unfold joinP; rw [List.foldl_append]; rfl
def Short (acc : List (Str ⊕ Str)) (n : Nat) : Prop := acc.length ≤ n ∧ ∀ z : Str, Sum.inl z ∈ acc → z.length ≤ n
def spJoined (K : PySem.W.Frag) : Sp := fun vs H Q _ => ∃ (p : Addr) (xs : List V) (ps : List PtT) (G : Hp), vs = [.ref p] ∧ H p = some (.lst xs) ∧ PtsV K G ps xs ∧ xs.length ≤ 1000 ∧ Same G H ∧
  ∀ (t : Addr) (ws : List V) (H' : Hp), Same H H' → H t = none → H' t = some (.tup ws) → PtsA K G (joinP ps) ws → Q (.ref t) H'
structure JInv (K : PySem.W.Frag) (H G : Hp) (p q : Addr) (ps : List PtT) (i : Nat) (σ : L2.St) (H' : Hp) : Prop where
  same : Same H H'
  ex : ∃ (ws : List V) (a : Option V), H' q = some (.lst ws) ∧ PtsA K G (joinP (ps.take i)) ws ∧ Short (joinP (ps.take i)) i ∧ σ = [some (.ref p), some (.ref q), a]
theorem ok_joined {f : Addr} (T : Txt P w K mg) (F : Stands K "joined_texts" "joined_texts" s_joined_texts [] f) : Callable P w K mg base 1 f ["parts"] [] (spJoined K) := by
  refine F.call0 sc_joined_texts (fun vs H Q E h => ?_) (fun cdv A outer s H vs Q E hr h => ?_) (fun _ _ _ _ _ _ us hl => match us, hl with | [_], _ => rfl)
  · obtain ⟨p, xs, ps, G, rfl, _⟩ := h; rfl
  obtain ⟨p, xs, ps, G, rfl, hp, hps, hxl, hG, hQ⟩ := h
  refine ⟨_, (pss_cons (ps_set (i := 1) sc_joined_texts.nd rfl (by first | exact Or.inl rfl | exact Or.inr rfl) (pe_lst pa_nil))
      (pss_cons (ps_for PassesOwn.never rfl (pi_list (pv 0)) (pg_name (i := 2) sc_joined_texts.nd rfl (by first | exact Or.inl rfl | exact Or.inr rfl)) (pss_one (ps_if (PW.pt (pw_and (pt_val (pe_callB call_isi (by rfl) T.b_isinstance (by decide +kernel) (pa_cons (pv 2) (pa_cons (pe_bltn (v := .ty "str") (u := .type "str") (by rfl) T.b_str (by decide +kernel) rfl) pa_nil)))) (pw_and (pt_cmpR (RY.op_neE (Nat.lt_of_succ_lt (hu_of hr))) (pv 1) (pe_lst pa_nil) (nomark _)) (pw_and1 (pt_val (pe_callB call_isi (by rfl) T.b_isinstance (by decide +kernel) (pa_cons (pe_ix ix_list (pv 1) (pe_un un_neg pe_int) (fun _ _ => rfl)) (pa_cons (pe_bltn (v := .ty "str") (u := .type "str") (by rfl) T.b_str (by decide +kernel) rfl) pa_nil)))))))) (pss_one (ps_augS (pv 1) (pe_un un_neg pe_int) RT.get_list (pv 2) iop_add_str set_list)) (pss_one (ps_expr (pe_bm PySem.F.plainAttrs_list PySem.F.slot_list_append PySem.F.type_list_append mt_append (pv 1) (pa_cons (pv 2) pa_nil)))))))
      (pss_one (ps_ret (pe_callTy call_tuple_of (by rfl) T.b_tuple (by decide +kernel) (pa_cons (pv 1) pa_nil)))))), ?_⟩
  walk_at "in"
  walk_at "go"
  intro q fq
  walk_at "go"
  refine for_it (walk_list (xs := xs)) (JInv K H G p q ps) ⟨same_new fq _, [], _, upd_same, ⟨rfl, fun _ _ _ h => nomatch h⟩, ⟨Nat.le_refl _, fun _ h => nomatch h⟩, rfl⟩ (fun i σ H' _ h => SqL.of (h.same _ _ hp)) (fun i v σ H0 H2 hi hP hx => ?_) (fun σ H2 hP => ?_)
  · obtain ⟨rfl, hx⟩ := hx
    obtain ⟨s2, ws, a, hq, hA, hS, rfl⟩ := hP
    obtain ⟨x, gx, hpx⟩ := hps.get hx
    have hil : i < xs.length := (List.getElem?_eq_some_iff.mp hx).1
    have hwl := hA.1
    have hS1 := hS.1
    have hwz : ws.length < sizeLine := by rw [sizeLine_eq]; omega
    have ej : joinP (ps.take (i + 1)) = stepP (joinP (ps.take i)) x := by rw [take_more gx, joinP_snoc]
    have ky := T.kiy_Field_str
    have next : ∀ (H4 : Hp) (acc' : List (Str ⊕ Str)) (ws' : List V) (a2 : Option V), Same H2 H4 → stepP (joinP (ps.take i)) x = acc' → PtsA K G acc' ws' → Short acc' (i + 1) → JInv K H G p q ps (i + 1) [some (.ref p), some (.ref q), a2] (upd H4 q (.lst ws')) := fun H4 acc' ws' a2 s4 e h2 h3 =>
      ⟨fun b u hb => (by rw [upd_ne (ne_of_none hb fq)]; exact s4 _ _ (s2 _ _ hb)), ws', a2, upd_same, by rw [ej, e]; exact h2, by rw [ej, e]; exact h3, rfl⟩
    generalize joinP (ps.take i) = acc at hA hS hwl hS1 next
    have hS2 := hS.2
    have bnd : ∀ {y : Str ⊕ Str}, (∀ z, y = .inl z → z.length ≤ i + 1) → Short (acc ++ [y]) (i + 1) := fun {y} hy => ⟨by rw [List.length_append]; show acc.length + 1 ≤ _; omega, fun z hz => by
      rcases List.mem_append.mp hz with h | h
      · exact Nat.le_succ_of_le (hS.2 z h)
      · exact hy z (List.mem_singleton.mp h).symm⟩
    cases x with
    | inl c =>
      obtain rfl : v = .str ⟨#[c]⟩ := hpx
      have hc1 : (⟨#[c]⟩ : Str).length = 1 := rfl
      rcases snocCases acc with rfl | ⟨L, y, rfl⟩
      · have e0 : ws = [] := List.length_eq_zero_iff.mp hwl.symm
        subst e0
        have t2 : (!([] : List V).isEmpty) = false := rfl
        walk_at "go"
        intro r fr
        have s4 := same_new fr (.lst [])
        have hq4 := s4 _ _ hq
        have hr4 : (upd H2 r (.lst [])) r = some (.lst []) := upd_same
        generalize upd H2 r (.lst []) = H4 at s4 hq4 hr4
        walk_at "go"
        exact next H4 _ _ _ s4 rfl (hA.snoc (.txt _)) (bnd fun z e => by cases e; rw [hc1]; omega)
      · obtain ⟨W, u, rfl, hW, hu⟩ := hA.last
        cases hu with
        | txt y =>
          have hy3 : y.length ≤ i := hS2 y (by simp)
          have t2 : (!(W ++ [V.str y]).isEmpty) = true := by simp
          have hat : atI (W ++ [V.str y]) (-1) = some (V.str y) := atI_last _ _
          have hix : ixN (W ++ [V.str y]).length (-1) = some W.length := by
            rw [List.length_append]; unfold ixN; simp; omega
          have hy2 : y.length + (⟨#[c]⟩ : Str).length ≤ sizeLine := by rw [sizeLine_eq, hc1]; omega
          walk_at "go"
          intro r fr
          have s4 := same_new fr (.lst [])
          have hq4 := s4 _ _ hq
          have hr4 : (upd H2 r (.lst [])) r = some (.lst []) := upd_same
          generalize upd H2 r (.lst []) = H4 at s4 hq4 hr4
          walk_at "go"
          have es : (W ++ [V.str y]).set W.length (V.str (y ++ ⟨#[c]⟩)) = W ++ [V.str (y ++ ⟨#[c]⟩)] := by simp [List.set_append]
          rw [es]
          refine next H4 (L ++ [.inl (y ++ ⟨#[c]⟩)]) _ _ s4 (by unfold stepP; simp) (hW.snoc (.txt _)) ⟨by rw [List.length_append] at hS1 ⊢; exact Nat.le_succ_of_le hS1, fun z hz => ?_⟩
          rcases List.mem_append.mp hz with h | h
          · exact Nat.le_succ_of_le (hS2 z (List.mem_append_left _ h))
          · cases List.mem_singleton.mp h
            rw [len_add, hc1]; omega
        | @fld q2 dx2 n2 hq2 =>
          have t2 : (!(W ++ [V.ref q2]).isEmpty) = true := by simp
          have hat : atI (W ++ [V.ref q2]) (-1) = some (V.ref q2) := atI_last _ _
          walk_at "go"
          intro r fr
          have s4 := same_new fr (.lst [])
          have hq4 := s4 _ _ hq
          have hr4 : (upd H2 r (.lst [])) r = some (.lst []) := upd_same
          have hq24 := s4 _ _ (s2 _ _ (hG _ _ hq2))
          generalize upd H2 r (.lst []) = H4 at s4 hq4 hr4 hq24
          have ty4 := RB.TyC.tyx T.ty_Field T.c_Field hq24
          walk_at "go"
          exact next H4 _ _ _ s4 (by unfold stepP; simp) (hA.snoc (.txt _)) (bnd fun z e => by cases e; rw [hc1]; omega)
    | inr n =>
      obtain ⟨q3, dx3, fs3, rfl, g3, l3, e3⟩ := hpx
      have g4 := s2 _ _ (hG _ _ g3)
      have ty4 := RB.TyC.tyx T.ty_Field T.c_Field g4
      walk_at "go"
      exact next H2 _ _ _ (Same.refl _) rfl (hA.snoc (.fld (by rw [← e3]; exact g3))) (bnd fun z e => nomatch e)
  · obtain ⟨s2, ws, a, hq, hA, hS, rfl⟩ := hP
    walk_at "go"
    refine .inl ⟨SqL.of hq, fun l fl => ?_⟩
    rw [List.take_of_length_le (by rw [hps.len]; exact Nat.le_refl _)] at hA
    exact hQ l ws _ (s2.trans (same_new fl _)) (s2.free fl) upd_same hA
end
end K17

set_option Elab.async false
set_option linter.all false
set_option maxRecDepth 100000
set_option maxHeartbeats 0

namespace K17
open PySem PySem.Spec PyProof.Rows L2 RC
section
variable {P : Program} {w : World} {K : PySem.W.Frag} {mg : Str → Option Value} {base : Heap}
/-! ### a formatter made -/
def tB : PtT → Bool
  | .inl _ => true
  | .inr _ => false
def spFmInit (K : PySem.W.Frag) : Sp := fun vs H Q _ => ∃ (p dx : Addr) (z : Str) (ps : List PtT), vs = [.ref p, .str z, .str "{", .bl true, .non] ∧ H p = some (.ins (CFm K) dx []) ∧ z.length ≤ 1000 ∧ PlB z.cps.toList ps ∧ ((ps.map tB).all id) = false ∧ (∀ H' : Hp, (∀ b u, b ≠ p → H b = some u → H' b = some u) → FmAt K (rst (fun b => H b ≠ none ∧ b ≠ p) H') p (joinP ps) → Q .non H')
theorem ok_fm_init {f : Addr} (T : Txt P w K mg) (F : Stands K "__init__" "Formatter.__init__" s_Formatter_init [.non, .str "{", .bl true, .non] f) (c_parts_of_braces : Callable P w K mg base 4 (He.ga K "parts_of_braces") ["fmt"] [] (spParts K)) (c_joined_texts : Callable P w K mg base 1 (He.ga K "joined_texts") ["parts"] [] (spJoined K)) : Callable P w K mg base 5 f ["self", "fmt", "style", "validate", "defaults"] [.str "{", .bl true, .non] (spFmInit K) := by
  refine F.call sc_Formatter_init 2 1 (fun vs H Q E h => ?_) (fun cdv A outer s H vs Q E hr h => ?_) (fun z => nomatch z) fun _ => ⟨rfl, fun _ _ _ _ _ _ _ us its hl hi => match us, hl, its, hi with | [_, _], _, [_, _, _, _], _ => ⟨_, rfl, rfl⟩⟩
  · obtain ⟨p, dx, z, ps, rfl, _⟩ := h; rfl
  obtain ⟨p, dx, z, ps, rfl, hp, hz, hP, hall, hQ⟩ := h
  refine ⟨_, (pss_cons (ps_if (PW.pt (pw_or (pt_not (pt_val (pe_callB call_isi (by rfl) T.b_isinstance (by decide +kernel) (pa_cons (pv 2) (pa_cons (pe_bltn (v := .ty "str") (u := .type "str") (by rfl) T.b_str (by decide +kernel) rfl) pa_nil))))) (pw_or1 (pt_cmpR (RT.op_notInKD T.t_MESSAGE_ALONE) (pv 2) (pe_glob (v := .ref _) (by rfl) T.g_MESSAGE_ALONE rfl) (by rfl))))) (pss_one ps_never) pss_nil)
      (pss_cons (ps_set (i := 5) sc_Formatter_init.nd rfl (by first | exact Or.inl rfl | exact Or.inr rfl) (pe_ifExp (pt_cmpR op_isN (pv 1) pe_non (nomark _)) pe_never (pv 1)))
      (pss_cons (ps_set (i := 6) sc_Formatter_init.nd rfl (by first | exact Or.inl rfl | exact Or.inr rfl) (pe_ifExp (pt_cmpR op_eq (pv 2) pe_str (nomark _)) (pe_fn T.g_parts_of_braces c_parts_of_braces (hr.mono (by first | decide | exact Nat.le_refl _)) (by rfl) (pa_cons (pv 5) pa_nil)) pe_never))
      (pss_cons (ps_if (PW.pt (pw_or (pt_cmpR op_isN (pv 6) pe_non (nomark _)) (pw_or1 (PW.pt (pw_and (pt_val (pv 3)) (pw_and1 (pt_val (pe_callB (cr_all rfl) (by rfl) T.b_all (by decide +kernel) (pa_cons (pe_lc (own := [("part", 7)]) (by rfl) sc_Formatter_init.nd (pi_list (pv 6)) (blkOk_by (own := [("part", 7)]) (N := nm_Formatter_init) (sc := defScope s_Formatter_init) (by decide +kernel)) (fun _ _ _ _ _ => (pg_name (i := 7) sc_Formatter_init.nd rfl (by first | exact Or.inl rfl | exact Or.inr rfl))) (fun _ _ _ _ _ => pts_nil) (fun _ _ _ _ _ => (pe_callB (callK (K := K) rIsi call_isi) (by rfl) T.b_isinstance (by decide +kernel) (pa_cons (pv 7) (pa_cons (pe_bltn (v := .ty "str") (u := .type "str") (by rfl) T.b_str (by decide +kernel) rfl) pa_nil))))) pa_nil))))))))) (pss_one ps_never) pss_nil)
      (pss_cons (ps_fld (pv 0) (pv 1) rfl)
      (pss_cons (ps_fld (pv 0) (pv 2) rfl)
      (pss_cons (ps_fld (pv 0) (pe_fn T.g_joined_texts c_joined_texts (hr.mono (by first | decide | exact Nat.le_refl _)) (by rfl) (pa_cons (pv 6) pa_nil)) rfl)
      (pss_one (ps_fld (pv 0) (pe_ifExp (pt_cmpR op_isN (pv 4) pe_non (nomark _)) pe_dnewK pe_never) rfl))))))))), ?_⟩
  walk_at "in"
  walk_at "go"
  intro vs q H' s1 fq hq hv hps
  have hp1 := s1 _ _ hp
  walk_at "go"
  intro D hD
  refine lc_it (walk_list (xs := vs)) (fun i H2 => Same H' H2 ∧ H2 D = some (.lst (((ps.take i).map tB).map V.bl))) ⟨same_new hD _, upd_same⟩ (fun i H2 _ h => SqL.of (h.1 _ _ hq)) (fun i x H3 H2 hi hP hy => ?_) (fun H2 h2 => ?_)
  · obtain ⟨rfl, hx⟩ := hy
    obtain ⟨g1, g2⟩ := hP
    obtain ⟨y, gy, hpy⟩ := hps.get hx
    have hN : Same (nw H H') H' := rst_same
    have ky := T.kiy_Field_str
    have hll : (((ps.take i).map tB).map V.bl).length < sizeLine := by
      have h1 : (ps.take i).length ≤ ps.length := by rw [List.length_take]; exact Nat.min_le_right _ _
      rw [List.length_map, List.length_map, sizeLine_eq]
      have := hps.len
      omega
    cases y with
    | inl c =>
      obtain rfl : x = .str ⟨#[c]⟩ := hpy
      walk_at "go"
      rw [upd_same, take_snoc gy, List.map_append, List.map_append]; rfl
    | inr n =>
      obtain ⟨q3, dx3, fs3, rfl, g3, l3, _⟩ := hpy
      have g4 := g1 _ _ (hN _ _ g3)
      have ty4 := RB.TyC.tyx T.ty_Field T.c_Field g4
      walk_at "go"
      rw [upd_same, take_snoc gy, List.map_append, List.map_append]; rfl
  · obtain ⟨g1, g2⟩ := h2
    rw [List.take_of_length_le (by rw [hps.len]; exact Nat.le_refl _)] at g2
    have hp4 := g1 _ _ hp1
    have hq4 := g1 _ _ hq
    walk_at "go"
    simp only [upd_upd]
    have hGx : ∀ o, Same (nw H H') (upd H2 p o) := fun o b u e => by
      have n1 : H b = none := nw_free e
      rw [upd_ne (fun z => by rw [z, hp] at n1; cases n1)]; exact g1 _ _ (rst_same _ _ e)
    refine ⟨hGx _, fun t ws H3 s3 ft ht hA => ?_⟩
    have hp3 := s3 _ _ upd_same
    walk_at "go"
    intro d fd
    walk_at "go"
    obtain ⟨fd1, fd2⟩ := upd_none fd
    obtain ⟨ft1, ft2⟩ := upd_none ft
    have ntd : t ≠ d := fun e => by rw [e, fd2] at ht; cases ht
    have up : ∀ b u, b ≠ p → H' b = some u → upd (upd (upd H3 p (.ins (CFm K) dx (putF "parts" (.ref t) (putF "style" (.str "{") (putF "fmt" (.str z) []))))) d (.dK [])) p (.ins (CFm K) dx (putF "defaults" (.ref d) (putF "parts" (.ref t) (putF "style" (.str "{") (putF "fmt" (.str z) []))))) b = some u := fun b u h1 h2 => by
      have h3 : H3 b = some u := s3 _ _ (by rw [upd_ne h1]; exact g1 _ _ h2)
      rw [upd_ne h1, upd_ne (ne_of_none h3 fd2), upd_ne h1]; exact h3
    have fr : ∀ b, H2 b = none → ¬ (H b ≠ none ∧ b ≠ p) := fun b h z => z.1 ((s1.trans g1).free h)
    have fd0 : H2 d = none := by
      have e := s3.free fd2
      rw [upd_ne fd1] at e; exact e
    refine hQ _ (fun b u h1 h2 => up b u h1 (s1 _ _ h2)) ⟨dx, t, d, z, ws, rst_at upd_same (fun z => z.2 rfl), rst_at ?_ (fr d fd0), rst_at ?_ (fr t ft2), hA.same fun b u e => ?_⟩
    · rw [upd_ne fd1]; exact upd_same
    · rw [upd_ne ft1, upd_ne ntd, upd_ne ft1]; exact ht
    · have n1 : H b = none := nw_free e
      exact rst_at (up b u (fun z => by rw [z, hp] at n1; cases n1) (rst_same _ _ e)) fun z => z.1 n1
end
end K17

set_option Elab.async false
set_option linter.all false
set_option maxRecDepth 100000
set_option maxHeartbeats 0
namespace K17
open PySem PySem.Spec PyProof.Rows L2 RC
section
variable {P : Program} {w : World} {K : PySem.W.Frag} {mg : Str → Option Value} {base : Heap}
/-! ### a yard is made -/
/-- H came from H0; ns: what is still being changed; L: what was laid since -/
structure Fr (H0 : Hp) (p : Addr) (ns : List Addr) (L : List (Addr × HO)) (H : Hp) : Prop where
  kp : ∀ b o, b ≠ p → H0 b = some o → H b = some o
  has : ∀ x ∈ L, x.1 ∉ ns ∧ H0 x.1 = none ∧ H x.1 = some x.2
  live : ∀ n ∈ ns, ∃ o, H n = some o
  old : ∀ n ∈ ns, n = p ∨ H0 n = none
  mem : p ∈ ns
  nd : (L.map (·.1)).Nodup
section
variable {H0 H H2 : Hp} {p : Addr} {ns : List Addr} {L : List (Addr × HO)}
theorem Fr.none (F : Fr H0 p ns L H) {q : Addr} (h : H q = none) : H0 q = none := by
  cases e : H0 q with
  | none => rfl
  | some o =>
    by_cases c : q = p
    · subst c; obtain ⟨o', e'⟩ := F.live _ F.mem; rw [e'] at h; cases h
    · rw [F.kp q o c e] at h; cases h
theorem Fr.notin (F : Fr H0 p ns L H) {q : Addr} (h : H q = Option.none) : q ∉ ns := fun z => by obtain ⟨o, e⟩ := F.live q z; rw [e] at h; cases h
theorem Fr.to (F : Fr H0 p ns L H) (k : ∀ b o, b ∉ ns → H b = some o → H2 b = some o) (l : ∀ n ∈ ns, ∃ o, H2 n = some o) : Fr H0 p ns L H2 where
  kp := fun b o hb e => k b o (fun z => by rcases F.old b z with c | c; exact hb c; rw [c] at e; cases e) (F.kp b o hb e)
  has := fun x hx => ⟨(F.has x hx).1, (F.has x hx).2.1, k _ _ (F.has x hx).1 (F.has x hx).2.2⟩
  live := l
  old := F.old
  mem := F.mem
  nd := F.nd
theorem Fr.nin (F : Fr H0 p ns L H) {q : Addr} (h : H q = Option.none) : q ∉ L.map (·.1) := fun z => by
  obtain ⟨x, hx, e⟩ := List.mem_map.mp z
  have := (F.has x hx).2.2
  rw [e, h] at this; cases this
theorem nin_cons {a b : Addr} {o : HO} {L : List (Addr × HO)} (h : a ≠ b) (k : a ∉ L.map (·.1)) : a ∉ ((b, o) :: L).map (·.1) := fun z => by
  rcases List.mem_cons.mp z with z | z
  · exact h z
  · exact k z
theorem Fr.cons (F : Fr H0 p ns L H) {q : Addr} {o : HO} (h1 : q ∉ ns) (h2 : H0 q = Option.none) (h3 : H q = some o) (h4 : q ∉ L.map (·.1)) : Fr H0 p ns ((q, o) :: L) H where
  kp := F.kp
  has := fun x hx => by
    rcases List.mem_cons.mp hx with c | c
    · subst c; exact ⟨h1, h2, h3⟩
    · exact F.has x c
  live := F.live
  old := F.old
  mem := F.mem
  nd := List.nodup_cons.mpr ⟨h4, F.nd⟩
theorem Fr.set (F : Fr H0 p ns L H) {o : HO} {q : Addr} (hq : q ∈ ns) (e : upd H q o = H2) : Fr H0 p ns L H2 := by
  subst e
  refine F.to (fun b u h1 h2 => ?_) (fun n hn => ?_)
  · rw [upd_ne (fun z => h1 (by rw [z]; exact hq))]; exact h2
  · by_cases c : n = q
    · subst c; exact ⟨_, upd_same⟩
    · rw [upd_ne c]; exact F.live n hn
theorem Fr.new (F : Fr H0 p ns L H) {o : HO} {q : Addr} (hq : H q = Option.none) (e : upd H q o = H2) : Fr H0 p ns ((q, o) :: L) H2 := by
  subst e
  refine (F.to (H2 := upd H q o) (fun b u h1 h2 => same_new hq _ _ _ h2) (fun n hn => ?_)).cons (F.notin hq) (F.none hq) upd_same (F.nin hq)
  obtain ⟨u, hu⟩ := F.live n hn
  exact ⟨u, same_new hq _ _ _ hu⟩
/-- one more is being changed -/
theorem Fr.own (F : Fr H0 p ns L H) {o : HO} {q : Addr} (hq : H q = Option.none) (e : upd H q o = H2) : Fr H0 p (q :: ns) L H2 := by
  have G := F.new hq e
  subst e
  refine ⟨G.kp, fun x hx => ?_, fun n hn => ?_, fun n hn => ?_, List.mem_cons_of_mem _ F.mem, F.nd⟩
  · have g := F.has x hx
    refine ⟨fun z => ?_, g.2.1, (G.has x (List.mem_cons_of_mem _ hx)).2.2⟩
    rcases List.mem_cons.mp z with c | c
    · rw [c, hq] at g; cases g.2.2
    · exact g.1 c
  · rcases List.mem_cons.mp hn with c | c
    · subst c; exact ⟨_, upd_same⟩
    · exact G.live n c
  · rcases List.mem_cons.mp hn with c | c
    · subst c; exact .inr (F.none hq)
    · exact F.old n c
theorem Fr.get (F : Fr H0 p ns L H) {x : Addr × HO} (h : x ∈ L) : H x.1 = some x.2 := (F.has x h).2.2
theorem Fr.putf (F : Fr H0 p ns L H) {o o' : HO} {q : Addr} (hq : H q = Option.none) (e : upd (upd H q o) p o' = H2) : Fr H0 p ns ((q, o) :: L) H2 := (F.new hq rfl).set F.mem e
theorem Fr.ownf (F : Fr H0 p ns L H) {o o' : HO} {q : Addr} (hq : H q = Option.none) (e : upd (upd H q o) p o' = H2) : Fr H0 p (q :: ns) L H2 ∧ H2 q = some o := by
  have G := F.own hq (o := o) rfl
  refine ⟨G.set (List.mem_cons_of_mem _ F.mem) e, ?_⟩
  have n : q ≠ p := fun z => F.notin hq (by rw [z]; exact F.mem)
  rw [← e, upd_ne n]; exact upd_same
theorem Fr.same (F : Fr H0 p ns L H) (s : Same H H2) : Fr H0 p ns L H2 := F.to (fun b o _ e => s b o e) (fun n hn => let ⟨o, e⟩ := F.live n hn; ⟨o, s _ _ e⟩)
theorem Fr.start {o : HO} (h : H0 p = some o) : Fr H0 p [p] [] H0 where
  kp := fun _ _ _ e => e
  has := fun _ h => nomatch h
  live := fun n hn => by cases List.mem_singleton.mp hn; exact ⟨o, h⟩
  old := fun n hn => .inl (List.mem_singleton.mp hn)
  mem := List.mem_singleton.mpr rfl
  nd := List.nodup_nil
end
def yF (clk : Int) (st fi na nu lm md hn fr rt lr : Addr) : List (Str × V) := [("clock", .int clk), ("stream_texts", .ref st), ("file_rows", .ref fi), ("names_of", .ref na), ("numbers_of", .ref nu), ("bar_level", .int 0), ("logger_map", .ref lm), ("made", .ref md), ("handler_names", .ref hn), ("failure_rows", .ref fr), ("root", .ref rt), ("last_resort", .ref lr)]
/-- where the parts of a yard lie -/
structure YParts where
  (st fi na nu lm md hn fr rt lr rl rh ll : Addr)
def YParts.L (K : PySem.W.Frag) (y : Addr) (q : YParts) (rd ld : Addr) : List (Addr × HO) := [(q.ll, .lst []), (q.lr, .ins (He.ga K "StreamHandler") ld (hF q.ll y ++ ([("stream", .str "stderr")] : List (Str × V)))), (q.rh, .lst []), (q.rl, .lst []), (q.rt, .ins (CL K) rd (lF q.rl y "root" 30 q.rh .non)), (q.fr, .lst []), (q.hn, .dK []), (q.lm, .dK []), (q.nu, .dK (kv_FIRST_NUMBERS.map fun q => (q.1, q.2.v K))), (q.na, .dK (kv_FIRST_NAMES.map fun q => (q.1, q.2.v K))), (q.fi, .dK []), (q.st, .dK [])]
structure YNew (K : PySem.W.Frag) (H0 H : Hp) (y dy : Addr) (clk : Int) (q : YParts) : Prop where
  fr : ∃ rd ld, Fr H0 y [q.md, y] (q.L K y rd ld) H
  y : H y = some (.ins (CY K) dy (yF clk q.st q.fi q.na q.nu q.lm q.md q.hn q.fr q.rt q.lr))
  md : H q.md = some (.lst [])
def spYardInit (K : PySem.W.Frag) : Sp := fun vs H Q _ => ∃ (p dx : Addr) (clk : Int), vs = [.ref p, .int clk] ∧ H p = some (.ins (CY K) dx []) ∧ ∀ (H' : Hp) (q : YParts), YNew K H H' p dx clk q → Q .non H'
theorem body_yard_init {f : Addr} {cdv : Value} {A : Around} {outer : List Env} {s : Shared} {H : Hp} {vs : List V} {Q : VK} {E : XK} (T : Txt P w K mg) (hr : Room 4 (A.deeper (envOfC "Yard.__init__" (defScope s_Yard_init) s.heap.objs.size f cdv))) (h : spYardInit K vs H Q E)
    (c_Logger_init : Callable P w K mg base 2 (He.ma K (He.ga K "Logger") "__init__") ["self", "yard", "name", "level"] [] (spLoggerInit K))
    (c_StreamHandler_init_d1 : Callable P w K mg base 3 (He.ma K (He.ga K "StreamHandler") "__init__") ["self", "yard", "stream"] [.str "stderr"] (spStreamInit K)) :
    ∃ t, PSs (cxOf CX0 P w K mg base nm_Yard_init "Yard.__init__" (defScope s_Yard_init) f cdv A outer s H E).nox (defBody s_Yard_init) t ∧ t { nx := fun _ H' => Q .non H', rt := Q } (L2.start nm_Yard_init vs) H := by
  obtain ⟨p, dx, clk, rfl, hp, hQ⟩ := h
  refine ⟨_, (pss_cons (ps_fld (pv 0) (pv 1) rfl)
      (pss_cons (ps_fld (pv 0) pe_dnewK rfl)
      (pss_cons (ps_fld (pv 0) pe_dnewK rfl)
      (pss_cons (ps_fld (pv 0) (pe_callTy (RB.call_dictK T.t_FIRST_NAMES) (by rfl) T.b_dict (by decide +kernel) (pa_cons (pe_glob (v := .ref _) (by rfl) T.g_FIRST_NAMES rfl) pa_nil)) rfl)
      (pss_cons (ps_fld (pv 0) (pe_callTy (RB.call_dictK T.t_FIRST_NUMBERS) (by rfl) T.b_dict (by decide +kernel) (pa_cons (pe_glob (v := .ref _) (by rfl) T.g_FIRST_NUMBERS rfl) pa_nil)) rfl)
      (pss_cons (ps_fld (pv 0) pe_int rfl)
      (pss_cons (ps_fld (pv 0) pe_dnewK rfl)
      (pss_cons (ps_fld (pv 0) (pe_lst pa_nil) rfl)
      (pss_cons (ps_fld (pv 0) pe_dnewK rfl)
      (pss_cons (ps_fld (pv 0) (pe_lst pa_nil) rfl)
      (pss_cons (ps_fld (pv 0) (pe_mk T.k_Logger T.g_Logger c_Logger_init (hr.mono (by first | decide | exact Nat.le_refl _)) (by rfl) (pa_cons (pv 0) (pa_cons pe_str (pa_cons (pe_gi (by rfl) T.g_WARNING) pa_nil)))) rfl)
      (pss_cons (ps_fld (pv 0) (pe_mk T.k_StreamHandler T.g_StreamHandler c_StreamHandler_init_d1 (hr.mono (by first | decide | exact Nat.le_refl _)) (by rfl) (pa_cons (pv 0) pa_nil)) rfl)
      (pss_one (ps_expr (pe_bm0 PySem.F.plainAttrs_list PySem.F.slot_list_pop PySem.F.type_list_pop mt_pop (pe_fld (pv 0) rfl)))))))))))))))), ?_⟩
  have F0 := Fr.start hp
  refine ⟨_, rfl, _, rfl, p, _, dx, _, rfl, hp, T.c_Yard, T.n_Yard_clock, (by show 0 < 1000; decide), ?_⟩
  generalize e1 : upd H p _ = H1
  have F1 := F0.set List.mem_cons_self e1
  have p1 := congrFun e1.symm p; rw [upd_same] at p1
  clear e1
  intro st h_st
  refine ⟨_, rfl, p, _, dx, _, rfl, same_new h_st _ _ _ p1, T.c_Yard, T.n_Yard_stream_texts, (by show 1 < 1000; decide), ?_⟩
  generalize e : upd (upd H1 st _) p _ = H2
  have F2 := F1.putf h_st e
  have p2 := congrFun e.symm p; rw [upd_same] at p2
  clear e
  intro fi h_fi
  refine ⟨_, rfl, p, _, dx, _, rfl, same_new h_fi _ _ _ p2, T.c_Yard, T.n_Yard_file_rows, (by show 2 < 1000; decide), ?_⟩
  generalize e : upd (upd H2 fi _) p _ = H3
  have F3 := F2.putf h_fi e
  have p3 := congrFun e.symm p; rw [upd_same] at p3
  clear e
  refine ⟨rfl, fun na h_na => ?_⟩
  refine ⟨_, rfl, p, _, dx, _, rfl, same_new h_na _ _ _ p3, T.c_Yard, T.n_Yard_names_of, (by show 3 < 1000; decide), ?_⟩
  generalize e : upd (upd H3 na _) p _ = H4
  have F4 := F3.putf h_na e
  have p4 := congrFun e.symm p; rw [upd_same] at p4
  clear e
  refine ⟨rfl, fun nu h_nu => ?_⟩
  refine ⟨_, rfl, p, _, dx, _, rfl, same_new h_nu _ _ _ p4, T.c_Yard, T.n_Yard_numbers_of, (by show 4 < 1000; decide), ?_⟩
  generalize e : upd (upd H4 nu _) p _ = H5
  have F5 := F4.putf h_nu e
  have p5 := congrFun e.symm p; rw [upd_same] at p5
  clear e
  refine ⟨_, rfl, p, _, dx, _, rfl, p5, T.c_Yard, T.n_Yard_bar_level, (by show 5 < 1000; decide), ?_⟩
  generalize e : upd H5 p _ = H6
  have F6 := F5.set F5.mem e
  have p6 := congrFun e.symm p; rw [upd_same] at p6
  clear e
  intro lm h_lm
  refine ⟨_, rfl, p, _, dx, _, rfl, same_new h_lm _ _ _ p6, T.c_Yard, T.n_Yard_logger_map, (by show 6 < 1000; decide), ?_⟩
  generalize e : upd (upd H6 lm _) p _ = H7
  have F7 := F6.putf h_lm e
  have p7 := congrFun e.symm p; rw [upd_same] at p7
  clear e
  refine ⟨(by show 0 ≤ sizeLine; decide), fun md h_md => ?_⟩
  refine ⟨_, rfl, p, _, dx, _, rfl, same_new h_md _ _ _ p7, T.c_Yard, T.n_Yard_made, (by show 7 < 1000; decide), ?_⟩
  generalize e : upd (upd H7 md _) p _ = H8
  obtain ⟨F8, m8⟩ := F7.ownf h_md e
  have p8 := congrFun e.symm p; rw [upd_same] at p8
  have nmp : md ≠ p := fun z => F7.notin h_md (by rw [z]; exact F7.mem)
  clear e
  intro hn h_hn
  refine ⟨_, rfl, p, _, dx, _, rfl, same_new h_hn _ _ _ p8, T.c_Yard, T.n_Yard_handler_names, (by show 8 < 1000; decide), ?_⟩
  generalize e : upd (upd H8 hn _) p _ = H9
  have F9 := F8.putf h_hn e
  have p9 := congrFun e.symm p; rw [upd_same] at p9
  have m9 : H9 md = some (.lst []) := by rw [← e, upd_ne nmp]; exact same_new h_hn _ _ _ m8
  clear e
  refine ⟨(by show 0 ≤ sizeLine; decide), fun fr h_fr => ?_⟩
  refine ⟨_, rfl, p, _, dx, _, rfl, same_new h_fr _ _ _ p9, T.c_Yard, T.n_Yard_failure_rows, (by show 9 < 1000; decide), ?_⟩
  generalize e : upd (upd H9 fr _) p _ = H10
  have F10 := F9.putf h_fr e
  have p10 := congrFun e.symm p; rw [upd_same] at p10
  have m10 : H10 md = some (.lst []) := by rw [← e, upd_ne nmp]; exact same_new h_fr _ _ _ m9
  clear e
  -- root
  refine ⟨_, rfl, fun rt rd h_rt h_rd hne => ?_⟩
  refine ⟨rt, rd, p, "root", 30, rfl, upd_same, fun Hr rl rh k1 k2 k3 k4 k5 k6 k7 => ⟨rfl, ?_⟩⟩
  have sr : Same H10 Hr := made_same h_rt h_rd k1
  obtain ⟨k2a, k2⟩ := upd_none k2
  obtain ⟨k3a, k3⟩ := upd_none k3
  have k2 := (upd_none k2).2
  have k3 := (upd_none k3).2
  have j1 : rl ≠ rt := fun z => by rw [z, k5] at k6; cases k6
  have j2 : rh ≠ rt := fun z => by rw [z, k5] at k7; cases k7
  have Fr1 := (((F10.same sr).cons (F10.notin h_rt) (F10.none h_rt) k5 (F10.nin h_rt)).cons (F10.notin k2) (F10.none k2) k6 (nin_cons j1 (F10.nin k2))).cons (F10.notin k3) (F10.none k3) k7 (nin_cons (Ne.symm k4) (nin_cons j2 (F10.nin k3)))
  have pr := sr _ _ p10
  have mr := sr _ _ m10
  refine ⟨_, rfl, p, _, dx, _, rfl, pr, T.c_Yard, T.n_Yard_root, (by show 10 < 1000; decide), ?_⟩
  generalize e : upd Hr p _ = H11
  have F11 := Fr1.set Fr1.mem e
  have p11 := congrFun e.symm p; rw [upd_same] at p11
  have m11 : H11 md = some (.lst []) := by rw [← e, upd_ne nmp]; exact mr
  clear e
  -- last_resort
  refine ⟨_, rfl, fun lr ld h_lr h_ld hne2 => ?_⟩
  have npl : lr ≠ p := fun z => by rw [z, p11] at h_lr; cases h_lr
  have nml : lr ≠ md := fun z => by rw [z, m11] at h_lr; cases h_lr
  have t1 : ∀ C fs, Same H11 (upd (upd H11 ld (.own lr)) lr (.ins C ld fs)) := fun C fs => made_same h_lr h_ld (fun _ _ _ e => e)
  refine ⟨lr, ld, p, dx, md, "stderr", _, [], rfl, upd_same, npl, t1 _ _ _ _ p11, rfl, rfl, t1 _ _ _ _ m11, (by decide), fun Hl ll l1 l2 l3 l4 l5 => ⟨rfl, ?_⟩⟩
  have l2b : H11 ll = none := (upd_none (upd_none l2).2).2
  have f12 : ∀ b o, b ∉ [md, p] → H11 b = some o → Hl b = some o := fun b o hb e => l1 b o (ne_of_none e h_lr) (fun z => hb (by rw [z]; exact List.mem_cons_self)) (t1 _ _ _ _ e)
  have p12 := l1 p _ (Ne.symm npl) (Ne.symm nmp) (t1 _ _ _ _ p11)
  have F12 := ((F11.to f12 (fun n hn => by
    rcases List.mem_cons.mp hn with c | c
    · subst c; exact ⟨_, l5⟩
    · cases List.mem_singleton.mp c; exact ⟨_, p12⟩)).cons (F11.notin h_lr) (F11.none h_lr) l3 (F11.nin h_lr)).cons (F11.notin l2b) (F11.none l2b) l4 (nin_cons (fun z => (by rw [z, l3] at l4; cases l4)) (F11.nin l2b))
  refine ⟨_, rfl, p, _, dx, _, rfl, p12, T.c_Yard, T.n_Yard_last_resort, (by show 11 < 1000; decide), ?_⟩
  generalize e : upd Hl p _ = H13
  have F13 := F12.set F12.mem e
  have p13 := congrFun e.symm p; rw [upd_same] at p13
  have m13 : H13 md = some (.lst [.ref lr]) := by rw [← e, upd_ne nmp]; exact l5
  clear e
  refine ⟨_, rfl, p, _, dx, _, _, rfl, p13, T.c_Yard, T.n_Yard_made, rfl, .inl ⟨rfl, _, SqL.of m13⟩, md, _, _, rfl, rfl, m13, rfl, ?_⟩
  have F14 := F13.set (o := .lst []) List.mem_cons_self rfl
  refine hQ _ ⟨st, fi, na, nu, lm, md, hn, fr, rt, lr, rl, rh, ll⟩ ⟨⟨rd, ld, F14⟩, ?_, upd_same⟩
  rw [upd_ne (Ne.symm nmp)]; exact p13
theorem len_yard_init : ∀ vs H Q E, spYardInit K vs H Q E → vs.length = 2 := fun vs H Q E h => by
  obtain ⟨p, dx, clk, rfl, _⟩ := h; rfl
theorem ok_yard_init {f : Addr} (T : Txt P w K mg) (F : Stands K "__init__" "Yard.__init__" s_Yard_init [.int 0] f)
    (c_Logger_init : Callable P w K mg base 2 (He.ma K (He.ga K "Logger") "__init__") ["self", "yard", "name", "level"] [] (spLoggerInit K))
    (c_StreamHandler_init_d1 : Callable P w K mg base 3 (He.ma K (He.ga K "StreamHandler") "__init__") ["self", "yard", "stream"] [.str "stderr"] (spStreamInit K)) : Callable P w K mg base 5 f ["self", "now"] [.int 0] (spYardInit K) :=
  F.call sc_Yard_init 1 0 len_yard_init (fun cdv A outer s H vs Q E hr h => body_yard_init T hr h c_Logger_init c_StreamHandler_init_d1) (fun z => nomatch z) fun _ => ⟨rfl, fun _ _ _ _ _ _ _ us its hl hi => match us, hl, its, hi with | [_], _, [_], _ => ⟨_, rfl, rfl⟩⟩
end
end K17

set_option Elab.async false
set_option linter.all false
set_option maxRecDepth 100000
set_option maxHeartbeats 0
namespace K17
open PySem PySem.Spec PyProof.Rows L2 RC
section
variable {P : Program} {w : World} {K : PySem.W.Frag} {mg : Str → Option Value} {base : Heap}
/-! ### texts by names -/
abbrev CS (K : PySem.W.Frag) : Addr := He.ga K "StreamHandler"
abbrev CM (K : PySem.W.Frag) : Addr := He.ga K "MemoryHandler"
def strK (ts : List (Str × Str)) : List (Key × V) := ts.map fun e => ((Sum.inr e.1 : Key), V.str e.2)
def txt (ts : List (Str × Str)) (s : Str) : Str := (ts.lookup s).getD ""
def putS (ts : List (Str × Str)) (s t : Str) : List (Str × Str) := if ts.any (fun e => decide (e.1 = s)) = true then ts.map (fun e => if e.1 = s then (e.1, t) else e) else ts ++ [(s, t)]
theorem valV_strK (s : Str) : ∀ ts : List (Str × Str), valV (strK ts) (Sum.inr s) = (ts.lookup s).map V.str
  | [] => rfl
  | e :: es => by
    by_cases h : e.1 = s
    · have h1 : valV (strK (e :: es)) (Sum.inr s) = some (V.str e.2) := valV_pos (p := ((Sum.inr e.1 : Key), V.str e.2)) (r := strK es) (congrArg Sum.inr h)
      rw [h1, List.lookup_cons, beq_iff_eq.mpr h.symm]; rfl
    · have h1 : valV (strK (e :: es)) (Sum.inr s) = valV (strK es) (Sum.inr s) := by
        show valV (((Sum.inr e.1 : Key), V.str e.2) :: strK es) (Sum.inr s) = _
        unfold valV
        rw [List.find?_cons, show decide ((Sum.inr e.1 : Key) = Sum.inr s) = false from decide_eq_false fun z => h (Sum.inr.inj z)]
      rw [h1, List.lookup_cons, show (s == e.1) = false from by simpa using fun z : s = e.1 => h z.symm, valV_strK s es]
theorem putK_strK (ts : List (Str × Str)) (s t : Str) : putK (strK ts) (Sum.inr s) (.str t) = strK (putS ts s t) := by
  unfold putK putS
  have e : (strK ts).any (fun p => decide (p.1 = (Sum.inr s : Key))) = ts.any (fun e => decide (e.1 = s)) := by
    unfold strK
    rw [List.any_map]
    congr 1
    funext e
    exact decide_eq_decide.mpr ⟨fun z => Sum.inr.inj z, fun z => congrArg Sum.inr z⟩
  rw [e]
  split
  · unfold strK
    rw [List.map_map, List.map_map]
    refine List.map_congr_left fun e _ => ?_
    show (if (Sum.inr e.1 : Key) = Sum.inr s then _ else _) = _
    by_cases c : e.1 = s
    · rw [if_pos (congrArg Sum.inr c)]
      show _ = ((Sum.inr (if e.1 = s then (e.1, t) else e).1 : Key), V.str (if e.1 = s then (e.1, t) else e).2)
      rw [if_pos c]
    · rw [if_neg (fun z => c (Sum.inr.inj z))]
      show _ = ((Sum.inr (if e.1 = s then (e.1, t) else e).1 : Key), V.str (if e.1 = s then (e.1, t) else e).2)
      rw [if_neg c]
  · unfold strK; rw [List.map_append]; rfl
theorem putS_length (ts : List (Str × Str)) (s t : Str) : (putS ts s t).length ≤ ts.length + 1 := by
  unfold putS
  split
  · rw [List.length_map]; omega
  · rw [List.length_append]; exact Nat.le_refl _
/-- no text is longer than n, nor are there more of them -/
def Cap (ts : List (Str × Str)) (n : Nat) : Prop := ts.length ≤ n ∧ ∀ e ∈ ts, e.2.length ≤ n
theorem txt_cap {ts : List (Str × Str)} {n : Nat} (c : Cap ts n) (s : Str) : (txt ts s).length ≤ n := by
  unfold txt
  cases e : ts.lookup s with
  | none => exact Nat.zero_le _
  | some t =>
    have hm : ∃ k, (k, t) ∈ ts := by
      clear c
      induction ts with
      | nil => cases e
      | cons a r ih =>
        rw [List.lookup_cons] at e
        split at e
        · cases e; exact ⟨a.1, List.mem_cons_self⟩
        · obtain ⟨k, hk⟩ := ih e; exact ⟨k, List.mem_cons_of_mem _ hk⟩
    obtain ⟨k, hk⟩ := hm
    exact c.2 _ hk
theorem len_app (x y : Str) : (x ++ y).length = x.length + y.length := by
  rw [TL.len_tl, TL.tl_append, List.length_append, ← TL.len_tl, ← TL.len_tl]
theorem app_assoc (x y z : Str) : x ++ y ++ z = x ++ (y ++ z) := by
  refine TL.ext_tl ?_
  rw [TL.tl_append, TL.tl_append, TL.tl_append, TL.tl_append, List.append_assoc]
theorem putS_cap {ts : List (Str × Str)} {n k : Nat} (c : Cap ts n) (s : Str) {t : Str} (ht : t.length ≤ n + k) (hk : 1 ≤ k) : Cap (putS ts s t) (n + k) := by
  refine ⟨Nat.le_trans (putS_length _ _ _) (by have := c.1; omega), fun e he => ?_⟩
  unfold putS at he
  split at he
  · obtain ⟨e', h1, rfl⟩ := List.mem_map.mp he
    split
    · exact ht
    · exact Nat.le_trans (c.2 _ h1) (by omega)
  · rcases List.mem_append.mp he with h | h
    · exact Nat.le_trans (c.2 _ h) (by omega)
    · cases List.mem_singleton.mp h; exact ht
theorem lkc (x : Str) (e : Str × Str) (r : List (Str × Str)) : (e :: r).lookup x = if x = e.1 then some e.2 else r.lookup x := by
  rw [List.lookup_cons]
  by_cases d : x = e.1
  · rw [show (x == e.1) = true from beq_iff_eq.mpr d, if_pos d]
  · rw [show (x == e.1) = false from beq_eq_false_iff_ne.mpr d, if_neg d]
theorem lk_map (k t x : Str) : ∀ ts : List (Str × Str), (ts.map fun e => if e.1 = k then (e.1, t) else e).lookup x = if x = k then (ts.lookup x).map (fun _ => t) else ts.lookup x
  | [] => by split <;> rfl
  | e :: r => by
    have ih := lk_map k t x r
    rw [List.map_cons, lkc, lkc, ih]
    by_cases c : e.1 = k
    · rw [if_pos c]
      by_cases d : x = k
      · have d2 : x = e.1 := d.trans c.symm
        rw [if_pos d2, if_pos d, if_pos d2]; rfl
      · have d2 : ¬ x = e.1 := fun z => d (z.trans c)
        rw [if_neg d2, if_neg d, if_neg d, if_neg d2]
    · rw [if_neg c]
      by_cases d : x = k
      · have d2 : ¬ x = e.1 := fun z => c (z.symm.trans d)
        rw [if_neg d2, if_pos d, if_pos d, if_neg d2]
      · rw [if_neg d, if_neg d]
theorem lk_any (k : Str) : ∀ ts : List (Str × Str), ts.any (fun e => decide (e.1 = k)) = (ts.lookup k).isSome
  | [] => rfl
  | e :: r => by
    rw [List.any_cons, lkc, lk_any k r]
    by_cases c : e.1 = k
    · rw [decide_eq_true c, if_pos c.symm]; rfl
    · rw [decide_eq_false c, if_neg (fun z => c z.symm)]; rfl
theorem lk_app (x : Str) (b : Str × Str) : ∀ ts : List (Str × Str), (ts ++ [b]).lookup x = (ts.lookup x).or (if x = b.1 then some b.2 else none)
  | [] => by
    rw [List.nil_append, lkc]; rfl
  | e :: r => by
    rw [List.cons_append, lkc, lkc, lk_app x b r]
    by_cases d : x = e.1
    · rw [if_pos d, if_pos d]; rfl
    · rw [if_neg d, if_neg d]
theorem lookup_putS (ts : List (Str × Str)) (k t x : Str) : (putS ts k t).lookup x = if x = k then some t else ts.lookup x := by
  unfold putS
  rw [lk_any]
  cases e : ts.lookup k with
  | some u =>
    rw [if_pos (show (some u).isSome = true from rfl), lk_map]
    by_cases d : x = k
    · rw [if_pos d, if_pos d, d, e]; rfl
    · rw [if_neg d, if_neg d]
  | none =>
    rw [if_neg (show ¬ (none : Option Str).isSome = true by decide), lk_app]
    by_cases d : x = k
    · rw [if_pos d, if_pos d, d, e]; rfl
    · rw [if_neg d, if_neg d]; cases ts.lookup x <;> rfl
def liveS (ts : List (Str × Str)) : List Str := (ts.filter fun e => !decide (e.2 = ("" : Str))).map (·.1)
theorem lookup_ts : ∀ {ts : List (Str × Str)} {e : Str × Str}, e ∈ ts → (ts.map (·.1)).Nodup → ts.lookup e.1 = some e.2
  | [], _, h, _ => nomatch h
  | a :: es, e, h, nd => by
    rw [List.lookup_cons]
    rcases List.mem_cons.mp h with rfl | h
    · rw [beq_self_eq_true]
    · rw [List.map_cons, List.nodup_cons] at nd
      have hne : e.1 ≠ a.1 := fun z => nd.1 (by rw [← z]; exact List.mem_map_of_mem h)
      rw [show (e.1 == a.1) = false from by simpa using hne, lookup_ts h nd.2]
end
end K17

set_option Elab.async false
set_option linter.all false
set_option maxRecDepth 100000
set_option maxHeartbeats 0
namespace K17
open PySem PySem.Spec PyProof.Rows L2 RC
section
variable {P : Program} {w : World} {K : PySem.W.Frag} {mg : Str → Option Value} {base : Heap}
/-- what has filters: an object at p of the class C, its filters' list at l -/
structure HasF (K : PySem.W.Frag) (H : Hp) (p C dx l : Addr) (fs : List (Str × V)) (as : List Addr) : Prop where
  ob : H p = some (.ins C dx fs)
  cl : Cls K C
  no : NoAttr K C "filters"
  lk : fs.lookup ("filters" : Str) = some (.ref l)
  ls : H l = some (.lst (as.map V.ref))
  ln : as.length ≤ 100
  fl : fs.length < 100
/-- Filters of the names ns let by records of the name rn -/
def lets (ns : List Str) (rn : Str) : Bool := ns.all fun n => passB rn n
def spFiltered (K : PySem.W.Frag) : Sp := fun vs H Q _ => ∃ (p C dx l r : Addr) (fs : List (Str × V)) (as : List Addr) (ns : List Str) (rn : Str), vs = [.ref p, .ref r] ∧ HasF K H p C dx l fs as ∧ as.length = ns.length ∧ (∀ (k : Nat) (a : Addr), as[k]? = some a → ∃ n, ns[k]? = some n ∧ FilterAt K H a n) ∧ RecName K H r rn ∧ Q (if lets ns rn = true then .ref r else .non) H
theorem take_all {α : Type} (p : α → Bool) (as : List α) (i : Nat) (x : α) (h : as[i]? = some x) : (as.take (i + 1)).all p = ((as.take i).all p && p x) := by
  rw [List.take_add_one, h, List.all_append]
  simp
theorem ok_filtered {f : Addr} (T : Txt P w K mg) (F : Stands K "filtered" "Filterer.filtered" s_Filterer_filtered [] f) (c_let_by : Callable P w K mg base 3 (He.ga K "let_by") ["one", "record"] [] (spLetBy K)) : Callable P w K mg base 4 f ["self", "record"] [] (spFiltered K) := by
  refine F.call0 sc_Filterer_filtered (fun vs H Q E h => ?_) (fun cdv A outer s H vs Q E hr h => ?_) (fun _ _ _ _ _ _ us hl => match us, hl with | [_, _], _ => rfl)
  · obtain ⟨p, C, dx, l, r, fs, as, ns, rn, rfl, _⟩ := h; rfl
  obtain ⟨p, C, dx, l, r, fs, as, ns, rn, rfl, hF, hlen, hA, hR, hQ⟩ := h
  unfold lets at hQ
  refine ⟨_, (pss_cons (ps_set (i := 2) sc_Filterer_filtered.nd rfl (by first | exact Or.inl rfl | exact Or.inr rfl) (pv 1))
      (pss_cons (ps_for PassesOwn.never rfl (pi_list (pe_fld (pv 0) rfl)) (pg_name (i := 3) sc_Filterer_filtered.nd rfl (by first | exact Or.inl rfl | exact Or.inr rfl)) (pss_cons (ps_set (i := 2) sc_Filterer_filtered.nd rfl (by first | exact Or.inl rfl | exact Or.inr rfl) (pe_fn T.g_let_by c_let_by (hr.mono (by first | decide | exact Nat.le_refl _)) (by rfl) (pa_cons (pv 3) (pa_cons (pv 2) pa_nil))))
      (pss_one (ps_if (pt_cmpR op_isN (pv 2) pe_non (nomark _)) (pss_one (ps_ret pe_non)) pss_nil))))
      (pss_one (ps_ret (pv 2))))), ?_⟩
  refine ⟨_, rfl, ?_⟩
  refine ⟨_, rfl, p, C, dx, fs, _, rfl, hF.ob, hF.cl, hF.no, hF.lk, l, rfl, ⟨_, SqL.of hF.ls⟩, ?_⟩
  refine for_list (xs := as.map V.ref) (fun i σ H' => H' = H ∧ (ns.take i).all (fun n => passB rn n) = true ∧ ∃ o, σ = [some (.ref p), some (.ref r), some (.ref r), o]) ⟨rfl, rfl, _, rfl⟩ (fun i σ H' _ h => by rw [h.1]; exact SqL.of hF.ls) (fun i x σ H' hx h => ?_) (fun σ H' h => ?_)
  · obtain ⟨rfl, ha, o, rfl⟩ := h
    rw [List.getElem?_map] at hx
    cases e : as[i]? with
    | none => rw [e] at hx; cases hx
    | some a =>
      rw [e] at hx
      cases hx
      obtain ⟨n, hn, hFA⟩ := hA i a e
      have hm : n ∈ ns := List.mem_of_getElem? hn
      refine ⟨_, rfl, _, rfl, a, r, n, rn, rfl, hFA, hR, ?_⟩
      have ht := take_all (fun n => passB rn n) ns i n hn
      cases hb : passB rn n with
      | true =>
        refine ⟨_, rfl, rfl, _, rfl, iteF' (by rfl) ⟨rfl, ?_, _, rfl⟩⟩
        rw [ht, ha, hb]; rfl
      | false =>
        refine ⟨_, rfl, rfl, _, rfl, iteT' (by rfl) ?_⟩
        have hn : ns.all (fun n => passB rn n) = false := by
          rw [List.all_eq_false]
          exact ⟨n, hm, by rw [hb]; decide⟩
        rw [hn] at hQ
        exact hQ
  · obtain ⟨rfl, ha, o, rfl⟩ := h
    rw [List.length_map, hlen, List.take_length] at ha
    rw [ha] at hQ
    exact ⟨_, rfl, hQ⟩
/-- a Filter stands at a -/
def IsF (K : PySem.W.Frag) (H : Hp) (a : Addr) : Prop := ∃ dx fs, H a = some (.ins (CF K) dx fs)
theorem IsF.insp {T : Txt P w K mg} {H : Hp} {a : Addr} (h : IsF K H a) : RA.InsP K H a (CF K) := ⟨h, T.p_Filter⟩
def spAddFilter (K : PySem.W.Frag) : Sp := fun vs H Q _ => ∃ (p C dx l a : Addr) (fs : List (Str × V)) (as : List Addr), vs = [.ref p, .ref a] ∧ HasF K H p C dx l fs as ∧ (∀ b ∈ a :: as, IsF K H b) ∧ Q .non (if a ∈ as then H else upd H l (.lst ((as ++ [a]).map V.ref)))
theorem ok_addFilter {f : Addr} (T : Txt P w K mg) (F : Stands K "addFilter" "Filterer.addFilter" s_Filterer_addFilter [] f) : Callable P w K mg base 1 f ["self", "one"] [] (spAddFilter K) := by
  refine F.call0 sc_Filterer_addFilter (fun vs H Q E h => ?_) (fun cdv A outer s H vs Q E hr h => ?_) (fun _ _ _ _ _ _ us hl => match us, hl with | [_, _], _ => rfl)
  · obtain ⟨p, C, dx, l, r, fs, as, rfl, _⟩ := h; rfl
  obtain ⟨p, C, dx, l, a, fs, as, rfl, hF, hA, hQ⟩ := h
  refine ⟨_, (pss_one (ps_if (pt_cmpR (RA.op_notInP hr.units) (pv 1) (pe_fld (pv 0) rfl) (by rfl)) (pss_one (ps_expr (pe_bm PySem.F.plainAttrs_list PySem.F.slot_list_append PySem.F.type_list_append mt_append (pe_fld (pv 0) rfl) (pa_cons (pv 1) pa_nil)))) pss_nil)), ?_⟩
  refine ⟨_, rfl, _, rfl, p, C, dx, fs, _, rfl, hF.ob, hF.cl, hF.no, hF.lk, a, CF K, l, as, rfl, ⟨hA a (List.mem_cons_self ..), T.p_Filter⟩, rfl, SqL.of hF.ls, fun b hb => ⟨CF K, ⟨hA b (List.mem_cons_of_mem _ hb), T.p_Filter⟩, T.sub_Filter_Filter⟩, _, rfl, ?_⟩
  by_cases e : a ∈ as
  · rw [if_pos e] at hQ
    exact iteF' (by simp [e]) hQ
  · rw [if_neg e] at hQ
    refine iteT' (by simp [e]) ?_
    refine ⟨_, rfl, p, C, dx, fs, _, rfl, hF.ob, hF.cl, hF.no, hF.lk, .inl ⟨rfl, _, SqL.of hF.ls⟩, _, rfl, l, _, _, rfl, rfl, hF.ls, (by rw [List.length_map, sizeLine_eq]; have := hF.ln; omega), ?_⟩
    rw [List.map_append] at hQ
    exact hQ
theorem take_filter {α : Type} (p : α → Bool) (as : List α) (i : Nat) (x : α) (h : as[i]? = some x) : (as.take (i + 1)).filter p = (as.take i).filter p ++ (if p x = true then [x] else []) := by
  rw [List.take_add_one, h, List.filter_append]
  cases e : p x <;> simp [e]
end
end K17

set_option Elab.async false
set_option linter.all false
set_option maxRecDepth 100000
set_option maxHeartbeats 0

namespace K17
open PySem PySem.Spec PyProof.Rows L2 RC
section
variable {P : Program} {w : World} {K : PySem.W.Frag} {mg : Str → Option Value} {base : Heap}
/-! ### a yard with what it wrote, and what could not be formatted -/
/-- the tuples of failures -/
inductive FrT (H : Hp) : List Addr → List (Str × Str) → Prop
  | nil : FrT H [] []
  | cons {p : Addr} {ps : List Addr} {f : Str × Str} {fs : List (Str × Str)} : H p = some (.tup [.str f.1, .str f.2]) → FrT H ps fs → FrT H (p :: ps) (f :: fs)
theorem FrT.to {H H' : Hp} (h : ∀ p xs, H p = some (.tup xs) → H' p = some (.tup xs)) : ∀ {ps : List Addr} {fs : List (Str × Str)}, FrT H ps fs → FrT H' ps fs
  | _, _, .nil => .nil
  | _, _, .cons a b => .cons (h _ _ a) (b.to h)
theorem FrT.snoc {H : Hp} {p : Addr} {f : Str × Str} (h : H p = some (.tup [.str f.1, .str f.2])) : ∀ {ps : List Addr} {fs : List (Str × Str)}, FrT H ps fs → FrT H (ps ++ [p]) (fs ++ [f])
  | _, _, .nil => .cons h .nil
  | _, _, .cons a b => .cons a (b.snoc h)
theorem FrT.len {H : Hp} : ∀ {ps : List Addr} {fs : List (Str × Str)}, FrT H ps fs → ps.length = fs.length
  | _, _, .nil => rfl
  | _, _, .cons _ b => congrArg Nat.succ b.len
theorem FrT.get {H : Hp} : ∀ {ps : List Addr} {fs : List (Str × Str)}, FrT H ps fs → ∀ (i : Nat) (p : Addr), ps[i]? = some p → ∃ f, fs[i]? = some f ∧ H p = some (.tup [.str f.1, .str f.2])
  | _, _, .nil, _, _, h => by cases h
  | _, _, .cons a b, 0, _, h => by cases h; exact ⟨_, rfl, a⟩
  | _, _, .cons a b, i + 1, p, h => b.get i p h
def FrAt (H : Hp) (fr : Addr) (fs : List (Str × Str)) : Prop := ∃ ps : List Addr, H fr = some (.lst (ps.map V.ref)) ∧ FrT H ps fs
/-- a yard at y: its texts at st, its failures at fr -/
structure YSt (K : PySem.W.Frag) (H : Hp) (y st fr : Addr) (ts fs : List (Str × Str)) : Prop where
  y : ∃ (dy fi na nu lm md hn rt lr : Addr) (clk : Int), H y = some (.ins (CY K) dy (yF clk st fi na nu lm md hn fr rt lr))
  st : H st = some (.dK (strK ts))
  fr : FrAt H fr fs
theorem FrAt.same {H H' : Hp} {fr : Addr} {fs : List (Str × Str)} (s : Same H H') (h : FrAt H fr fs) : FrAt H' fr fs := by
  obtain ⟨ps, h1, h2⟩ := h
  exact ⟨ps, s _ _ h1, h2.to fun _ _ e => s _ _ e⟩
theorem YSt.same {H H' : Hp} {y st fr : Addr} {ts fs : List (Str × Str)} (s : Same H H') (h : YSt K H y st fr ts fs) : YSt K H' y st fr ts fs := by
  obtain ⟨⟨dy, fi, na, nu, lm, md, hn, rt, lr, clk, h1⟩, h2, h3⟩ := h
  exact ⟨⟨dy, fi, na, nu, lm, md, hn, rt, lr, clk, s _ _ h1⟩, s _ _ h2, h3.same s⟩
/-- what changes elsewhere leaves the yard -/
theorem YSt.chg {H H' : Hp} {y st fr : Addr} {ts fs : List (Str × Str)} {ms : List Addr} (c : Chg ms H H') (n1 : st ∉ ms) (n2 : fr ∉ ms) (n3 : y ∉ ms) (n4 : ∀ p xs, p ∈ ms → H p ≠ some (.tup xs)) (h : YSt K H y st fr ts fs) : YSt K H' y st fr ts fs := by
  obtain ⟨⟨dy, fi, na, nu, lm, md, hn, rt, lr, clk, h1⟩, h2, ps, h3, h4⟩ := h
  exact ⟨⟨dy, fi, na, nu, lm, md, hn, rt, lr, clk, c _ _ n3 h1⟩, c _ _ n1 h2, ps, c _ _ n2 h3, h4.to fun p xs e => c _ _ (fun z => n4 p xs z e) e⟩
section
variable {H : Hp} {y st fr q : Addr} {ts fs : List (Str × Str)}
theorem YSt.put (h : YSt K H y st fr ts fs) (ts' : List (Str × Str)) : YSt K (upd H st (.dK (strK ts'))) y st fr ts' fs := by
  obtain ⟨⟨dy, fi, na, nu, lm, md, hn, rt, lr, clk, h1⟩, h2, ps, h3, h4⟩ := h
  refine ⟨⟨dy, fi, na, nu, lm, md, hn, rt, lr, clk, ?_⟩, upd_same, ps, ?_, h4.to fun p xs e => ?_⟩
  · rw [upd_ne (RW.ne_kind h1 h2 (fun z => nomatch z))]; exact h1
  · rw [upd_ne (RW.ne_kind h3 h2 (fun z => nomatch z))]; exact h3
  · rw [upd_ne (RW.ne_kind e h2 (fun z => nomatch z))]; exact e
theorem YSt.fail (h : YSt K H y st fr ts fs) {ps : List Addr} (h3 : H fr = some (.lst (ps.map V.ref))) (h4 : FrT H ps fs) {n w : Str} (hq : H q = some (.tup [.str n, .str w])) : YSt K (upd H fr (.lst (ps.map V.ref ++ [.ref q]))) y st fr ts (fs ++ [(n, w)]) := by
  obtain ⟨⟨dy, fi, na, nu, lm, md, hn, rt, lr, clk, h1⟩, h2, _⟩ := h
  refine ⟨⟨dy, fi, na, nu, lm, md, hn, rt, lr, clk, ?_⟩, ?_, ps ++ [q], by rw [upd_same, List.map_append]; rfl, ?_⟩
  · rw [upd_ne (RW.ne_kind h1 h3 (fun z => nomatch z))]; exact h1
  · rw [upd_ne (RW.ne_kind h2 h3 (fun z => nomatch z))]; exact h2
  · refine FrT.snoc (f := (n, w)) ?_ (h4.to fun p xs e => ?_)
    · rw [upd_ne (RW.ne_kind hq h3 (fun z => nomatch z))]; exact hq
    · rw [upd_ne (RW.ne_kind e h3 (fun z => nomatch z))]; exact e
end
def spKeep (K : PySem.W.Frag) : Sp := fun vs H Q _ => ∃ (y st fr : Addr) (ts fs : List (Str × Str)) (n w : Str), vs = [.ref y, .str n, .str w] ∧ YSt K H y st fr ts fs ∧ fs.length ≤ 1000000 ∧ ∀ H', Chg [fr] H H' → YSt K H' y st fr ts (fs ++ [(n, w)]) → Q .non H'
theorem ok_keep {f : Addr} (T : Txt P w K mg) (F : Stands K "keep_failure" "Yard.keep_failure" s_Yard_keep_failure [] f) : RI.CallI P w K mg base 1 f ["self", "name", "word"] (spKeep K) := by
  refine RI.stands_callI F sc_Yard_keep_failure (fun vs H Q E h => ?_) (fun cdv A outer s H vs Q p hr h => ?_) (fun _ _ _ _ _ _ us hl => match us, hl with | [_, _, _], _ => rfl)
  · obtain ⟨y, st, fr, ts, fs, n, w, rfl, _⟩ := h; rfl
  obtain ⟨y, st, fr, ts, fs, n, w, rfl, hY, hl, hQ⟩ := h
  obtain ⟨⟨dy, fi, na, nu, lm, md, hn, rt, lr, clk, hy⟩, hst, ps, hfr, hft⟩ := id hY
  refine ⟨_, (pss_one (ps_expr (pe_bm PySem.F.plainAttrs_list PySem.F.slot_list_append PySem.F.type_list_append mt_append (pe_fld (pv 0) rfl) (pa_cons (pe_tup (pa_cons (pv 1) (pa_cons (pv 2) pa_nil))) pa_nil)))), ?_⟩
  dsimp only [cxK3]
  have hll : (ps.map V.ref).length < sizeLine := by rw [List.length_map, hft.len, sizeLine_eq]; omega
  walk_at "go"
  intro q fq
  have s1 := same_new fq (.tup [.str n, .str w])
  have hq := upd_same (H := H) (a := q) (o := .tup [.str n, .str w])
  generalize upd H q (.tup [.str n, .str w]) = H1 at s1 hq ⊢
  have hY1 := hY.same s1
  have hf1 := s1 _ _ hfr
  walk_at "go"
  exact hQ _ ((Chg.of s1).set List.mem_cons_self) (hY1.fail hf1 (hft.to fun _ _ e => s1 _ _ e) hq)
/-! ### a handler's formatter -/
/-- what stands as a handler's formatter -/
def FormV (K : PySem.W.Frag) (H : Hp) : Option (List (Str ⊕ Str)) → V → Prop
  | none, v => v = .non
  | some ps, v => ∃ m, v = .ref m ∧ FmAt K H m ps ∧ PsOk ps
theorem FormV.same {H H' : Hp} (s : Same H H') : ∀ {fo : Option (List (Str ⊕ Str))} {v : V}, FormV K H fo v → FormV K H' fo v
  | none, _, h => h
  | some _, _, ⟨m, h1, h2, h3⟩ => ⟨m, h1, h2.same s, h3⟩
inductive HfO (d : Rc) : Option (List (Str ⊕ Str)) → TxO → Prop
  | msgT {t : SS} : MsgO d (some t) → HfO d none (.tx t)
  | msgE : MsgO d none → HfO d none .msg
  | fm {ps : List (Str ⊕ Str)} {o : TxO} : FmO d ps o → HfO d (some ps) o
def spFormatted (K : PySem.W.Frag) : Sp := fun vs H Q E => ∃ (h dh r : Addr) (fs : List (Str × V)) (d : Rc) (fo : Option (List (Str ⊕ Str))) (fv : V) (o : TxO), vs = [.ref h, .ref r] ∧ H h = some (.ins (CS K) dh fs) ∧ fs.lookup ("formatter" : Str) = some fv ∧ FormV K H fo fv ∧ RcAt K H r d ∧ d.Ok ∧ HfO d fo o ∧ TxtO K H Q E d o
theorem ok_formatted {f : Addr} (T : Txt P w K mg) (F : Stands K "formatted" "Handler.formatted" s_Handler_formatted [] f) (c_LogRecord_message : RH.CallN P w K mg base 5 (He.ma K (He.ga K "LogRecord") "message") ["self"] [] (spMessage K))
    (c_Formatter_formatted : RQ.CallX P w K mg base 8 (He.ma K (He.ga K "Formatter") "formatted") ["self", "record"] [] (spFmFormatted K)) : RQ.CallX P w K mg base 9 f ["self", "record"] [] (spFormatted K) := by
  refine RQ.stands_callX0 F sc_Handler_formatted (fun vs H Q E h => ?_) (fun cdv A outer s H vs Q E hr h => ?_) (fun _ _ _ _ _ _ us hl => match us, hl with | [_, _], _ => rfl)
  · obtain ⟨h, dh, r, fs, d, fo, fv, o, rfl, _⟩ := h; rfl
  obtain ⟨h, dh, r, fs, d, fo, fv, o, rfl, hh, hf, hF, hR, hok, hO, hQ, hEm, hEf⟩ := h
  obtain ⟨dx, g, e, hr1, hg, he⟩ := id hR
  refine ⟨_, (pss_one (ps_ret (pe_ifExp (pt_cmpR op_isN (pe_fld (pv 0) rfl) pe_non (nomark _)) (RH.pe_mtX0 (takes_of rfl rfl rfl rfl) T.c_LogRecord T.m_LogRecord_message c_LogRecord_message.toX (hr.mono (by first | decide | exact Nat.le_refl _)) (pv 1)) (RQ.pe_mtX (takes_of rfl rfl rfl rfl) T.c_Formatter T.m_Formatter_formatted c_Formatter_formatted (hr.mono (by first | decide | exact Nat.le_refl _)) (pe_fld (pv 0) rfl) (pa_cons (pv 1) pa_nil))))), ?_⟩
  dsimp only [cxK2]
  cases fo with
  | none =>
    cases hF
    obtain ⟨oM, hMo, h1, h2⟩ : ∃ oM, MsgO d oM ∧ (∀ t, oM = some t → o = .tx t) ∧ (oM = none → o = .msg) := by
      cases hO with
      | @msgT t h => exact ⟨some t, h, fun _ e => by cases e; rfl, fun e => nomatch e⟩
      | msgE h => exact ⟨none, h, (fun _ e => nomatch e), fun _ => rfl⟩
    walk_at "go"
    refine ⟨fun t H' ho s => ?_, fun ho => hEm (h2 ho)⟩
    subst ho
    have := msgO_len hMo hok
    exact hQ t H' (h1 t rfl) (by omega) s
  | some ps =>
    obtain ⟨m, rfl, hFm, hps⟩ := hF
    cases hO with
    | fm hO =>
      obtain ⟨dm, t, df, z, vs, hm, _⟩ := id hFm
      walk_at "go"
      first | exact ⟨hQ, hEm, hEf⟩ | exact hEf
end
end K17

set_option Elab.async false
set_option linter.all false
set_option maxRecDepth 100000
set_option maxHeartbeats 0

namespace K17
open PySem PySem.Spec PyProof.Rows L2 RC
section
variable {P : Program} {w : World} {K : PySem.W.Frag} {mg : Str → Option Value} {base : Heap}
/-! ### the text of a record, or a failure -/
/-- what becomes of texts and failures -/
def emitO (o : TxO) (sn tm nm : Str) (ts fs : List (Str × Str)) : List (Str × Str) × List (Str × Str) := match o with
  | .tx t => (putS ts sn (txt ts sn ++ (tx t ++ tm)), fs)
  | .msg => (ts, fs ++ [(nm, ("message" : Str))])
  | .fld _ => (ts, fs ++ [(nm, ("field" : Str))])
def spTextOf (K : PySem.W.Frag) : Sp := fun vs H Q _ => ∃ (h dh r y st fr : Addr) (fs : List (Str × V)) (d : Rc) (fo : Option (List (Str ⊕ Str))) (fv : V) (o : TxO) (ts fl : List (Str × Str)), vs = [.ref h, .ref r] ∧ H h = some (.ins (CS K) dh fs) ∧ fs.lookup ("formatter" : Str) = some fv ∧ fs.lookup ("yard" : Str) = some (.ref y) ∧ fs.lookup ("formatted" : Str) = none ∧
  FormV K H fo fv ∧ RcAt K H r d ∧ d.Ok ∧ HfO d fo o ∧ YSt K H y st fr ts fl ∧ fl.length ≤ 1000000 ∧
  (∀ (t : SS) (H' : Hp), o = .tx t → t.length ≤ 12000000 → Same H H' → Q (.str (tx t)) H') ∧ (∀ H', o = .msg → Chg [fr] H H' → YSt K H' y st fr ts (fl ++ [(d.name, ("message" : Str))]) → Q .non H') ∧ (∀ nm H', o = .fld nm → Chg [fr] H H' → YSt K H' y st fr ts (fl ++ [(d.name, ("field" : Str))]) → Q .non H')
theorem ok_text_of {f : Addr} (T : Txt P w K mg) (F : Stands K "text_of" "Handler.text_of" s_Handler_text_of [] f) (c_StreamHandler_formatted : RQ.CallX P w K mg base 9 (He.ma K (He.ga K "StreamHandler") "formatted") ["self", "record"] [] (spFormatted K))
    (i_Yard_keep_failure : RI.CallI P w K mg base 1 (He.ma K (He.ga K "Yard") "keep_failure") ["self", "name", "word"] (spKeep K)) : Callable P w K mg base 10 f ["self", "record"] [] (spTextOf K) := by
  refine F.call0 sc_Handler_text_of (fun vs H Q E h => ?_) (fun cdv A outer s H vs Q E hr h => ?_) (fun _ _ _ _ _ _ us hl => match us, hl with | [_, _], _ => rfl)
  · obtain ⟨h, dh, r, y, st, fr, fs, d, fo, fv, o, ts, fl, rfl, _⟩ := h; rfl
  obtain ⟨h, dh, r, y, st, fr, fs, d, fo, fv, o, ts, fl, rfl, hh, hf, hfy, hff, hF, hR, hok, hO, hY, hfl, hQ, hEm, hEf⟩ := h
  obtain ⟨⟨dy, fi, na, nu, lm, md, hn, rt, lr, clk, hy⟩, _⟩ := id hY
  obtain ⟨dx, g, e, hr1, hg, he⟩ := id hR
  refine ⟨_, (pss_cons (ps_set (i := 2) sc_Handler_text_of.nd rfl (by first | exact Or.inl rfl | exact Or.inr rfl) pe_non)
      (pss_cons (ps_try_many rfl rfl takes_none5 (fun W pn xe tk _ => (pss_one (ps_set (i := 2) sc_Handler_text_of.nd rfl (by first | exact Or.inl rfl | exact Or.inr rfl) (RQ.pe_mtX tk T.c_StreamHandler T.m_StreamHandler_formatted c_StreamHandler_formatted (hr.mono (by first | decide | exact Nat.le_refl _)) (pv 0) (pa_cons (pv 1) pa_nil))))) (HdsOk.cons ⟨by rfl, by decide, .inl T.g_BadMessage⟩ (fun a oe cls d pn _ _ => (pss_one (ps_expr (RI.pe_mtI (pe_fldK (K := K) (pv 0) rfl) T.c_Yard T.m_Yard_keep_failure i_Yard_keep_failure (RI.room_suite (hr.mono (by first | decide | exact Nat.le_refl _))) RI.held_of (pa_cons (pe_fldK (K := K) (pv 1) rfl) (pa_cons pe_str pa_nil)))))) (HdsOk.cons ⟨by rfl, by decide, .inl T.g_BadField⟩ (fun a oe cls d pn _ _ => (pss_one (ps_expr (RI.pe_mtI (pe_fldK (K := K) (pv 0) rfl) T.c_Yard T.m_Yard_keep_failure i_Yard_keep_failure (RI.room_suite (hr.mono (by first | decide | exact Nat.le_refl _))) RI.held_of (pa_cons (pe_fldK (K := K) (pv 1) rfl) (pa_cons pe_str pa_nil)))))) HdsOk.nil)))
      (pss_one (ps_ret (pv 2))))), ?_⟩
  walk_at "in"
  refine ⟨_, rfl, ?_⟩
  refine ⟨h, dh, fs, rfl, hh, hff, _, rfl, ?_⟩
  have hfl2 : fl.length ≤ 1000000 := hfl
  refine ⟨h, dh, r, fs, d, fo, fv, o, rfl, hh, hf, hF, hR, hok, hO, fun t H' ho hl s => ?_, fun ho d2 H1 s1 fd => ?_, fun n2 ho d2 H1 s1 fd => ?_⟩
  · walk_at "go"
    exact hQ t H' ho hl s
  · refine ⟨true, T.e_BadMessage_BadMessage, fun _ a fa => ?_, fun h => nomatch h⟩
    have s2 : Same H (upd H1 d2 (.xd [("msg", .str d.msg)])) := s1.trans (same_new fd _)
    generalize upd H1 d2 (.xd [("msg", .str d.msg)]) = H2 at s2 fa ⊢
    have hh2 := s2 _ _ hh
    have hr2 := s2 _ _ hr1
    have hy2 := s2 _ _ hy
    have hY2 := hY.same s2
    walk_at "go"
    intro H3 c3 hY3
    walk_at "go"
    exact hEm H3 ho (Chg.sameL s2 c3) hY3
  · refine ⟨false, T.e_BadField_BadMessage, (fun h => nomatch h), fun _ => ⟨true, T.e_BadField_BadField, fun _ a fa => ?_, fun h => nomatch h⟩⟩
    have s2 : Same H (upd H1 d2 (.xd [("name", .str n2)])) := s1.trans (same_new fd _)
    generalize upd H1 d2 (.xd [("name", .str n2)]) = H2 at s2 fa ⊢
    have hh2 := s2 _ _ hh
    have hr2 := s2 _ _ hr1
    have hy2 := s2 _ _ hy
    have hY2 := hY.same s2
    walk_at "go"
    intro H3 c3 hY3
    walk_at "go"
    exact hEf n2 H3 ho (Chg.sameL s2 c3) hY3
end
end K17

set_option Elab.async false
set_option linter.all false
set_option maxRecDepth 100000
set_option maxHeartbeats 0

namespace K17
open PySem PySem.Spec PyProof.Rows L2 RC
section
variable {P : Program} {w : World} {K : PySem.W.Frag} {mg : Str → Option Value} {base : Heap}
/-! ### written to a stream -/
def spText (K : PySem.W.Frag) : Sp := fun vs H Q _ => ∃ (y st fr : Addr) (ts fl : List (Str × Str)) (s : Str), vs = [.ref y, .str s] ∧ YSt K H y st fr ts fl ∧ Q (.str (txt ts s)) H
theorem ok_text {f : Addr} (T : Txt P w K mg) (F : Stands K "text" "Yard.text" s_Yard_text [] f) : Callable P w K mg base 1 f ["self", "stream"] [] (spText K) := by
  refine F.call0 sc_Yard_text (fun vs H Q E h => ?_) (fun cdv A outer s0 H vs Q E hr h => ?_) (fun _ _ _ _ _ _ us hl => match us, hl with | [_, _], _ => rfl)
  · obtain ⟨y, st, fr, ts, fl, s, rfl, _⟩ := h; rfl
  obtain ⟨y, st, fr, ts, fl, s, rfl, hY, hQ⟩ := h
  obtain ⟨⟨dy, fi, na, nu, lm, md, hn, rt, lr, clk, hy⟩, hst, _⟩ := id hY
  refine ⟨_, (pss_one (ps_ret (pe_dget2 (hu_of hr) (pe_fld (pv 0) rfl) (pv 1) pe_str ⟨rfl, rfl, rfl, rfl⟩))), ?_⟩
  walk_at "in"
  have hv := valV_strK s ts
  unfold txt at hQ
  cases e : ts.lookup s with
  | none =>
    rw [e] at hv hQ
    walk_at "go"
    exact hQ
  | some t =>
    rw [e] at hv hQ
    walk_at "go"
    exact hQ
def spWrite (K : PySem.W.Frag) : Sp := fun vs H Q _ => ∃ (y st fr : Addr) (ts fl : List (Str × Str)) (s t : Str), vs = [.ref y, .str s, .str t] ∧ YSt K H y st fr ts fl ∧ ts.length ≤ 1000000 ∧ (txt ts s).length + t.length ≤ 16000000 ∧ ∀ H', Chg [st] H H' → YSt K H' y st fr (putS ts s (txt ts s ++ t)) fl → Q .non H'
theorem ok_write {f : Addr} (T : Txt P w K mg) (F : Stands K "write_stream" "Yard.write_stream" s_Yard_write_stream [] f) (c_Yard_text : Callable P w K mg base 1 (He.ma K (He.ga K "Yard") "text") ["self", "stream"] [] (spText K)) : Callable P w K mg base 2 f ["self", "name", "text"] [] (spWrite K) := by
  refine F.call0 sc_Yard_write_stream (fun vs H Q E h => ?_) (fun cdv A outer s0 H vs Q E hr h => ?_) (fun _ _ _ _ _ _ us hl => match us, hl with | [_, _, _], _ => rfl)
  · obtain ⟨y, st, fr, ts, fl, s, t, rfl, _⟩ := h; rfl
  obtain ⟨y, st, fr, ts, fl, s, t, rfl, hY, hl, hs, hQ⟩ := h
  obtain ⟨⟨dy, fi, na, nu, lm, md, hn, rt, lr, clk, hy⟩, hst, _⟩ := id hY
  refine ⟨_, (pss_one (ps_dput (hu_of hr) (pe_fld (pv 0) rfl) (pv 1) (pe_op op_add_str (pe_mt T.c_Yard T.m_Yard_text c_Yard_text (hr.mono (by first | decide | exact Nat.le_refl _)) (pv 0) (pa_cons (pv 1) pa_nil)) (pv 2)) rfl)), ?_⟩
  walk_at "in"
  have hs2 : (txt ts s).length + t.length ≤ sizeLine := by rw [sizeLine_eq]; omega
  have hl2 : (strK ts).length < sizeLine := by unfold strK; rw [List.length_map, sizeLine_eq]; omega
  have hq := hQ (upd H st (.dK (strK (putS ts s (txt ts s ++ t))))) (Chg.put List.mem_cons_self) (hY.put _)
  rw [← putK_strK] at hq
  walk_at "go"
  exact hq
/-- a handler that writes to a stream -/
def hdS (fl y : Addr) (lv : Int) (fv : V) (tm st : Str) (cl : Bool) : List (Str × V) := [("filters", .ref fl), ("yard", .ref y), ("level", .int lv), ("formatter", fv), ("name", .non), ("terminator", .str tm), ("closed", .bl cl), ("stream", .str st)]
/-- the data of a writer -/
structure Wr where
  lv : Int
  fo : Option (List (Str ⊕ Str))
  tm : Str
  sn : Str
  ns : List Str
  cl : Bool
structure WrAt (K : PySem.W.Frag) (H : Hp) (h y : Addr) (wr : Wr) : Prop where
  at_ : ∃ (dh fl : Addr) (fv : V) (as : List Addr), H h = some (.ins (CS K) dh (hdS fl y wr.lv fv wr.tm wr.sn wr.cl)) ∧ FormV K H wr.fo fv ∧ H fl = some (.lst (as.map V.ref)) ∧ as.length = wr.ns.length ∧ as.length ≤ 100 ∧ (∀ (k : Nat) (a : Addr), as[k]? = some a → ∃ n, wr.ns[k]? = some n ∧ FilterAt K H a n)
theorem FilterAt.same {H H' : Hp} {a : Addr} {n : Str} (s : Same H H') (h : FilterAt K H a n) : FilterAt K H' a n := by
  obtain ⟨⟨dx, h1⟩, h2⟩ := h
  exact ⟨⟨dx, s _ _ h1⟩, h2⟩
theorem WrAt.same {H H' : Hp} {h y : Addr} {wr : Wr} (s : Same H H') (e : WrAt K H h y wr) : WrAt K H' h y wr := by
  obtain ⟨dh, fl, fv, as, h1, h2, h3, h4, h5, h6⟩ := e.at_
  refine ⟨dh, fl, fv, as, s _ _ h1, h2.same s, s _ _ h3, h4, h5, fun k a hk => ?_⟩
  obtain ⟨n, hn, hf⟩ := h6 k a hk
  exact ⟨n, hn, hf.same s⟩
/-- enough room for what is written -/
def Fits (o : TxO) (wr : Wr) (ts : List (Str × Str)) : Prop := ts.length ≤ 1000000 ∧ ∀ t, o = .tx t → (txt ts wr.sn).length + (t.length + wr.tm.length) ≤ 16000000
def spEmit (K : PySem.W.Frag) : Sp := fun vs H Q _ => ∃ (h r y st fr : Addr) (wr : Wr) (d : Rc) (o : TxO) (ts fl : List (Str × Str)), vs = [.ref h, .ref r] ∧ WrAt K H h y wr ∧ RcAt K H r d ∧ d.Ok ∧ HfO d wr.fo o ∧ YSt K H y st fr ts fl ∧ fl.length ≤ 1000000 ∧ Fits o wr ts ∧
  ∀ H', Chg [st, fr] H H' → YSt K H' y st fr (emitO o wr.sn wr.tm d.name ts fl).1 (emitO o wr.sn wr.tm d.name ts fl).2 → Q .non H'
theorem ok_emit {f : Addr} (T : Txt P w K mg) (F : Stands K "emit" "StreamHandler.emit" s_StreamHandler_emit [] f) (c_StreamHandler_text_of : Callable P w K mg base 10 (He.ma K (He.ga K "StreamHandler") "text_of") ["self", "record"] [] (spTextOf K))
    (c_Yard_write_stream : Callable P w K mg base 2 (He.ma K (He.ga K "Yard") "write_stream") ["self", "name", "text"] [] (spWrite K)) : Callable P w K mg base 11 f ["self", "record"] [] (spEmit K) := by
  refine F.call0 sc_StreamHandler_emit (fun vs H Q E h => ?_) (fun cdv A outer s0 H vs Q E hr h => ?_) (fun _ _ _ _ _ _ us hl => match us, hl with | [_, _], _ => rfl)
  · obtain ⟨h, r, y, st, fr, wr, d, o, ts, fl, rfl, _⟩ := h; rfl
  obtain ⟨h, r, y, st, fr, wr, d, o, ts, fl, rfl, hW, hR, hok, hO, hY, hfl, ⟨hf1, hf2⟩, hQ⟩ := h
  obtain ⟨dh, fi0, fv, as, hh, hF, hfi, _⟩ := hW.at_
  refine ⟨_, (pss_cons (ps_set (i := 2) sc_StreamHandler_emit.nd rfl (by first | exact Or.inl rfl | exact Or.inr rfl) (pe_mt T.c_StreamHandler T.m_StreamHandler_text_of c_StreamHandler_text_of (hr.mono (by first | decide | exact Nat.le_refl _)) (pv 0) (pa_cons (pv 1) pa_nil)))
      (pss_one (ps_if (pt_cmpR op_notN (pv 2) pe_non (nomark _)) (pss_one (ps_expr (pe_mt T.c_Yard T.m_Yard_write_stream c_Yard_write_stream (hr.mono (by first | decide | exact Nat.le_refl _)) (pe_fld (pv 0) rfl) (pa_cons (pe_fld (pv 0) rfl) (pa_cons (pe_op op_add_str (pv 2) (pe_fld (pv 0) rfl)) pa_nil))))) pss_nil))), ?_⟩
  walk_at "in"
  refine ⟨_, rfl, h, dh, _, rfl, hh, rfl, _, rfl, ?_⟩
  refine ⟨h, dh, r, y, st, fr, _, d, wr.fo, fv, o, ts, fl, rfl, hh, rfl, rfl, rfl, hF, hR, hok, hO, hY, hfl, fun t H1 ho hl s1 => ?_, fun H1 ho c1 hY1 => ?_, fun n2 H1 ho c1 hY1 => ?_⟩
  · subst ho
    have hY1 := hY.same s1
    have hh1 := s1 _ _ hh
    obtain ⟨⟨dy, fi, na, nu, lm, md, hn, rt, lr, clk, hy⟩, hst, _⟩ := id hY1
    have hf3 := hf2 t rfl
    have hf4 : (tx t).length + wr.tm.length ≤ sizeLine := by rw [tx_len, sizeLine_eq]; omega
    have hf5 : (txt ts wr.sn).length + (tx t ++ wr.tm).length ≤ 16000000 := by rw [len_app, tx_len]; exact hf3
    walk_at "go"
    intro H2 c2 hY2
    exact hQ H2 ((Chg.sameL s1 c2).mono fun b hb => by
      rw [List.mem_singleton.mp hb]; exact List.mem_cons_self) hY2
  · subst ho
    walk_at "go"
    exact hQ H1 (c1.mono fun b hb => List.mem_cons_of_mem _ hb) hY1
  · subst ho
    walk_at "go"
    exact hQ H1 (c1.mono fun b hb => List.mem_cons_of_mem _ hb) hY1
/-- what a handler's handle does -/
def handO (b : Bool) (o : TxO) (wr : Wr) (nm : Str) (ts fl : List (Str × Str)) : List (Str × Str) × List (Str × Str) := if b = true then emitO o wr.sn wr.tm nm ts fl else (ts, fl)
def spHandleS (K : PySem.W.Frag) : Sp := fun vs H Q _ => ∃ (h r y st fr : Addr) (wr : Wr) (d : Rc) (o : TxO) (ts fl : List (Str × Str)), vs = [.ref h, .ref r] ∧ WrAt K H h y wr ∧ RcAt K H r d ∧ d.Ok ∧ HfO d wr.fo o ∧ YSt K H y st fr ts fl ∧ fl.length ≤ 1000000 ∧ Fits o wr ts ∧
  ∀ H', Chg [st, fr] H H' → YSt K H' y st fr (handO (lets wr.ns d.name) o wr d.name ts fl).1 (handO (lets wr.ns d.name) o wr d.name ts fl).2 → Q (.bl (lets wr.ns d.name)) H'
theorem ok_handleS {f : Addr} (T : Txt P w K mg) (F : Stands K "handle" "Handler.handle" s_Handler_handle [] f) (c_StreamHandler_filtered : Callable P w K mg base 4 (He.ma K (He.ga K "StreamHandler") "filtered") ["self", "record"] [] (spFiltered K))
    (c_StreamHandler_emit : Callable P w K mg base 11 (He.ma K (He.ga K "StreamHandler") "emit") ["self", "record"] [] (spEmit K)) : Callable P w K mg base 12 f ["self", "record"] [] (spHandleS K) := by
  refine F.call0 sc_Handler_handle (fun vs H Q E h => ?_) (fun cdv A outer s0 H vs Q E hr h => ?_) (fun _ _ _ _ _ _ us hl => match us, hl with | [_, _], _ => rfl)
  · obtain ⟨h, r, y, st, fr, wr, d, o, ts, fl, rfl, _⟩ := h; rfl
  obtain ⟨h, r, y, st, fr, wr, d, o, ts, fl, rfl, hW, hR, hok, hO, hY, hfl, hf, hQ⟩ := h
  obtain ⟨dh, fi0, fv, as, hh, hF, hfi, hal, ha1, hA⟩ := hW.at_
  refine ⟨_, (pss_cons (ps_set (i := 2) sc_Handler_handle.nd rfl (by first | exact Or.inl rfl | exact Or.inr rfl) (pe_mt T.c_StreamHandler T.m_StreamHandler_filtered c_StreamHandler_filtered (hr.mono (by first | decide | exact Nat.le_refl _)) (pv 0) (pa_cons (pv 1) pa_nil)))
      (pss_cons (ps_if (pt_cmpR op_isN (pv 2) pe_non (nomark _)) (pss_one (ps_ret pe_bl)) pss_nil)
      (pss_cons (ps_expr (pe_mt T.c_StreamHandler T.m_StreamHandler_emit c_StreamHandler_emit (hr.mono (by first | decide | exact Nat.le_refl _)) (pv 0) (pa_cons (pv 2) pa_nil)))
      (pss_one (ps_ret pe_bl))))), ?_⟩
  walk_at "in"
  refine ⟨_, rfl, h, dh, _, rfl, hh, rfl, _, rfl, ?_⟩
  refine ⟨h, CS K, dh, fi0, r, _, as, wr.ns, d.name, rfl, ⟨hh, T.c_StreamHandler, T.n_StreamHandler_filters, rfl, hfi, ha1, by show 8 < 100; decide⟩, hal, hA, RecAt.name hR, ?_⟩
  cases e : lets wr.ns d.name with
  | false =>
    rw [e] at hQ
    walk_at "go"
    exact hQ H Chg.refl hY
  | true =>
    rw [e] at hQ
    walk_at "go"
    intro H2 c2 hY2
    walk_at "go"
    exact hQ H2 c2 hY2
end
end K17

set_option Elab.async false
set_option linter.all false
set_option maxRecDepth 100000
set_option maxHeartbeats 0
namespace K17
open PySem PySem.Spec PyProof.Rows L2 RC
section
variable {P : Program} {w : World} {K : PySem.W.Frag} {mg : Str → Option Value} {base : Heap}
/-! ### memories -/
/-- a record that is kept: where it stands, where the law's row of it stands, what it holds -/
structure Kp where
  r : Addr
  q : Addr
  d : Rc
/-- the data of a memory -/
structure Md where
  cap : Int
  least : Int
  fc : Bool
  ns : List Str
  nm : Option Str
  lv : Int
def nmV : Option Str → V
  | none => .non
  | some s => .str s
def hdM (fl y : Addr) (md : Md) (tg : V) (mk : Addr) : List (Str × V) := [("filters", .ref fl), ("yard", .ref y), ("level", .int md.lv), ("formatter", .non), ("name", nmV md.nm), ("terminator", .str "\n"), ("closed", .bl false), ("capacity", .int md.cap), ("flush_level", .int md.least), ("target", tg), ("flush_on_close", .bl md.fc), ("kept", .ref mk)]
def kR (ks : List Kp) : List V := ks.map fun k => V.ref k.r
def memDue (md : Md) (n : Nat) (lv : Int) : Bool := decide ((n : Int) ≥ md.cap) || decide (lv ≥ md.least)
theorem handO_cap {b : Bool} {o : TxO} {wr : Wr} {nm : Str} {ts fl : List (Str × Str)} {n : Nat} (c : Cap ts n) (ho : ∀ t, o = .tx t → t.length ≤ 1000) (ht : wr.tm.length ≤ 100) : Cap (handO b o wr nm ts fl).1 (n + 2000) ∧ (handO b o wr nm ts fl).2.length ≤ fl.length + 1 := by
  have c2 : Cap ts (n + 2000) := ⟨Nat.le_trans c.1 (Nat.le_add_right _ _), fun e he => Nat.le_trans (c.2 e he) (Nat.le_add_right _ _)⟩
  cases b with
  | false => exact ⟨c2, Nat.le_succ _⟩
  | true =>
    cases o with
    | tx t =>
      refine ⟨putS_cap c _ ?_ (by decide), Nat.le_succ _⟩
      have h1 := txt_cap c wr.sn
      have h2 := ho t rfl
      rw [len_app, len_app, tx_len t]; omega
    | msg => exact ⟨c2, by show (fl ++ [_]).length ≤ _; rw [List.length_append]; exact Nat.le_refl _⟩
    | fld m => exact ⟨c2, by show (fl ++ [_]).length ≤ _; rw [List.length_append]; exact Nat.le_refl _⟩
theorem fits_cap {o : TxO} {wr : Wr} {ts : List (Str × Str)} {n : Nat} (c : Cap ts n) (hn : n ≤ 900000) (ho : ∀ t, o = .tx t → t.length ≤ 1000) (ht : wr.tm.length ≤ 100) : Fits o wr ts := by
  refine ⟨by have := c.1; omega, fun t e => ?_⟩
  have h1 := txt_cap c wr.sn
  have h2 := ho t e
  omega
theorem _root_.RC.Chg.free {ms : List Addr} {H H' : Hp} {a : Addr} (c : Chg ms H H') (h : ∀ m ∈ ms, H' m ≠ none) (e : H' a = none) : H a = none := by
  cases z : H a with
  | none => rfl
  | some o =>
    by_cases m : a ∈ ms
    · exact absurd e (h a m)
    · rw [c _ _ m z] at e; cases e
theorem ne_y {H : Hp} {y h dy C dh st fi na nu lm md hn fr rt lr : Addr} {clk : Int} {v : V} {fs : List (Str × V)} (hy : H y = some (.ins (CY K) dy (yF clk st fi na nu lm md hn fr rt lr))) (hh : H h = some (.ins C dh (("filters", v) :: fs))) : y ≠ h := fun z => by
  rw [z, hh] at hy
  injection hy with e
  injection e with _ _ e
  have e2 : (some ("filters" : Str) : Option Str) = some "clock" := congrArg (fun l : List (Str × V) => l.head?.map Prod.fst) e
  exact absurd e2 (by decide +kernel)
theorem YSt.live {H : Hp} {y st fr : Addr} {ts fs : List (Str × Str)} (h : YSt K H y st fr ts fs) : ∀ m ∈ [st, fr], H m ≠ none := fun m hm => by
  obtain ⟨ps, h1, _⟩ := h.fr
  rcases List.mem_cons.mp hm with rfl | hm
  · rw [h.st]; exact fun z => nomatch z
  · rw [List.mem_singleton.mp hm, h1]; exact fun z => nomatch z
end
end K17

set_option Elab.async false
set_option linter.all false
set_option maxRecDepth 100000
set_option maxHeartbeats 0

namespace K17
open PySem PySem.Spec PyProof.Rows L2 RC
section
variable {P : Program} {w : World} {K : PySem.W.Frag} {mg : Str → Option Value} {base : Heap}
/-! ### memories at work -/
def spBuffer (K : PySem.W.Frag) : Sp := fun vs H Q _ => ∃ (h dh fi y mk : Addr) (md : Md) (tv : V) (xs : List V), vs = [.ref h] ∧ H h = some (.ins (CM K) dh (hdM fi y md tv mk)) ∧ H mk = some (.lst xs) ∧ ∀ p, H p = none → Q (.ref p) (upd H p (.lst xs))
theorem ok_buffer {f : Addr} (T : Txt P w K mg) (F : Stands K "buffer" "MemoryHandler.buffer" s_MemoryHandler_buffer [] f) : Callable P w K mg base 1 f ["self"] [] (spBuffer K) := by
  refine F.call0 sc_MemoryHandler_buffer (fun vs H Q E h => ?_) (fun cdv A outer s0 H vs Q E hr h => ?_) (fun _ _ _ _ _ _ us hl => match us, hl with | [_], _ => rfl)
  · obtain ⟨h, dh, fi, y, mk, md, tv, xs, rfl, _⟩ := h; rfl
  obtain ⟨h, dh, fi, y, mk, md, tv, xs, rfl, hh, hmk, hQ⟩ := h
  refine ⟨_, (pss_one (ps_ret (pe_callTy call_list_of (by rfl) T.b_list (by decide +kernel) (pa_cons (pe_fld (pv 0) rfl) pa_nil)))), ?_⟩
  walk_at "in"
  refine ⟨_, rfl, h, _, dh, _, _, rfl, hh, T.c_MemoryHandler, T.n_MemoryHandler_kept, rfl, ?_⟩
  exact ⟨mk, xs, rfl, .inl (SqL.of hmk), hQ⟩
def spShould (K : PySem.W.Frag) : Sp := fun vs H Q _ => ∃ (h dh fi y mk r : Addr) (md : Md) (tv : V) (xs : List V) (d : Rc), vs = [.ref h, .ref r] ∧ H h = some (.ins (CM K) dh (hdM fi y md tv mk)) ∧ H mk = some (.lst xs) ∧ RcAt K H r d ∧ Q (.bl (memDue md xs.length d.lv)) H
theorem ok_should {f : Addr} (T : Txt P w K mg) (F : Stands K "shouldFlush" "MemoryHandler.shouldFlush" s_MemoryHandler_shouldFlush [] f) : Callable P w K mg base 1 f ["self", "record"] [] (spShould K) := by
  refine F.call0 sc_MemoryHandler_shouldFlush (fun vs H Q E h => ?_) (fun cdv A outer s0 H vs Q E hr h => ?_) (fun _ _ _ _ _ _ us hl => match us, hl with | [_, _], _ => rfl)
  · obtain ⟨h, dh, fi, y, mk, r, md, tv, xs, d, rfl, _⟩ := h; rfl
  obtain ⟨h, dh, fi, y, mk, r, md, tv, xs, d, rfl, hh, hmk, hR, hQ⟩ := h
  obtain ⟨dx, g, e, hr1, hg, he⟩ := id hR
  refine ⟨_, (pss_one (ps_ret (pe_or (pe_cmpR op_ge (pe_callB call_len (by rfl) T.b_len (by decide +kernel) (pa_cons (pe_fld (pv 0) rfl) pa_nil)) (pe_fld (pv 0) rfl) (nomark _)) (pe_one (pe_cmpR op_ge (pe_fld (pv 1) rfl) (pe_fld (pv 0) rfl) (nomark _)))))), ?_⟩
  walk_at "in"
  unfold memDue at hQ
  cases e1 : decide ((xs.length : Int) ≥ md.cap) with
  | true =>
    rw [e1, Bool.true_or] at hQ
    walk_at "go"
    exact hQ
  | false =>
    rw [e1, Bool.false_or] at hQ
    walk_at "go"
    exact hQ
/-- the filters of a handler -/
def FlAt (K : PySem.W.Frag) (H : Hp) (fi : Addr) (ns : List Str) : Prop := ∃ as : List Addr, H fi = some (.lst (as.map V.ref)) ∧ as.length = ns.length ∧ as.length ≤ 100 ∧ ∀ (k : Nat) (a : Addr), as[k]? = some a → ∃ n, ns[k]? = some n ∧ FilterAt K H a n
theorem FlAt.same {H H' : Hp} {fi : Addr} {ns : List Str} (s : Same H H') (e : FlAt K H fi ns) : FlAt K H' fi ns := by
  obtain ⟨as, h3, h4, h5, h6⟩ := e
  refine ⟨as, s _ _ h3, h4, h5, fun k a hk => ?_⟩
  obtain ⟨n, hn, hf⟩ := h6 k a hk
  exact ⟨n, hn, hf.same s⟩
end
end K17

set_option Elab.async false
set_option linter.all false
set_option maxRecDepth 100000
set_option maxHeartbeats 0

namespace K17
open PySem PySem.Spec PyProof.Rows L2 RC
section
variable {P : Program} {w : World} {K : PySem.W.Frag} {mg : Str → Option Value} {base : Heap}
/-! ### handlers made and set -/
def spMemInit (K : PySem.W.Frag) : Sp := fun vs H Q _ => ∃ (p dx y dy m : Addr) (cap least : Int) (tv : V) (fc : Bool) (fs : List (Str × V)) (xs : List V), vs = [.ref p, .ref y, .int cap, .int least, tv, .bl fc] ∧ H p = some (.ins (CM K) dx []) ∧ p ≠ y ∧ H y = some (.ins (CY K) dy fs) ∧ fs.lookup ("made" : Str) = some (.ref m) ∧ fs.lookup ("enrol" : Str) = none ∧ H m = some (.lst xs) ∧ xs.length ≤ 1000 ∧
  ∀ (H' : Hp) (l mk : Addr), (∀ b o, b ≠ p → b ≠ m → H b = some o → H' b = some o) → H l = none → H mk = none → l ≠ mk → H' p = some (.ins (CM K) dx (hdM l y ⟨cap, least, fc, [], none, 0⟩ tv mk)) → H' l = some (.lst []) → H' mk = some (.lst []) → H' m = some (.lst (xs ++ [.ref p])) → Q .non H'
theorem ok_mem_init {f : Addr} (T : Txt P w K mg) (F : Stands K "__init__" "MemoryHandler.__init__" s_MemoryHandler_init [.int 40, .non, .bl true] f) (c_Handler_init : Callable P w K mg base 2 (He.ma K (He.ga K "Handler") "__init__") ["self", "yard"] [] (spHandlerInit K)) :
    Callable P w K mg base 3 f ["self", "yard", "capacity", "flushLevel", "target", "flushOnClose"] [] (spMemInit K) := by
  refine F.call sc_MemoryHandler_init 6 3 (fun vs H Q E h => ?_) (fun cdv A outer s H vs Q E hr h => ?_) (fun z => nomatch z) fun _ => ⟨rfl, fun _ _ _ _ _ _ _ us its hl hi => match us, hl, its, hi with | [_, _, _, _, _, _], _, [_, _, _], _ => ⟨_, rfl, rfl⟩⟩
  · obtain ⟨p, dx, y, dy, m, cap, least, tv, fc, fs, xs, rfl, _⟩ := h; rfl
  obtain ⟨p, dx, y, dy, m, cap, least, tv, fc, fs, xs, rfl, hp, npy, hy, hm, he, hmm, hxs, hQ⟩ := h
  refine ⟨_, (pss_cons (ps_expr (pe_cf T.cf_Handler_init c_Handler_init (hr.mono (by first | decide | exact Nat.le_refl _)) (pe_glob (v := .ref _) (by rfl) T.g_Handler rfl) (pa_cons (pv 0) (pa_cons (pv 1) pa_nil))))
      (pss_cons (ps_fld (pv 0) (pv 2) rfl)
      (pss_cons (ps_fld (pv 0) (pv 3) rfl)
      (pss_cons (ps_fld (pv 0) (pv 4) rfl)
      (pss_cons (ps_fld (pv 0) (pv 5) rfl)
      (pss_one (ps_fld (pv 0) (pe_lst pa_nil) rfl))))))), ?_⟩
  have c : HCls K (CM K) := ⟨T.c_MemoryHandler, T.n_MemoryHandler_filters, T.n_MemoryHandler_yard, T.n_MemoryHandler_level, T.n_MemoryHandler_formatter, T.n_MemoryHandler_name, T.n_MemoryHandler_terminator, T.n_MemoryHandler_closed⟩
  refine ⟨rfl, _, rfl, _, rfl, p, _, dx, y, dy, m, fs, xs, rfl, hp, c, npy, hy, hm, he, hmm, hxs, fun H1 hM => ?_⟩
  obtain ⟨l, k1, k2, k3, k4, k5⟩ := hM
  have nlp : l ≠ p := fun z => by rw [z, hp] at k2; cases k2
  have npm : m ≠ p := fun z => by rw [z, hp] at hmm; cases hmm
  have nlm : l ≠ m := fun z => by rw [z, hmm] at k2; cases k2
  walk_at "in"
  refine seq_of (fun σ' H2 => σ' = L2.start nm_MemoryHandler_init [.ref p, .ref y, .int cap, .int least, tv, .bl fc] ∧ H2 = upd H1 p (.ins (CM K) dx (hF l y ++ ([("capacity", .int cap)] : List (Str × V))))) (fun b' kb => ?_) (fun σ' H2 hmid => ?_)
  · walk_at "go"
    exact kb _ _ ⟨rfl, rfl⟩
  obtain ⟨rfl, rfl⟩ := hmid
  walk_at "go"
  simp only [upd_upd]
  intro mk fm
  obtain ⟨fm1, fm2⟩ := upd_none fm
  have nmm : mk ≠ m := fun z => by rw [z, k5] at fm2; cases fm2
  have nml : mk ≠ l := fun z => by rw [z, k4] at fm2; cases fm2
  have fm0 : H mk = none := by
    cases e : H mk with
    | none => rfl
    | some o => rw [k1 _ _ fm1 nmm e] at fm2; cases fm2
  walk_at "go"
  refine hQ _ l mk (fun b o h1 h2 h3 => ?_) k2 fm0 (Ne.symm nml) upd_same ?_ ?_ ?_
  · rw [upd_ne h1, upd_ne (ne_of_none h3 fm0), upd_ne h1]; exact k1 _ _ h1 h2 h3
  · rw [upd_ne nlp, upd_ne (Ne.symm nml), upd_ne nlp]; exact k4
  · rw [upd_ne fm1]; exact upd_same
  · rw [upd_ne npm, upd_ne (Ne.symm nmm), upd_ne npm]; exact k5
def spSetLevel (K : PySem.W.Frag) : Sp := fun vs H Q _ => ∃ (h C dh fi y dy nu : Addr) (fs ys : List (Str × V)) (nums : List (Key × V)) (i : Int), vs = [.ref h, .int i] ∧ H h = some (.ins C dh fs) ∧ HCls K C ∧ fs.lookup ("yard" : Str) = some (.ref y) ∧ fs.length < 1000 ∧ H y = some (.ins (CY K) dy ys) ∧ ys.lookup ("numbers_of" : Str) = some (.ref nu) ∧ ys.lookup ("level_of" : Str) = none ∧ H nu = some (.dK nums) ∧ Q .non (upd H h (.ins C dh (putF "level" (.int i) fs)))
theorem ok_setLevel {f : Addr} (T : Txt P w K mg) (F : Stands K "setLevel" "Handler.setLevel" s_Handler_setLevel [] f) (c_Yard_level_of : Callable P w K mg base 2 (He.ma K (He.ga K "Yard") "level_of") ["self", "level"] [] (spLevelOf K)) : Callable P w K mg base 3 f ["self", "level"] [] (spSetLevel K) := by
  refine F.call0 sc_Handler_setLevel (fun vs H Q E h => ?_) (fun cdv A outer s0 H vs Q E hr h => ?_) (fun _ _ _ _ _ _ us hl => match us, hl with | [_, _], _ => rfl)
  · obtain ⟨h, C, dh, fi, y, dy, nu, fs, ys, nums, i, rfl, _⟩ := h; rfl
  obtain ⟨h, C, dh, fi, y, dy, nu, fs, ys, nums, i, rfl, hh, hc, hfy, hfl, hy, hnu, hlo, hn, hQ⟩ := h
  refine ⟨_, (pss_one (ps_fld (pv 0) (pe_mt T.c_Yard T.m_Yard_level_of c_Yard_level_of (hr.mono (by first | decide | exact Nat.le_refl _)) (pe_fld (pv 0) rfl) (pa_cons (pv 1) pa_nil)) rfl)), ?_⟩
  walk_at "in"
  refine ⟨_, rfl, h, _, dh, fs, _, rfl, hh, hc.c, hc.n2, hfy, y, dy, ys, rfl, hy, hlo, _, rfl, y, dy, nu, ys, nums, .int i, .int i, rfl, hy, hnu, hn, rfl, ?_⟩
  exact ⟨_, rfl, h, _, dh, fs, rfl, hh, hc.c, hc.n3, hfl, hQ⟩
def spSetFm (K : PySem.W.Frag) : Sp := fun vs H Q _ => ∃ (h dh : Addr) (fs : List (Str × V)) (v : V), vs = [.ref h, v] ∧ H h = some (.ins (CS K) dh fs) ∧ fs.length < 1000 ∧ Q .non (upd H h (.ins (CS K) dh (putF "formatter" v fs)))
theorem ok_setFm {f : Addr} (T : Txt P w K mg) (F : Stands K "setFormatter" "Handler.setFormatter" s_Handler_setFormatter [] f) : Callable P w K mg base 1 f ["self", "formatter"] [] (spSetFm K) := by
  refine F.call0 sc_Handler_setFormatter (fun vs H Q E h => ?_) (fun cdv A outer s0 H vs Q E hr h => ?_) (fun _ _ _ _ _ _ us hl => match us, hl with | [_, _], _ => rfl)
  · obtain ⟨h, dh, fs, v, rfl, _⟩ := h; rfl
  obtain ⟨h, dh, fs, v, rfl, hh, hfl, hQ⟩ := h
  refine ⟨_, (pss_one (ps_fld (pv 0) (pv 1) rfl)), ?_⟩
  walk_at "in"
  exact ⟨_, rfl, _, rfl, h, _, dh, fs, rfl, hh, T.c_StreamHandler, T.n_StreamHandler_formatter, hfl, hQ⟩
end
end K17

set_option Elab.async false
set_option linter.all false
set_option maxRecDepth 100000
set_option maxHeartbeats 0
namespace K17
open PySem PySem.Spec PyProof.Rows L2 RC
section
variable {P : Program} {w : World} {K : PySem.W.Frag} {mg : Str → Option Value} {base : Heap}
/-! ### the law's pick, its rows -/
theorem stm_new {H : Hp} {s l D : Addr} {n : Nat} (h : Stm H s l n) (hD : H D = none) : D ≠ s ∧ D ≠ l :=
  ⟨fun z => (by obtain ⟨_, _, _, _, _, z1, _⟩ := h; rw [z, z1] at hD; cases hD), fun z => (by obtain ⟨_, _, _, _, _, _, z1, _⟩ := h; rw [z, z1] at hD; cases hD)⟩
theorem old_new {s l D : Addr} {H H' : Hp} {o : HO} (h : Old s l H H') (hD : H D = none) : Old s l H (upd H' D o) := fun b u h1 h2 e => by rw [upd_ne (ne_of_none e hD)]; exact h b u h1 h2 e
def spPick (K : PySem.W.Frag) : Sp := fun vs H Q _ => ∃ (s l p : Addr) (n : Nat) (xs : List V), vs = [.ref s, .ref p] ∧ Stm H s l n ∧ n ≤ 1000000 ∧ p ≠ s ∧ p ≠ l ∧ H p = some (.lst xs) ∧ 1 ≤ xs.length ∧ xs.length ≤ 1000 ∧ ∀ (H' : Hp) (x : V), Old s l H H' → Stm H' s l (n + 1) → x ∈ xs → Q x H'
theorem ok_pick {f : Addr} (T : Txt P w K mg) (F : Stands K "_law_pick" "_law_pick" s__law_pick [] f) (c__law_draw : Callable P w K mg base 1 (He.ga K "_law_draw") ["_law_stream", "_law_many"] [] spDraw) : Callable P w K mg base 2 f ["_law_stream", "_law_some"] [] (spPick K) := by
  refine F.call0 sc__law_pick (fun vs H Q E h => ?_) (fun cdv A outer s H vs Q E hr h => ?_) (fun _ _ _ _ _ _ us hl => match us, hl with | [_, _], _ => rfl)
  · obtain ⟨s, l, p, n, xs, rfl, _⟩ := h; rfl
  obtain ⟨s, l, p, n, xs, rfl, hs, hn, nps, npl, hp, hx1, hx2, hQ⟩ := h
  refine ⟨_, (pss_one (ps_ret (pe_ix ix_list (pv 1) (pe_fn T.g__law_draw c__law_draw (hr.mono (by first | decide | exact Nat.le_refl _)) (by rfl) (pa_cons (pv 0) (pa_cons (pe_callB call_len (by rfl) T.b_len (by decide +kernel) (pa_cons (pv 1) pa_nil)) pa_nil))) (fun _ _ => rfl)))), ?_⟩
  refine ⟨_, rfl, _, rfl, _, rfl, _, xs.length, rfl, .inl ⟨xs, SqL.of hp, rfl⟩, s, l, n, xs.length, rfl, hs, hn, by omega, by omega, fun H' d h1 h2 h3 h4 => ?_⟩
  obtain ⟨j, rfl⟩ := Int.eq_ofNat_of_zero_le h3
  have hj : j < xs.length := by omega
  refine ⟨p, xs, j, xs[j], rfl, rfl, SqL.of (h1 _ _ nps npl hp), atI_nat (by simp [hj]), ?_⟩
  exact hQ H' _ h1 h2 (List.getElem_mem hj)
/-- the forms that the law draws -/
inductive Fm
  | no | nm | lv | gm | mg
def Fm.v : Fm → V
  | .no => .non
  | .nm => .str "{name}:{message}"
  | .lv => .str "{levelno};"
  | .gm => .str "{gone}{message}"
  | .mg => .str "{message}{gone}"
def Fm.fo : Fm → Option (List (Str ⊕ Str))
  | .no => none
  | .nm => some [.inr "name", .inl ":", .inr "message"]
  | .lv => some [.inr "levelno", .inl ";"]
  | .gm => some [.inr "gone", .inr "message"]
  | .mg => some [.inr "message", .inr "gone"]
/-- what is written in a form -/
def Fm.out (f : Fm) (d : Rc) : TxO := match f with
  | .no => if d.ns = [] then .tx d.msg.cps.toList else .msg
  | .nm => if d.ns = [] then .tx (d.name.cps.toList ++ ((":" : Str).cps.toList ++ d.msg.cps.toList)) else .msg
  | .lv => .tx ((Str.ofString (toString d.lv)).cps.toList ++ (";" : Str).cps.toList)
  | .gm => .fld "gone"
  | .mg => if d.ns = [] then .fld "gone" else .msg
/-- the records that the law makes -/
structure LRc (d : Rc) : Prop where
  ok : d.Ok
  nm : d.name.length ≤ 10
  ms : d.msg.length ≤ 40
  ns : d.ns = [] ∨ d.ns = [1]
  pl : ∀ c ∈ d.msg.cps.toList, c ≠ 123 ∧ c ≠ 125
theorem LRc.msg {d : Rc} (h : LRc d) : MsgO d (if d.ns = [] then some d.msg.cps.toList else none) := by
  by_cases e : d.ns = []
  · rw [if_pos e]; exact .inl ⟨e, rfl⟩
  · rw [if_neg e]; exact .inr ⟨e, PM.plain h.pl fun z => e (List.map_eq_nil_iff.mp (List.map_eq_nil_iff.mp z))⟩
theorem LRc.fmsg {d : Rc} (h : LRc d) : FldO d "message" (if d.ns = [] then .tx d.msg.cps.toList else .msg) := by
  have m := h.msg
  by_cases e : d.ns = []
  · rw [if_pos e] at m ⊢; exact .msgT rfl m
  · rw [if_neg e] at m ⊢; exact .msgE rfl m
theorem LRc.gone {d : Rc} : FldO d "gone" (.fld "gone") := .bad (by decide +kernel) (by decide +kernel)
theorem LRc.name {d : Rc} : FldO d "name" (.tx d.name.cps.toList) := FldO.val (v := .str d.name) (by decide +kernel) rfl (by decide +kernel)
theorem LRc.lvno {d : Rc} : FldO d "levelno" (.tx (Str.ofString (toString d.lv)).cps.toList) := FldO.val (v := .int d.lv) (by decide +kernel) rfl (by decide +kernel)
theorem Fm.out_ok (f : Fm) {d : Rc} (h : LRc d) : HfO d f.fo (f.out d) := by
  have hm := h.msg
  have hf := h.fmsg
  have e0 : ∀ t : SS, t = t ++ [] := fun t => (List.append_nil t).symm
  cases f with
  | no =>
    show HfO d none (if d.ns = [] then .tx d.msg.cps.toList else .msg)
    by_cases e : d.ns = []
    · rw [if_pos e] at hm ⊢; exact .msgT hm
    · rw [if_neg e] at hm ⊢; exact .msgE hm
  | nm =>
    refine .fm ?_
    show FmO d _ (if d.ns = [] then .tx (d.name.cps.toList ++ ((":" : Str).cps.toList ++ d.msg.cps.toList)) else .msg)
    by_cases e : d.ns = []
    · rw [if_pos e] at hf ⊢
      rw [e0 d.msg.cps.toList]
      exact FmO.val (o := .tx ((":" : Str).cps.toList ++ (d.msg.cps.toList ++ []))) LRc.name (FmO.txt (o := .tx (d.msg.cps.toList ++ [])) (FmO.val (o := .tx []) hf .nil))
    · rw [if_neg e] at hf ⊢
      exact FmO.val (o := .msg) LRc.name (FmO.txt (o := .msg) (FmO.msg hf))
  | lv =>
    refine .fm ?_
    show FmO d _ (.tx ((Str.ofString (toString d.lv)).cps.toList ++ (";" : Str).cps.toList))
    rw [e0 (";" : Str).cps.toList]
    exact FmO.val (o := .tx ((";" : Str).cps.toList ++ [])) LRc.lvno (FmO.txt (o := .tx []) .nil)
  | gm => exact .fm (FmO.fld LRc.gone)
  | mg =>
    refine .fm ?_
    show FmO d _ (if d.ns = [] then .fld "gone" else .msg)
    by_cases e : d.ns = []
    · rw [if_pos e] at hf ⊢
      exact FmO.val (o := .fld "gone") hf (FmO.fld LRc.gone)
    · rw [if_neg e] at hf ⊢
      exact FmO.msg hf
theorem tlen (z : Str) : z.cps.toList.length = z.length := Array.length_toList ..
theorem int_len {i : Int} (h : i.natAbs < 2 ^ 63) : (Str.ofString (toString i)).length ≤ 70 := by
  have h1 := RN.len_toString i
  have h64 : i.natAbs.log2 < 63 := by
    by_cases c : i.natAbs = 0
    · rw [c]; decide
    · exact (Nat.log2_lt c).mpr h
  omega
theorem Fm.out_len (f : Fm) {d : Rc} (h : LRc d) : ∀ t, f.out d = .tx t → t.length ≤ 1000 := fun t e => by
  have h1 := h.nm
  have h2 := h.ms
  have h3 := int_len h.ok.l
  have e1 : (":" : Str).cps.toList.length = 1 := by decide +kernel
  have e2 : (";" : Str).cps.toList.length = 1 := by decide +kernel
  cases f with
  | no =>
    by_cases c : d.ns = []
    · have e' : TxO.tx d.msg.cps.toList = .tx t := by rw [← e]; exact (if_pos c).symm
      cases e'; rw [tlen]; omega
    · have e' : TxO.msg = .tx t := by rw [← e]; exact (if_neg c).symm
      cases e'
  | nm =>
    by_cases c : d.ns = []
    · have e' : TxO.tx (d.name.cps.toList ++ ((":" : Str).cps.toList ++ d.msg.cps.toList)) = .tx t := by rw [← e]; exact (if_pos c).symm
      cases e'; rw [List.length_append, List.length_append, tlen, tlen d.msg, e1]; omega
    · have e' : TxO.msg = .tx t := by rw [← e]; exact (if_neg c).symm
      cases e'
  | lv =>
    have e' : TxO.tx ((Str.ofString (toString d.lv)).cps.toList ++ (";" : Str).cps.toList) = .tx t := e
    cases e'; rw [List.length_append, e2, tlen]; omega
  | gm => cases e
  | mg =>
    by_cases c : d.ns = []
    · have e' : TxO.fld "gone" = .tx t := by rw [← e]; exact (if_pos c).symm
      cases e'
    · have e' : TxO.msg = .tx t := by rw [← e]; exact (if_neg c).symm
      cases e'
/-- the parts of the forms, as they are made -/
def Fm.z : Fm → Str
  | .no => ""
  | .nm => "{name}:{message}"
  | .lv => "{levelno};"
  | .gm => "{gone}{message}"
  | .mg => "{message}{gone}"
end
end K17

set_option Elab.async false
set_option linter.all false
set_option maxRecDepth 100000
set_option maxHeartbeats 0

namespace K17
open PySem PySem.Spec PyProof.Rows L2 RC
section
variable {P : Program} {w : World} {K : PySem.W.Frag} {mg : Str → Option Value} {base : Heap}
/-! ### what the law writes of a record -/
/-- the law's row of a record -/
def rcD (d : Rc) (r : Addr) : List (Key × V) := [(Sum.inr "name", .str d.name), (Sum.inr "level", .int d.lv), (Sum.inr "text", .str d.msg), (Sum.inr "bad", .bl (decide (d.ns ≠ []))), (Sum.inr "it", .ref r)]
def shT : TxO → List V
  | .tx s => [.str (tx s), .non]
  | .msg => [.non, .str "message"]
  | .fld _ => [.non, .str "field"]
def spShaped : Sp := fun vs H Q _ => ∃ (f : Fm) (q r : Addr) (d : Rc), vs = [f.v, .ref q] ∧ H q = some (.dK (rcD d r)) ∧ LRc d ∧ ∀ (t : Addr) (H' : Hp), Same H H' → H t = none → H' t = some (.tup (shT (f.out d))) → Q (.ref t) H'
theorem ok_shaped {f : Addr} (T : Txt P w K mg) (F : Stands K "_law_shaped" "_law_shaped" s__law_shaped [] f) : Callable P w K mg base 1 f ["_law_form", "_law_record_here"] [] spShaped := by
  refine F.call0 sc__law_shaped (fun vs H Q E h => ?_) (fun cdv A outer s H vs Q E hr h => ?_) (fun _ _ _ _ _ _ us hl => match us, hl with | [_, _], _ => rfl)
  · obtain ⟨fm, q, r, d, rfl, _⟩ := h; rfl
  obtain ⟨fm, q, r, d, rfl, hq, hL, hQ⟩ := h
  refine ⟨_, (pss_cons (ps_set (i := 2) sc__law_shaped.nd rfl (by first | exact Or.inl rfl | exact Or.inr rfl) (pe_disp (pps_cons pe_str (pe_op op_add_str (pe_callTy call_str_int (by rfl) T.b_str (by decide +kernel) (pa_cons (pe_dget (hu_of hr) (pv 1) pe_str (fun _ _ => rfl)) pa_nil)) pe_str) (pps_cons pe_str (pe_op op_add_str (pe_callTy call_str_int (by rfl) T.b_str (by decide +kernel) (pa_cons (pe_dget (hu_of hr) (pv 1) pe_str (fun _ _ => rfl)) pa_nil)) pe_str) (pps_cons pe_str pe_str pps_nil))) (by rfl) (by rfl) (fun z => by cases z) (by decide)))
      (pss_cons (ps_if (pt_cmp (L2.pc_dinN (hu_of hr) (pv 0) (pv 2))) (pss_one (ps_ret (pe_tup (pa_cons (pe_dget (hu_of hr) (pv 2) (pv 0) (fun _ _ => rfl)) (pa_cons pe_non pa_nil))))) pss_nil)
      (pss_cons (ps_if (PW.pt (pw_and (pt_val (pe_dget (hu_of hr) (pv 1) pe_str (fun _ _ => rfl))) (pw_and1 (pt_cmpR op_ne (pv 0) pe_str (nomark _))))) (pss_one (ps_ret (pe_tup (pa_cons pe_non (pa_cons pe_str pa_nil))))) pss_nil)
      (pss_cons (ps_if (pt_cmpR op_in_seq (pv 0) (pe_tup (pa_cons pe_str (pa_cons pe_str pa_nil))) (by rfl)) (pss_one (ps_ret (pe_tup (pa_cons pe_non (pa_cons pe_str pa_nil))))) pss_nil)
      (pss_cons (ps_set (i := 3) sc__law_shaped.nd rfl (by first | exact Or.inl rfl | exact Or.inr rfl) (pe_disp (pps_cons pe_str (pe_op op_add_str (pe_dget (hu_of hr) (pv 1) pe_str (fun _ _ => rfl)) pe_str) (pps_cons pe_str pe_str (pps_cons pe_str pe_str pps_nil))) (by rfl) (by rfl) (fun z => by cases z) (by decide)))
      (pss_one (ps_ret (pe_tup (pa_cons (pe_op op_add_str (RZN.pe_dgetN2 (hu_of hr) (pv 3) (pv 0) pe_str ⟨rfl, rfl, rfl, rfl⟩) (pe_dget (hu_of hr) (pv 1) pe_str (fun _ _ => rfl))) (pa_cons pe_non pa_nil)))))))))), ?_⟩
  walk_at "in"
  have hl2 : d.lv.natAbs.log2 < 1920 := by
    by_cases c : d.lv.natAbs = 0
    · rw [c]; decide
    · have := (Nat.log2_lt c).mpr hL.ok.l; omega
  have l3 := int_len hL.ok.l
  have l4 : (Str.ofString (toString d.lv)).length + (Str.ofString ";").length ≤ sizeLine := by
    have e : (Str.ofString ";").length = 1 := by decide +kernel
    rw [e, sizeLine_eq]; omega
  have sN : ∀ {H1 : Hp}, Same H H1 → H1 q = some (.dK (rcD d r)) := fun s => s _ _ hq
  walk_at "go"
  intro p fp
  walk_at "go"
  generalize hH1 : upd (upd H p _) p _ = H1
  have s1 : Same H H1 := by rw [← hH1, upd_upd]; exact same_new fp _
  have hp1 : H1 p = some (.dK [(Sum.inr "{levelno};", .str (Str.ofString (toString d.lv) ++ ";")), (Sum.inr "$levelno;", .str (Str.ofString (toString d.lv) ++ ";")), (Sum.inr "plain", .str "plain")]) := by rw [← hH1]; exact upd_same
  clear hH1
  have hq1 := s1 _ _ hq
  have eT : Str.ofString (toString d.lv) ++ (";" : Str) = tx ((Str.ofString (toString d.lv)).cps.toList ++ (";" : Str).cps.toList) := by
    refine TL.ext_tl ?_; rw [TL.tl_append]
  have eN : d.name ++ (":" : Str) ++ d.msg = tx (d.name.cps.toList ++ ((":" : Str).cps.toList ++ d.msg.cps.toList)) := by
    refine TL.ext_tl ?_; rw [TL.tl_append, TL.tl_append, List.append_assoc]
  have eM : ("" : Str) ++ d.msg = tx d.msg.cps.toList := by
    refine TL.ext_tl ?_; rw [TL.tl_append]; rfl
  have n1 := hL.nm
  have n2 := hL.ms
  have e1 : (Str.ofString ":").length = 1 := by decide +kernel
  have m1 : d.name.length + (Str.ofString ":").length ≤ sizeLine := by rw [e1, sizeLine_eq]; omega
  have m2 : (d.name ++ Str.ofString ":").length + d.msg.length ≤ sizeLine := by rw [len_app, e1, sizeLine_eq]; omega
  have m3 : (Str.ofString "").length + d.msg.length ≤ sizeLine := by
    have e2 : (Str.ofString "").length = 0 := by decide +kernel
    rw [e2, sizeLine_eq]; omega
  by_cases c : d.ns = []
  · have tb : decide (d.ns ≠ []) = false := decide_eq_false fun z => z c
    cases fm with
    | no =>
      dsimp only [Fm.v]
      walk_at "go"
      refine Or.inr ⟨p, _, rfl, rfl, .inl hp1, _, rfl, iteF ?_⟩
      walk_at "go"
      intro t1 ft1
      have s2 := same_new ft1 (.tup [.str "{gone}{message}", .str "{message}{gone}"])
      have ht1 := upd_same (H := H1) (a := t1) (o := .tup [.str "{gone}{message}", .str "{message}{gone}"])
      generalize upd H1 t1 (.tup [.str "{gone}{message}", .str "{message}{gone}"]) = H2 at s2 ht1 ⊢
      have hq2 := s2 _ _ hq1
      have s12 := s1.trans s2
      refine ⟨t1, _, rfl, .inr (SqT.of ht1), rfl, rfl, _, rfl, ?_⟩
      refine iteF' (by decide +kernel) ?_
      walk_at "go"
      intro p2 fp2
      walk_at "go"
      generalize hH3 : upd (upd H2 p2 _) p2 _ = H3
      have s3 : Same H2 H3 := by rw [← hH3, upd_upd]; exact same_new fp2 _
      have hp3 : H3 p2 = some (.dK [(Sum.inr "{name}:{message}", .str (d.name ++ ":")), (Sum.inr "x{message}", .str "x"), (Sum.inr "d{message}", .str "d")]) := by rw [← hH3]; exact upd_same
      clear hH3
      have hq3 := s3 _ _ hq2
      have s13 := s12.trans s3
      refine Or.inr ⟨_, rfl, .inl hp3, ?_⟩
      walk_at "go"
      intro t ft
      refine hQ t _ (s13.trans (same_new ft _)) (s13.free ft) ?_
      rw [upd_same]
      show _ = some (HO.tup (shT (if d.ns = [] then .tx d.msg.cps.toList else .msg)))
      rw [if_pos c, eM]; rfl
    | nm =>
      dsimp only [Fm.v]
      walk_at "go"
      refine Or.inl ?_
      walk_at "go"
      intro t1 ft1
      have s2 := same_new ft1 (.tup [.str "{gone}{message}", .str "{message}{gone}"])
      have ht1 := upd_same (H := H1) (a := t1) (o := .tup [.str "{gone}{message}", .str "{message}{gone}"])
      generalize upd H1 t1 (.tup [.str "{gone}{message}", .str "{message}{gone}"]) = H2 at s2 ht1 ⊢
      have hq2 := s2 _ _ hq1
      have s12 := s1.trans s2
      refine ⟨t1, _, rfl, .inr (SqT.of ht1), rfl, rfl, _, rfl, ?_⟩
      refine iteF' (by decide +kernel) ?_
      walk_at "go"
      intro p2 fp2
      walk_at "go"
      generalize hH3 : upd (upd H2 p2 _) p2 _ = H3
      have s3 : Same H2 H3 := by rw [← hH3, upd_upd]; exact same_new fp2 _
      have hp3 : H3 p2 = some (.dK [(Sum.inr "{name}:{message}", .str (d.name ++ ":")), (Sum.inr "x{message}", .str "x"), (Sum.inr "d{message}", .str "d")]) := by rw [← hH3]; exact upd_same
      clear hH3
      have hq3 := s3 _ _ hq2
      have s13 := s12.trans s3
      refine Or.inl ?_
      walk_at "go"
      intro t ft
      refine hQ t _ (s13.trans (same_new ft _)) (s13.free ft) ?_
      rw [upd_same]
      show _ = some (HO.tup (shT (if d.ns = [] then .tx (d.name.cps.toList ++ ((":" : Str).cps.toList ++ d.msg.cps.toList)) else .msg)))
      rw [if_pos c]
      exact congrArg (fun z => some (HO.tup [V.str z, V.non])) eN
    | lv =>
      dsimp only [Fm.v]
      walk_at "go"
      refine Or.inl ?_
      walk_at "go"
      intro t ft
      refine hQ t _ (s1.trans (same_new ft _)) (s1.free ft) ?_
      rw [upd_same]
      exact congrArg (fun z => some (HO.tup [V.str z, V.non])) eT
    | gm =>
      dsimp only [Fm.v]
      walk_at "go"
      refine Or.inl ?_
      walk_at "go"
      intro t1 ft1
      have s2 := same_new ft1 (.tup [.str "{gone}{message}", .str "{message}{gone}"])
      have ht1 := upd_same (H := H1) (a := t1) (o := .tup [.str "{gone}{message}", .str "{message}{gone}"])
      generalize upd H1 t1 (.tup [.str "{gone}{message}", .str "{message}{gone}"]) = H2 at s2 ht1 ⊢
      have hq2 := s2 _ _ hq1
      have s12 := s1.trans s2
      refine ⟨t1, _, rfl, .inr (SqT.of ht1), rfl, rfl, _, rfl, ?_⟩
      refine iteT' (by decide +kernel) ?_
      walk_at "go"
      intro t ft
      exact hQ t _ (s12.trans (same_new ft _)) (s12.free ft) upd_same
    | mg =>
      dsimp only [Fm.v]
      walk_at "go"
      refine Or.inl ?_
      walk_at "go"
      intro t1 ft1
      have s2 := same_new ft1 (.tup [.str "{gone}{message}", .str "{message}{gone}"])
      have ht1 := upd_same (H := H1) (a := t1) (o := .tup [.str "{gone}{message}", .str "{message}{gone}"])
      generalize upd H1 t1 (.tup [.str "{gone}{message}", .str "{message}{gone}"]) = H2 at s2 ht1 ⊢
      have hq2 := s2 _ _ hq1
      have s12 := s1.trans s2
      refine ⟨t1, _, rfl, .inr (SqT.of ht1), rfl, rfl, _, rfl, ?_⟩
      refine iteT' (by decide +kernel) ?_
      walk_at "go"
      intro t ft
      refine hQ t _ (s12.trans (same_new ft _)) (s12.free ft) ?_
      rw [upd_same]
      show _ = some (HO.tup (shT (if d.ns = [] then .fld "gone" else .msg)))
      rw [if_pos c]; rfl
  · have tb : decide (d.ns ≠ []) = true := decide_eq_true c
    cases fm with
    | no =>
      dsimp only [Fm.v]
      walk_at "go"
      refine Or.inr ⟨p, _, rfl, rfl, .inl hp1, _, rfl, iteF ?_⟩
      walk_at "go"
      intro t ft
      refine hQ t _ (s1.trans (same_new ft _)) (s1.free ft) ?_
      rw [upd_same]
      show _ = some (HO.tup (shT (if d.ns = [] then .tx d.msg.cps.toList else .msg)))
      rw [if_neg c]; rfl
    | nm =>
      dsimp only [Fm.v]
      have tn : (!decide (V.str (Str.ofString "{name}:{message}") = V.str (Str.ofString "{gone}{message}"))) = true := by decide +kernel
      walk_at "go"
      refine Or.inl ?_
      walk_at "go"
      intro t ft
      refine hQ t _ (s1.trans (same_new ft _)) (s1.free ft) ?_
      rw [upd_same]
      show _ = some (HO.tup (shT (if d.ns = [] then .tx (d.name.cps.toList ++ ((":" : Str).cps.toList ++ d.msg.cps.toList)) else .msg)))
      rw [if_neg c]; rfl
    | lv =>
      dsimp only [Fm.v]
      walk_at "go"
      refine Or.inl ?_
      walk_at "go"
      intro t ft
      refine hQ t _ (s1.trans (same_new ft _)) (s1.free ft) ?_
      rw [upd_same]
      exact congrArg (fun z => some (HO.tup [V.str z, V.non])) eT
    | gm =>
      dsimp only [Fm.v]
      have tn : (!decide (V.str (Str.ofString "{gone}{message}") = V.str (Str.ofString "{gone}{message}"))) = false := by decide +kernel
      walk_at "go"
      refine Or.inl ?_
      walk_at "go"
      intro t1 ft1
      have s2 := same_new ft1 (.tup [.str "{gone}{message}", .str "{message}{gone}"])
      have ht1 := upd_same (H := H1) (a := t1) (o := .tup [.str "{gone}{message}", .str "{message}{gone}"])
      generalize upd H1 t1 (.tup [.str "{gone}{message}", .str "{message}{gone}"]) = H2 at s2 ht1 ⊢
      have hq2 := s2 _ _ hq1
      have s12 := s1.trans s2
      refine ⟨t1, _, rfl, .inr (SqT.of ht1), rfl, rfl, _, rfl, ?_⟩
      refine iteT' (by decide +kernel) ?_
      walk_at "go"
      intro t ft
      exact hQ t _ (s12.trans (same_new ft _)) (s12.free ft) upd_same
    | mg =>
      dsimp only [Fm.v]
      have tn : (!decide (V.str (Str.ofString "{message}{gone}") = V.str (Str.ofString "{gone}{message}"))) = true := by decide +kernel
      walk_at "go"
      refine Or.inl ?_
      walk_at "go"
      intro t ft
      refine hQ t _ (s1.trans (same_new ft _)) (s1.free ft) ?_
      rw [upd_same]
      show _ = some (HO.tup (shT (if d.ns = [] then .fld "gone" else .msg)))
      rw [if_neg c]; rfl
def spLetByL : Sp := fun vs H Q _ => ∃ (p : Addr) (ns : List Str) (nm : Str), vs = [.ref p, .str nm] ∧ H p = some (.lst (ns.map V.str)) ∧ ns.length ≤ 100 ∧ (∀ n ∈ ns, n.length ≤ 1000) ∧ ∀ H', Same H H' → Q (.bl (lets ns nm)) H'
theorem ok_letby {f : Addr} (T : Txt P w K mg) (F : Stands K "_law_let_by" "_law_let_by" s__law_let_by [] f) : Callable P w K mg base 1 f ["_law_names", "_law_name"] [] spLetByL := by
  refine F.call0 sc__law_let_by (fun vs H Q E h => ?_) (fun cdv A outer s H vs Q E hr h => ?_) (fun _ _ _ _ _ _ us hl => match us, hl with | [_, _], _ => rfl)
  · obtain ⟨p, ns, nm, rfl, _⟩ := h; rfl
  obtain ⟨p, ns, nm, rfl, hp, hl, hn, hQ⟩ := h
  refine ⟨_, (pss_one (ps_ret (pe_callB (cr_all rfl) (by rfl) T.b_all (by decide +kernel) (pa_cons (pe_lc (own := [("_law_one", 2)]) (by rfl) sc__law_let_by.nd (pi_list (pv 0)) (blkOk_by (own := [("_law_one", 2)]) (N := nm__law_let_by) (sc := defScope s__law_let_by) (by decide +kernel)) (fun _ _ _ _ _ => (pg_name (i := 2) sc__law_let_by.nd rfl (by first | exact Or.inl rfl | exact Or.inr rfl))) (fun _ _ _ _ _ => pts_nil) (fun _ _ _ _ _ => (pe_or (pe_cmpR op_eq (pv 2) pe_str (nomark _)) (pe_or (pe_cmpR op_eq (pv 1) (pv 2) (nomark _)) (pe_one (pe_m1 PySem.F.slot_str_startswith PySem.F.type_str_startswith mt_startswith (pv 1) (pe_op op_add_str (pv 2) pe_str))))))) pa_nil)))), ?_⟩
  walk_at "in"
  walk_at "go"
  intro D hD
  refine lc_it (walk_list (xs := ns.map V.str)) (fun i H' => Same H H' ∧ H' D = some (.lst (((ns.take i).map fun n => V.bl (passB nm n))))) ⟨same_new hD _, upd_same⟩ (fun i H' _ h => SqL.of (h.1 _ _ hp)) (fun i x H2 H3 hi hP hy => ?_) (fun H2 hP => ?_)
  · obtain ⟨rfl, hy⟩ := hy
    obtain ⟨s2, d2⟩ := hP
    rw [List.getElem?_map] at hy
    obtain ⟨n, hn1, rfl⟩ := Option.map_eq_some_iff.mp hy
    have hm := hn n (List.mem_of_getElem? hn1)
    have hz : n.length + (Str.ofString ".").length ≤ sizeLine := by
      have e : (Str.ofString ".").length = 1 := by decide +kernel
      rw [e, sizeLine_eq]; omega
    have hll : ((ns.take i).map fun n => V.bl (passB nm n)).length < sizeLine := by
      rw [List.length_map, List.length_take, sizeLine_eq]; omega
    have fin : ∀ b, b = passB nm n → Same H (upd H3 D (.lst (((ns.take i).map fun n => V.bl (passB nm n)) ++ [V.bl b]))) ∧ upd H3 D (.lst (((ns.take i).map fun n => V.bl (passB nm n)) ++ [V.bl b])) D = some (.lst ((ns.take (i + 1)).map fun n => V.bl (passB nm n))) := fun b hb => by
      refine ⟨fun c o hc => (by rw [upd_ne (ne_of_none hc hD)]; exact s2 _ _ hc), ?_⟩
      rw [upd_same, take_more hn1, List.map_append, hb]; rfl
    by_cases c1 : n = ""
    · have t1 : decide (V.str n = V.str (Str.ofString "")) = true := decide_eq_true (congrArg V.str c1)
      walk_at "go"
      exact (fin true (by unfold passB; rw [decide_eq_true c1]; rfl)).2
    · have t1 : decide (V.str n = V.str (Str.ofString "")) = false := decide_eq_false fun z => c1 (V.str.inj z)
      by_cases c2 : nm = n
      · have t2 : decide (V.str nm = V.str n) = true := decide_eq_true (congrArg V.str c2)
        walk_at "go"
        exact (fin true (by unfold passB belowB; rw [decide_eq_true c2]; simp)).2
      · have t2 : decide (V.str nm = V.str n) = false := decide_eq_false fun z => c2 (V.str.inj z)
        walk_at "go"
        refine ⟨⟨_, rfl⟩, ?_⟩
        walk_at "go"
        exact (fin (Txt.startswith nm (n ++ ".")) (by unfold passB belowB; rw [decide_eq_false c1, decide_eq_false c2, Bool.false_or, Bool.false_or])).2
  · obtain ⟨s2, d2⟩ := hP
    rw [List.length_map, List.take_length] at d2
    have e : (ns.map fun n => V.bl (passB nm n)) = (ns.map fun n => passB nm n).map V.bl := by rw [List.map_map]; rfl
    rw [e] at d2
    refine ⟨D, ns.map fun n => passB nm n, rfl, SqL.of d2, ?_⟩
    have e2 : ((ns.map fun n => passB nm n).all id) = lets ns nm := by unfold lets; rw [List.all_map]; rfl
    rw [e2]
    exact hQ _ s2
end
end K17

set_option Elab.async false
set_option linter.all false
set_option maxRecDepth 100000
set_option maxHeartbeats 0

namespace K17
open PySem PySem.Spec PyProof.Rows L2 RC
section
variable {P : Program} {w : World} {K : PySem.W.Frag} {mg : Str → Option Value} {base : Heap}
/-! ### what the law keeps -/
/-- the law's model at m: its handlers hl, its texts lt, its failures lf -/
structure LSt (H : Hp) (m hl lt lf : Addr) (ts fs : List (Str × Str)) : Prop where
  m_ : H m = some (.dK [(Sum.inr "handlers", .ref hl), (Sum.inr "texts", .ref lt), (Sum.inr "failures", .ref lf)])
  lt_ : H lt = some (.dK (strK ts))
  lf_ : FrAt H lf fs
  ne : m ≠ lt
theorem LSt.same {H H' : Hp} {m hl lt lf : Addr} {ts fs : List (Str × Str)} (s : Same H H') (h : LSt H m hl lt lf ts fs) : LSt H' m hl lt lf ts fs := ⟨s _ _ h.m_, s _ _ h.lt_, h.lf_.same s, h.ne⟩
theorem LSt.chg {H H' : Hp} {m hl lt lf : Addr} {ts fs : List (Str × Str)} {ms : List Addr} (c : Chg ms H H') (n1 : lt ∉ ms) (n2 : lf ∉ ms) (n3 : m ∉ ms) (n4 : ∀ p xs, p ∈ ms → H p ≠ some (.tup xs)) (h : LSt H m hl lt lf ts fs) : LSt H' m hl lt lf ts fs := by
  obtain ⟨h1, h2, ⟨ps, h3, h4⟩, h5⟩ := h
  exact ⟨c _ _ n3 h1, c _ _ n1 h2, ⟨ps, c _ _ n2 h3, h4.to fun p xs e => c _ _ (fun z => n4 p xs z e) e⟩, h5⟩
section
variable {H : Hp} {m hl lt lf q : Addr} {ts fs : List (Str × Str)}
theorem LSt.put (h : LSt H m hl lt lf ts fs) (ts' : List (Str × Str)) : LSt (upd H lt (.dK (strK ts'))) m hl lt lf ts' fs := by
  obtain ⟨h1, h2, ⟨ps, h3, h4⟩, h5⟩ := h
  refine ⟨by rw [upd_ne h5]; exact h1, upd_same, ⟨ps, ?_, h4.to fun p xs e => ?_⟩, h5⟩
  · rw [upd_ne (RW.ne_kind h3 h2 (fun z => nomatch z))]; exact h3
  · rw [upd_ne (RW.ne_kind e h2 (fun z => nomatch z))]; exact e
theorem LSt.fail (h : LSt H m hl lt lf ts fs) {ps : List Addr} (h3 : H lf = some (.lst (ps.map V.ref))) (h4 : FrT H ps fs) {n w : Str} (hq : H q = some (.tup [.str n, .str w])) : LSt (upd H lf (.lst (ps.map V.ref ++ [.ref q]))) m hl lt lf ts (fs ++ [(n, w)]) := by
  obtain ⟨h1, h2, _, h5⟩ := h
  refine ⟨?_, ?_, ⟨ps ++ [q], by rw [upd_same, List.map_append]; rfl, ?_⟩, h5⟩
  · rw [upd_ne (RW.ne_kind h1 h3 (fun z => nomatch z))]; exact h1
  · rw [upd_ne (RW.ne_kind h2 h3 (fun z => nomatch z))]; exact h2
  · refine FrT.snoc (f := (n, w)) ?_ (h4.to fun p xs e => ?_)
    · rw [upd_ne (RW.ne_kind hq h3 (fun z => nomatch z))]; exact hq
    · rw [upd_ne (RW.ne_kind e h3 (fun z => nomatch z))]; exact e
theorem LSt.live (h : LSt H m hl lt lf ts fs) : ∀ a ∈ [lt, lf], H a ≠ none := fun a ha => by
  obtain ⟨ps, h1, _⟩ := h.lf_
  rcases List.mem_cons.mp ha with rfl | ha
  · rw [h.lt_]; exact fun z => nomatch z
  · rw [List.mem_singleton.mp ha, h1]; exact fun z => nomatch z
end
/-- the law's row of a writer -/
def wrK (fl : Addr) (f : Fm) (sn : Str) (it : Addr) (lv : Int) (cl : Bool) : List (Key × V) := (Sum.inr "kind", .str "writer") :: (Sum.inr "filters", .ref fl) :: (Sum.inr "form", f.v) :: (Sum.inr "stream", .str sn) :: (Sum.inr "it", .ref it) :: (Sum.inr "level", .int lv) :: (if cl = true then ([(Sum.inr "closed", V.bl true)] : List (Key × V)) else [])
/-- the data of a writer, as the law draws it -/
structure LWr where
  f : Fm
  lv : Int
  sn : Str
  ns : List Str
def LWr.wr (x : LWr) (c : Int) : Wr := ⟨c, x.f.fo, "\n", x.sn, x.ns, false⟩
structure LWr.Ok (x : LWr) : Prop where
  l : x.ns.length ≤ 100
  n : ∀ n ∈ x.ns, n.length ≤ 1000
/-- the law's row of a writer at q -/
def LwAt (H : Hp) (q it : Addr) (x : LWr) : Prop := ∃ (fl : Addr) (lv : Int), H q = some (.dK (wrK fl x.f x.sn it lv false)) ∧ H fl = some (.lst (x.ns.map V.str))
theorem LwAt.same {H H' : Hp} {q it : Addr} {x : LWr} (s : Same H H') (h : LwAt H q it x) : LwAt H' q it x := by
  obtain ⟨fl, cl, h1, h2⟩ := h
  exact ⟨fl, cl, s _ _ h1, s _ _ h2⟩
def spWritten2 (K : PySem.W.Frag) : Sp := fun vs H Q _ => ∃ (m hl lt lf q it rq r : Addr) (x : LWr) (d : Rc) (ts fs : List (Str × Str)) (n : Nat), vs = [.ref m, .ref q, .ref rq] ∧ LSt H m hl lt lf ts fs ∧ LwAt H q it x ∧ H rq = some (.dK (rcD d r)) ∧ LRc d ∧ Cap ts n ∧ n ≤ 900000 ∧ fs.length ≤ 1000000 ∧
  ∀ H', Chg [lt, lf] H H' → LSt H' m hl lt lf (emitO (x.f.out d) x.sn "\n" d.name ts fs).1 (emitO (x.f.out d) x.sn "\n" d.name ts fs).2 → Q .non H'
theorem ok_written2 {f : Addr} (T : Txt P w K mg) (F : Stands K "_law_written" "_law_written" s__law_written [] f) (c__law_shaped : Callable P w K mg base 1 (He.ga K "_law_shaped") ["_law_form", "_law_record_here"] [] spShaped) : Callable P w K mg base 2 f ["_law_m", "_law_one", "_law_record_here"] [] (spWritten2 K) := by
  refine F.call0 sc__law_written (fun vs H Q E h => ?_) (fun cdv A outer s H vs Q E hr h => ?_) (fun _ _ _ _ _ _ us hl => match us, hl with | [_, _, _], _ => rfl)
  · obtain ⟨m, hl, lt, lf, q, it, rq, r, x, d, ts, fs, n, rfl, _⟩ := h; rfl
  obtain ⟨m, hl, lt, lf, q, it, rq, r, x, d, ts, fs, n, rfl, hS, hW, hrq, hL, hc, hn, hfs, hQ⟩ := h
  obtain ⟨fl, cl, hq, hfl⟩ := id hW
  refine ⟨_, (pss_cons (ps_asg (pe_fn T.g__law_shaped c__law_shaped (hr.mono (by first | decide | exact Nat.le_refl _)) (by rfl) (pa_cons (pe_dget (hu_of hr) (pv 1) pe_str (fun _ _ => rfl)) (pa_cons (pv 2) pa_nil))) (RG.pg_tupK (K := K) (n := 2) (by rfl) (pgs_cons (pg_name (i := 3) sc__law_written.nd rfl (by first | exact Or.inl rfl | exact Or.inr rfl)) (pgs_cons (pg_name (i := 4) sc__law_written.nd rfl (by first | exact Or.inl rfl | exact Or.inr rfl)) pgs_nil))))
      (pss_one (ps_if (pt_cmpR op_notN (pv 4) pe_non (nomark _)) (pss_one (ps_expr (pe_bm PySem.F.plainAttrs_list PySem.F.slot_list_append PySem.F.type_list_append mt_append (pe_dget (hu_of hr) (pv 0) pe_str (fun _ _ => rfl)) (pa_cons (pe_tup (pa_cons (pe_dget (hu_of hr) (pv 2) pe_str (fun _ _ => rfl)) (pa_cons (pv 4) pa_nil))) pa_nil)))) (pss_one (ps_if (pt_cmpR op_eq (pe_dget (hu_of hr) (pv 1) pe_str (fun _ _ => rfl)) pe_str (nomark _)) (pss_one (ps_asg (pe_op op_add_str (pe_op op_add_str (pe_dget2 (hu_of hr) (pe_dget (hu_of hr) (pv 0) pe_str (fun _ _ => rfl)) (pe_dget (hu_of hr) (pv 1) pe_str (fun _ _ => rfl)) pe_str ⟨rfl, rfl, rfl, rfl⟩) (pv 3)) (pe_dget (hu_of hr) (pv 1) pe_str (fun _ _ => rfl))) (pg_sub (pe_dget (hu_of hr) (pv 0) pe_str (fun _ _ => rfl)) (pe_dget (hu_of hr) (pv 1) pe_str (fun _ _ => rfl)) set_list))) (pss_one (ps_dput (hu_of hr) (pe_dget (hu_of hr) (pv 0) pe_str (fun _ _ => rfl)) (pe_dget (hu_of hr) (pv 1) pe_str (fun _ _ => rfl)) (pe_op op_add_str (pe_op op_add_str (pe_dget2 (hu_of hr) (pe_dget (hu_of hr) (pv 0) pe_str (fun _ _ => rfl)) (pe_dget (hu_of hr) (pv 1) pe_str (fun _ _ => rfl)) pe_str ⟨rfl, rfl, rfl, rfl⟩) (pv 3)) (pe_dget2 (hu_of hr) (pv 1) pe_str pe_str ⟨rfl, rfl, rfl, rfl⟩)) rfl))))))), ?_⟩
  walk_at "in"
  refine seq_of (fun σ' H' => ∃ v1 v2, shT (x.f.out d) = [v1, v2] ∧ σ' = [some (.ref m), some (.ref q), some (.ref rq), some v1, some v2] ∧ Same H H') (fun b' kb => ?_) (fun σ' H' hm => ?_)
  · walk_at "go"
    intro t H' s1 ft ht
    obtain ⟨v1, v2, e⟩ : ∃ v1 v2, shT (x.f.out d) = [v1, v2] := by cases x.f.out d <;> exact ⟨_, _, rfl⟩
    rw [e] at ht
    exact ⟨t, _, rfl, SqT.of ht, rfl, _, _, rfl, _, _, rfl, rfl, kb _ _ ⟨v1, v2, e, rfl, s1⟩⟩
  obtain ⟨v1, v2, ev, rfl, s1⟩ := hm
  have hS1 := hS.same s1
  have hq1 := s1 _ _ hq
  have hr1 := s1 _ _ hrq
  obtain ⟨hm1, hlt1, ⟨ps, hlf1, hft1⟩, hne⟩ := id hS1
  cases eo : x.f.out d with
  | tx t =>
    rw [eo] at hQ ev
    have ev2 : [V.str (tx t), .non] = [v1, v2] := ev
    cases ev2
    have hv := valV_strK x.sn ts
    have hend : (valV (wrK fl x.f x.sn it cl false) (Sum.inr "end")).getD (V.str "\n") = V.str "\n" := rfl
    have b1 := txt_cap hc x.sn
    have b2 := x.f.out_len hL t eo
    have b3 : (Str.ofString "\n").length = 1 := by decide +kernel
    have b4 : (txt ts x.sn).length + (tx t).length ≤ sizeLine := by rw [tx_len t, sizeLine_eq]; omega
    have b5 : (txt ts x.sn ++ tx t).length + (Str.ofString "\n").length ≤ sizeLine := by rw [len_app, tx_len t, b3, sizeLine_eq]; omega
    have b6 : (strK ts).length < sizeLine := by unfold strK; rw [List.length_map, sizeLine_eq]; have := hc.1; omega
    have hq' := hQ (upd H' lt (.dK (strK (putS ts x.sn (txt ts x.sn ++ (tx t ++ "\n")))))) ((Chg.of s1).set (by simp)) (hS1.put _)
    rw [← putK_strK, ← app_assoc] at hq'
    unfold txt at hq' b4 b5
    cases e : ts.lookup x.sn with
    | none =>
      rw [e] at hv hq' b4 b5
      simp only [Option.getD_some, Option.getD_none] at hq' b4 b5
      walk_at "go"
      exact hq'
    | some u =>
      rw [e] at hv hq' b4 b5
      simp only [Option.getD_some, Option.getD_none] at hq' b4 b5
      walk_at "go"
      exact hq'
  | msg =>
    rw [eo] at hQ ev
    have ev2 : [V.non, .str "message"] = [v1, v2] := ev
    cases ev2
    have hll : (ps.map V.ref).length < sizeLine := by rw [List.length_map, hft1.len, sizeLine_eq]; omega
    walk_at "go"
    intro p fp
    have s2 := same_new fp (.tup [.str d.name, .str "message"])
    have hp := upd_same (H := H') (a := p) (o := .tup [.str d.name, .str "message"])
    generalize upd H' p (.tup [.str d.name, .str "message"]) = H2 at s2 hp ⊢
    have hS2 := hS1.same s2
    have hlf2 := s2 _ _ hlf1
    walk_at "go"
    exact hQ _ ((Chg.of (s1.trans s2)).set (by simp)) (hS2.fail hlf2 (hft1.to fun _ _ e => s2 _ _ e) hp)
  | fld z =>
    rw [eo] at hQ ev
    have ev2 : [V.non, .str "field"] = [v1, v2] := ev
    cases ev2
    have hll : (ps.map V.ref).length < sizeLine := by rw [List.length_map, hft1.len, sizeLine_eq]; omega
    walk_at "go"
    intro p fp
    have s2 := same_new fp (.tup [.str d.name, .str "field"])
    have hp := upd_same (H := H') (a := p) (o := .tup [.str d.name, .str "field"])
    generalize upd H' p (.tup [.str d.name, .str "field"]) = H2 at s2 hp ⊢
    have hS2 := hS1.same s2
    have hlf2 := s2 _ _ hlf1
    walk_at "go"
    exact hQ _ ((Chg.of (s1.trans s2)).set (by simp)) (hS2.fail hlf2 (hft1.to fun _ _ e => s2 _ _ e) hp)
end
end K17

set_option Elab.async false
set_option linter.all false
set_option maxRecDepth 100000
set_option maxHeartbeats 0
namespace K17
open PySem PySem.Spec PyProof.Rows L2 RC
section
variable {P : Program} {w : World} {K : PySem.W.Frag} {mg : Str → Option Value} {base : Heap}
/-! ### a record handled, as the law does it -/
theorem ok_none {x qual : Str} {st : Stmt} {f : Addr} {N ps : List Str} (F : Stands K x qual st [] f) (S : FnScope N ps (defScope st)) (k : Nat)
    (bind : ∀ (kV doc pm : Value) (an : Option Addr) (cdv ct : Value) (us : List Value), us.length = ps.length → bindArgs (PySem.W.fnOf x qual (defArgs st) (defBody st) (defScope st) .none kV doc pm an cdv ct) ⟨us, []⟩ = pure (ps.zip us)) : Callable P w K mg base (k + 1) f ps [] (fun _ _ _ _ => False) :=
  F.call0 S (fun vs H Q E h => h.elim) (fun cdv A outer s H vs Q E hr h => h.elim) bind
/-- a row of the law's handlers: the list hl has q at j -/
def RowAt (H : Hp) (hl : Addr) (j : Nat) (q : Addr) : Prop := ∃ qs : List Addr, H hl = some (.lst (qs.map V.ref)) ∧ qs[j]? = some q
theorem RowAt.same {H H' : Hp} {hl q : Addr} {j : Nat} (s : Same H H') (h : RowAt H hl j q) : RowAt H' hl j q := by
  obtain ⟨qs, h1, h2⟩ := h
  exact ⟨qs, s _ _ h1, h2⟩
end
end K17

set_option Elab.async false
set_option linter.all false
set_option maxRecDepth 100000
set_option maxHeartbeats 0
namespace K17
open PySem PySem.Spec PyProof.Rows L2 RC
section
variable {P : Program} {w : World} {K : PySem.W.Frag} {mg : Str → Option Value} {base : Heap}
/-! ### the law's memory -/
def lmK (fl : Addr) (tv : V) (lk : Addr) (md : Md) (it : Addr) : List (Key × V) := [(Sum.inr "kind", .str "memory"), (Sum.inr "filters", .ref fl), (Sum.inr "target", tv), (Sum.inr "kept", .ref lk), (Sum.inr "closed", .bl false), (Sum.inr "level", .int md.lv), (Sum.inr "capacity", .int md.cap), (Sum.inr "least", .int md.least), (Sum.inr "flushes", .bl md.fc), (Sum.inr "it", .ref it)]
def kQ (ks : List Kp) : List V := ks.map fun k => V.ref k.q
/-- a target at a memory's making: its number, its row's place, itself, its row -/
abbrev LTg : Type := Option (Nat × Addr × Addr × List (Key × V))
def LTg.v : LTg → V
  | none => .non
  | some (j, _) => .int (j : Nat)
def LTg.pv : LTg → V
  | none => .non
  | some (_, _, it, _) => .ref it
def LTgAt (G : Hp) (hl : Addr) : LTg → Prop
  | none => True
  | some (j, wq, it, kvs) => RowAt G hl j wq ∧ G wq = some (.dK kvs) ∧ valV kvs (Sum.inr "it") = some (.ref it)
end
end K17

set_option Elab.async false
set_option linter.all false
set_option maxRecDepth 100000
set_option maxHeartbeats 0

namespace K17
open PySem PySem.Spec PyProof.Rows L2 RC
section
variable {P : Program} {w : World} {K : PySem.W.Frag} {mg : Str → Option Value} {base : Heap}
/-! ### what the law makes: records -/
theorem _root_.RC.Stm.put {H : Hp} {s l D : Addr} {n : Nat} {o : HO} (h : Stm H s l n) (h1 : D ≠ s) (h2 : D ≠ l) : Stm (upd H D o) s l n := by
  obtain ⟨ne, ns, x, c, d, g1, g2, g3⟩ := h
  exact ⟨ne, ns, x, c, d, by rw [upd_ne (Ne.symm h1)]; exact g1, by rw [upd_ne (Ne.symm h2)]; exact g2, g3⟩
theorem old_free {s l p : Addr} {n : Nat} {H H' : Hp} (h : Old s l H H') (st : Stm H' s l n) (e : H' p = none) : H p = none := by
  cases z : H p with
  | none => rfl
  | some o =>
    obtain ⟨n1, n2⟩ := stm_new st e
    rw [h _ _ n1 n2 z] at e; cases e
theorem old_same {s l : Addr} {H H1 H2 : Hp} (h : Old s l H H1) (e : Same H1 H2) : Old s l H H2 := fun b u h1 h2 h3 => e _ _ (h b u h1 h2 h3)
theorem same_old {s l : Addr} {H H1 H2 : Hp} (e : Same H H1) (h : Old s l H1 H2) : Old s l H H2 := fun b u h1 h2 h3 => h b u h1 h2 (e _ _ h3)
theorem stm_ne {s l p : Addr} {n : Nat} {H : Hp} {o : HO} (st : Stm H s l n) (h : H p = some o) (k : ∀ xs, o ≠ .lst xs) : p ≠ s ∧ p ≠ l := by
  obtain ⟨_, ns, x, c, d, h1, h2, _⟩ := st
  exact ⟨fun z => (by rw [z, h1] at h; cases h; exact k _ rfl), fun z => (by rw [z, h2] at h; cases h; exact k _ rfl)⟩
theorem first_names : NmsOk (kv_FIRST_NAMES.map fun q => (q.1, q.2.v K)) := fun k v h => by
  have mem : ∃ p ∈ kv_FIRST_NAMES.map (fun q => (q.1, q.2.v K)), p.2 = v := by
    have : ∀ kvs : List (Key × V), valV kvs k = some v → ∃ p ∈ kvs, p.2 = v := fun kvs => by
      induction kvs with
      | nil => intro h; cases h
      | cons p r ih =>
        intro h
        by_cases e : p.1 = k
        · rw [valV_pos e] at h; cases h; exact ⟨p, List.mem_cons_self, rfl⟩
        · rw [valV_neg e] at h
          obtain ⟨q, hq, e2⟩ := ih h
          exact ⟨q, List.mem_cons_of_mem _ hq, e2⟩
    exact this _ h
  obtain ⟨p, hp, rfl⟩ := mem
  simp [kv_FIRST_NAMES] at hp
  rcases hp with rfl | rfl | rfl | rfl | rfl | rfl <;> exact ⟨_, rfl⟩
/-- the yard of a turn, as it was made -/
structure YdAt (K : PySem.W.Frag) (H : Hp) (y md na nu : Addr) : Prop where
  y : ∃ (dy st fi lm hn fr rt lr : Addr), H y = some (.ins (CY K) dy (yF 0 st fi na nu lm md hn fr rt lr))
  na_ : H na = some (.dK (kv_FIRST_NAMES.map fun q => (q.1, q.2.v K)))
  nu_ : H nu = some (.dK (kv_FIRST_NUMBERS.map fun q => (q.1, q.2.v K)))
theorem YdAt.same {H H' : Hp} {y md na nu : Addr} (s : Same H H') (h : YdAt K H y md na nu) : YdAt K H' y md na nu := by
  obtain ⟨⟨dy, st, fi, lm, hn, fr, rt, lr, h1⟩, h2, h3⟩ := h
  exact ⟨⟨dy, st, fi, lm, hn, fr, rt, lr, s _ _ h1⟩, s _ _ h2, s _ _ h3⟩
theorem YdAt.old {H H' : Hp} {y md na nu s l : Addr} {n : Nat} (st0 : Stm H s l n) (o : Old s l H H') (h : YdAt K H y md na nu) : YdAt K H' y md na nu := by
  obtain ⟨⟨dy, st, fi, lm, hn, fr, rt, lr, h1⟩, h2, h3⟩ := h
  obtain ⟨a1, a2⟩ := stm_ne st0 h1 (fun _ z => nomatch z)
  obtain ⟨b1, b2⟩ := stm_ne st0 h2 (fun _ z => nomatch z)
  obtain ⟨c1, c2⟩ := stm_ne st0 h3 (fun _ z => nomatch z)
  exact ⟨⟨dy, st, fi, lm, hn, fr, rt, lr, o _ _ a1 a2 h1⟩, o _ _ b1 b2 h2, o _ _ c1 c2 h3⟩
theorem lv_len {i : Int} (h : i ∈ ([0, 1, 9, 10, 11, 20, 39, 40, 41, 100] : List Int)) : i.natAbs < 2 ^ 63 ∧ (lvName (kv_FIRST_NAMES.map fun q => (q.1, q.2.v K)) i).length ≤ 100 := by
  have e : ∀ i : Int, (lvName (kv_FIRST_NAMES.map fun q => (q.1, q.2.v K)) i) = (match i with | 50 => "CRITICAL" | 40 => "ERROR" | 30 => "WARNING" | 20 => "INFO" | 10 => "DEBUG" | 0 => "NOTSET" | i => ("Level " : Str) ++ (Str.ofString (toString i))) ∨ True := fun _ => .inr trivial
  simp only [List.mem_cons, List.not_mem_nil, or_false] at h
  rcases h with rfl | rfl | rfl | rfl | rfl | rfl | rfl | rfl | rfl | rfl
  · exact ⟨by decide, by show (Str.ofString "NOTSET").length ≤ 100; decide +kernel⟩
  · exact ⟨by decide, by show (Str.ofString "Level " ++ Str.ofString (toString (1 : Int))).length ≤ 100; decide +kernel⟩
  · exact ⟨by decide, by show (Str.ofString "Level " ++ Str.ofString (toString (9 : Int))).length ≤ 100; decide +kernel⟩
  · exact ⟨by decide, by show (Str.ofString "DEBUG").length ≤ 100; decide +kernel⟩
  · exact ⟨by decide, by show (Str.ofString "Level " ++ Str.ofString (toString (11 : Int))).length ≤ 100; decide +kernel⟩
  · exact ⟨by decide, by show (Str.ofString "INFO").length ≤ 100; decide +kernel⟩
  · exact ⟨by decide, by show (Str.ofString "Level " ++ Str.ofString (toString (39 : Int))).length ≤ 100; decide +kernel⟩
  · exact ⟨by decide, by show (Str.ofString "ERROR").length ≤ 100; decide +kernel⟩
  · exact ⟨by decide, by show (Str.ofString "Level " ++ Str.ofString (toString (41 : Int))).length ≤ 100; decide +kernel⟩
  · exact ⟨by decide, by show (Str.ofString "Level " ++ Str.ofString (toString (100 : Int))).length ≤ 100; decide +kernel⟩
theorem num_plain : ∀ k : Nat, k < 30 → (∀ c ∈ (Str.ofString "m" ++ Str.ofString (toString (k : Int))).cps.toList, c ≠ 123 ∧ c ≠ 125) ∧ (Str.ofString "m" ++ Str.ofString (toString (k : Int))).length ≤ 40 := by decide +kernel
def spRecord (K : PySem.W.Frag) : Sp := fun vs H Q _ => ∃ (s l y md na nu : Addr) (n k : Nat), vs = [.ref s, .ref y, .int (k : Nat)] ∧ Stm H s l n ∧ n + 3 ≤ 1000000 ∧ k < 30 ∧ YdAt K H y md na nu ∧
  ∀ (H' : Hp) (q r : Addr) (d : Rc), Old s l H H' → Stm H' s l (n + 3) → LRc d → nw H H' q = some (.dK (rcD d r)) → RcAt K (nw H H') r d → Q (.ref q) H'
theorem ok_record {f : Addr} (T : Txt P w K mg) (F : Stands K "_law_record" "_law_record" s__law_record [] f) (c__law_draw : Callable P w K mg base 1 (He.ga K "_law_draw") ["_law_stream", "_law_many"] [] spDraw) (c__law_pick : Callable P w K mg base 2 (He.ga K "_law_pick") ["_law_stream", "_law_some"] [] (spPick K))
    (c_Yard_make_record_d1 : Callable P w K mg base 6 (He.ma K (He.ga K "Yard") "make_record") ["self", "name", "level", "msg", "args", "extra"] [.non] (spMakeRecord K)) : Callable P w K mg base 7 f ["_law_stream", "_law_yard", "_law_number"] [] (spRecord K) := by
  refine F.call0 sc__law_record (fun vs H Q E h => ?_) (fun cdv A outer s0 H vs Q E hr h => ?_) (fun _ _ _ _ _ _ us hl => match us, hl with | [_, _, _], _ => rfl)
  · obtain ⟨s, l, y, md, na, nu, n, k, rfl, _⟩ := h; rfl
  obtain ⟨s, l, y, md, na, nu, n, k, rfl, hS, hn, hk, hY, hQ⟩ := h
  refine ⟨_, (pss_cons (ps_set (i := 3) sc__law_record.nd rfl (by first | exact Or.inl rfl | exact Or.inr rfl) (pe_fn T.g__law_pick c__law_pick (hr.mono (by first | decide | exact Nat.le_refl _)) (by rfl) (pa_cons (pv 0) (pa_cons (pe_lst (pa_cons pe_str (pa_cons pe_str (pa_cons pe_str (pa_cons pe_str (pa_cons pe_str pa_nil)))))) pa_nil))))
      (pss_cons (ps_par (by rfl) sc__law_record.nd (i := 4) (j := 5) rfl rfl (by decide) rfl rfl (pa_cons (pe_fn T.g__law_pick c__law_pick (hr.mono (by first | decide | exact Nat.le_refl _)) (by rfl) (pa_cons (pv 0) (pa_cons (pe_lst (pa_cons pe_int (pa_cons pe_int (pa_cons pe_int (pa_cons pe_int (pa_cons pe_int (pa_cons pe_int (pa_cons pe_int (pa_cons pe_int (pa_cons pe_int (pa_cons pe_int pa_nil))))))))))) pa_nil))) (pa_cons (pe_op op_add_str pe_str (pe_callTy call_str_int (by rfl) T.b_str (by decide +kernel) (pa_cons (pv 2) pa_nil))) pa_nil)) (by rfl))
      (pss_cons (ps_set (i := 6) sc__law_record.nd rfl (by first | exact Or.inl rfl | exact Or.inr rfl) (pe_cmpR op_eq (pe_fn T.g__law_draw c__law_draw (hr.mono (by first | decide | exact Nat.le_refl _)) (by rfl) (pa_cons (pv 0) (pa_cons pe_int pa_nil))) pe_int (nomark _)))
      (pss_cons (ps_set (i := 7) sc__law_record.nd rfl (by first | exact Or.inl rfl | exact Or.inr rfl) (pe_mt T.c_Yard T.m_Yard_make_record c_Yard_make_record_d1 (hr.mono (by first | decide | exact Nat.le_refl _)) (pv 1) (pa_cons (pv 3) (pa_cons (pv 4) (pa_cons (pv 5) (pa_cons (pe_ifExp (pt_val (pv 6)) (pe_lst (pa_cons pe_int pa_nil)) (pe_lst pa_nil)) pa_nil))))))
      (pss_one (ps_ret (pe_disp (pps_cons pe_str (pv 3) (pps_cons pe_str (pv 4) (pps_cons pe_str (pv 5) (pps_cons pe_str (pv 6) (pps_cons pe_str (pv 7) pps_nil))))) (by rfl) (by rfl) (fun z => by cases z) (by decide)))))))), ?_⟩
  walk_at "in"
  have n0 : n ≤ 1000000 := by omega
  have n1 : n + 1 ≤ 1000000 := by omega
  have n2 : n + 1 + 1 ≤ 1000000 := by omega
  refine seq_of (fun σ' H' => ∃ v, v ∈ ([.str "a", .str "a.b", .str "b", .str "root", .str "ab"] : List V) ∧ σ' = [some (.ref s), some (.ref y), some (.int (k : Nat)), some v, none, none, none, none] ∧ Old s l H H' ∧ Stm H' s l (n + 1)) (fun b' kb => ?_) (fun σ' H1 hm => ?_)
  · walk_at "go"
    intro p fp
    obtain ⟨p1, p2⟩ := stm_new hS fp
    generalize hX : upd H p _ = H1
    have hp := (congrFun hX p).symm
    rw [upd_same] at hp
    have s1 : Same H H1 := by rw [← hX]; exact same_new fp _
    have hS1 : Stm H1 s l (n) := by rw [← hX]; exact hS.put p1 p2
    clear hX
    walk_at "go"
    intro H2 v o2 hS2 hv
    walk_at "go"
    exact kb _ _ ⟨v, hv, rfl, same_old s1 o2, hS2⟩
  obtain ⟨vn, hvn, rfl, o1, hS1⟩ := hm
  have hY1 := hY.old hS o1
  refine seq_of (fun σ' H' => ∃ i : Int, i ∈ ([0, 1, 9, 10, 11, 20, 39, 40, 41, 100] : List Int) ∧ σ' = [some (.ref s), some (.ref y), some (.int (k : Nat)), some vn, some (.int i), some (.str (("m" : Str) ++ Str.ofString (toString (k : Int)))), none, none] ∧ Old s l H1 H' ∧ Stm H' s l (n + 1 + 1)) (fun b' kb => ?_) (fun σ' H2 hm => ?_)
  · walk_at "go"
    intro p fp
    obtain ⟨p1, p2⟩ := stm_new hS1 fp
    generalize hX : upd H1 p _ = H2
    have hp := (congrFun hX p).symm
    rw [upd_same] at hp
    have s2 : Same H1 H2 := by rw [← hX]; exact same_new fp _
    have hS2 : Stm H2 s l (n + 1) := by rw [← hX]; exact hS1.put p1 p2
    clear hX
    walk_at "go"
    intro H3 v o3 hS3 hv
    have hl2 : ((k : Nat) : Int).natAbs.log2 < 1920 := by
      by_cases c : ((k : Nat) : Int).natAbs = 0
      · rw [c]; decide
      · have := (Nat.log2_lt (k := 63) c).mpr (by omega); omega
    have hln : (Str.ofString "m").length + (Str.ofString (toString (k : Int))).length ≤ sizeLine := by
      have h1 := int_len (i := (k : Int)) (by omega)
      have e : (Str.ofString "m").length = 1 := by decide +kernel
      rw [e, sizeLine_eq]; omega
    obtain ⟨i, hi, rfl⟩ : ∃ i : Int, i ∈ ([0, 1, 9, 10, 11, 20, 39, 40, 41, 100] : List Int) ∧ v = .int i := by
      have e : ([.int 0, .int 1, .int 9, .int 10, .int 11, .int 20, .int 39, .int 40, .int 41, .int 100] : List V) = ([0, 1, 9, 10, 11, 20, 39, 40, 41, 100] : List Int).map V.int := rfl
      rw [e] at hv
      obtain ⟨i, hi, rfl⟩ := List.mem_map.mp hv
      exact ⟨i, hi, rfl⟩
    walk_at "go"
    exact kb _ _ ⟨i, hi, rfl, same_old s2 o3, hS3⟩
  obtain ⟨i, hi, rfl, o2, hS2⟩ := hm
  have hY2 := hY1.old hS1 o2
  refine seq_of (fun σ' H' => ∃ b : Bool, σ' = [some (.ref s), some (.ref y), some (.int (k : Nat)), some vn, some (.int i), some (.str (("m" : Str) ++ Str.ofString (toString (k : Int)))), some (.bl b), none] ∧ Old s l H2 H' ∧ Stm H' s l (n + 1 + 1 + 1)) (fun b' kb => ?_) (fun σ' H3 hm => ?_)
  · walk_at "go"
    intro H3 dd o3 hS3 d1 d2
    walk_at "go"
    exact kb _ _ ⟨_, rfl, o3, hS3⟩
  obtain ⟨b, rfl, o3, hS3⟩ := hm
  have hY3 := hY2.old hS2 o3
  have o13 := (o1.trans o2).trans o3
  obtain ⟨⟨dy, st, fi, lm, hn2, fr, rt, lr, hy⟩, hna, hnu⟩ := id hY3
  obtain ⟨nm, hnm, rfl⟩ : ∃ nm : Str, nm ∈ (["a", "a.b", "b", "root", "ab"] : List Str) ∧ vn = .str nm := by
    have e : ([.str "a", .str "a.b", .str "b", .str "root", .str "ab"] : List V) = (["a", "a.b", "b", "root", "ab"] : List Str).map V.str := rfl
    rw [e] at hvn
    obtain ⟨i, hi, rfl⟩ := List.mem_map.mp hvn
    exact ⟨i, hi, rfl⟩
  obtain ⟨hi1, hi2⟩ := lv_len (K := K) hi
  obtain ⟨hk1, hk2⟩ := num_plain k hk
  have hnm2 : nm.length ≤ 10 := by
    simp only [List.mem_cons, List.not_mem_nil, or_false] at hnm
    rcases hnm with rfl | rfl | rfl | rfl | rfl <;> decide +kernel
  have hnms := first_names (K := K)
  generalize hmsg : Str.ofString "m" ++ Str.ofString (toString (k : Int)) = msg at hk1 hk2 ⊢
  have fin : ∀ (ns : List Int) (H4 H5 H6 : Hp) (pa r g e q : Addr), (ns = [] ∧ b = false ∨ ns = [1] ∧ b = true) → Same H3 H4 → Same H4 H5 → H4 r = none → H4 g = none → H4 e = none → (∃ dx, H5 r = some (.ins (CR K) dx (recF nm i (lvName (kv_FIRST_NAMES.map fun q => (q.1, q.2.v K)) i) msg g 0 e))) → H5 g = some (.tup (ns.map V.int)) → H5 e = some (.dK []) → Same H5 H6 → H5 q = none → H6 q = some (.dK [(Sum.inr "name", .str nm), (Sum.inr "level", .int i), (Sum.inr "text", .str msg), (Sum.inr "bad", .bl b), (Sum.inr "it", .ref r)]) → Q (.ref q) H6 := fun ns H4 H5 H6 pa r g e q hns s4 s5 fr fg fe ⟨dx, hr⟩ hg he s6 fq hq => by
    have o6 : Old s l H H6 := old_same o13 ((s4.trans s5).trans s6)
    have hS6 : Stm H6 s l (n + 3) := hS3.same ((s4.trans s5).trans s6)
    have fr3 := s4.free fr
    have fg3 := s4.free fg
    have fe3 := s4.free fe
    have fq3 := (s4.trans s5).free fq
    have n1 : ∀ x ∈ ns, x.natAbs < 2 ^ 63 := fun x hx => by
      rcases hns with ⟨rfl, _⟩ | ⟨rfl, _⟩
      · cases hx
      · rw [List.mem_singleton.mp hx]; decide
    have nl : ns.length ≤ 100 := by rcases hns with ⟨rfl, _⟩ | ⟨rfl, _⟩ <;> decide
    refine hQ H6 q r ⟨nm, i, _, msg, 0, ns⟩ o6 hS6 ⟨⟨by show nm.length ≤ 2000; omega, hi1, Nat.le_trans hi2 (by decide), by show msg.length ≤ 2000; omega, nl, n1, by show (0 : Int).natAbs < 2 ^ 63; decide⟩, hnm2, hk2, hns.imp (·.1) (·.1), hk1⟩ ?_ ⟨dx, g, e, nw_at (s6 _ _ hr) (old_free o13 hS3 fr3), nw_at (s6 _ _ hg) (old_free o13 hS3 fg3), nw_at (s6 _ _ he) (old_free o13 hS3 fe3)⟩
    refine nw_at ?_ (old_free o13 hS3 fq3)
    rw [hq]
    have eb : decide (ns ≠ []) = b := by rcases hns with ⟨rfl, rfl⟩ | ⟨rfl, rfl⟩ <;> rfl
    show some (HO.dK [(Sum.inr "name", .str nm), (Sum.inr "level", .int i), (Sum.inr "text", .str msg), (Sum.inr "bad", .bl b), (Sum.inr "it", .ref r)]) = some (HO.dK [(Sum.inr "name", .str nm), (Sum.inr "level", .int i), (Sum.inr "text", .str msg), (Sum.inr "bad", .bl (decide (ns ≠ []))), (Sum.inr "it", .ref r)])
    rw [eb]
  cases b with
  | true =>
    walk_at "go"
    intro pa fpa
    have s4 := same_new fpa (.lst [.int 1])
    have hpa := upd_same (H := H3) (a := pa) (o := .lst [.int 1])
    generalize upd H3 pa (.lst [.int 1]) = H4 at s4 hpa ⊢
    have hy4 := s4 _ _ hy
    have hna4 := s4 _ _ hna
    have hnu4 := s4 _ _ hnu
    have hax : AX K H4 pa [.int 1] := .inl hpa
    have hpl : ∀ x ∈ ([.int 1] : List V), PlainV x := fun x hx => by rw [List.mem_singleton.mp hx]; exact .int 1
    walk_at "go"
    intro H5 r g e s5 fr fg fe hr hg he
    walk_at "go"
    intro q fq
    walk_at "go"
    exact fin [1] H4 H5 _ pa r g e q (.inr ⟨rfl, rfl⟩) s4 s5 fr fg fe hr hg he (by rw [upd_upd]; exact same_new fq _) fq upd_same
  | false =>
    walk_at "go"
    intro pa fpa
    have s4 := same_new fpa (.lst [])
    have hpa := upd_same (H := H3) (a := pa) (o := .lst [])
    generalize upd H3 pa (.lst []) = H4 at s4 hpa ⊢
    have hy4 := s4 _ _ hy
    have hna4 := s4 _ _ hna
    have hnu4 := s4 _ _ hnu
    have hax : AX K H4 pa [] := .inl hpa
    have hpl : ∀ x ∈ ([] : List V), PlainV x := fun x hx => nomatch hx
    walk_at "go"
    intro H5 r g e s5 fr fg fe hr hg he
    walk_at "go"
    intro q fq
    walk_at "go"
    exact fin [] H4 H5 _ pa r g e q (.inl ⟨rfl, rfl⟩) s4 s5 fr fg fe hr hg he (by rw [upd_upd]; exact same_new fq _) fq upd_same
end
end K17

set_option Elab.async false
set_option linter.all false
set_option maxRecDepth 100000
set_option maxHeartbeats 0
namespace K17
open PySem PySem.Spec PyProof.Rows L2 RC
section
variable {P : Program} {w : World} {K : PySem.W.Frag} {mg : Str → Option Value} {base : Heap}
/-! ### what is being made: three cells apart from all that stood -/
structure WM (H : Hp) (s l md q it fi : Addr) (n : Nat) (om oi oq of : HO) (H' : Hp) : Prop where
  chg : Chg [s, l, md] H H'
  stm : Stm H' s l n
  hmd : H' md = some om
  hit : H' it = some oi
  hq : H' q = some oq
  hfi : H' fi = some of
  fit : H it = none
  fq : H q = none
  ffi : H fi = none
  hs : H s ≠ none ∧ H l ≠ none ∧ H md ≠ none
  nm : md ≠ s ∧ md ≠ l
  d1 : q ≠ it
  d2 : q ≠ fi
  d3 : it ≠ fi
def SM (H : Hp) (q it fi : Addr) : Addr → Prop := fun b => H b ≠ none ∨ b = q ∨ b = it ∨ b = fi
section
variable {H H1 H2 : Hp} {s l md q it fi p : Addr} {n k : Nat} {om om' oi oi' oq oq' of of' o : HO}
theorem WM.apart (W : WM H s l md q it fi n om oi oq of H1) (f : H p = none) : p ≠ s ∧ p ≠ l ∧ p ≠ md := ⟨fun z => W.hs.1 (by rw [← z]; exact f), fun z => W.hs.2.1 (by rw [← z]; exact f), fun z => W.hs.2.2 (by rw [← z]; exact f)⟩
theorem WM.same (W : WM H s l md q it fi n om oi oq of H1) (e : Same H1 H2) : WM H s l md q it fi n om oi oq of H2 ∧ Same (rst (SM H q it fi) H1) (rst (SM H q it fi) H2) :=
  ⟨⟨W.chg.sameR e, W.stm.same e, e _ _ W.hmd, e _ _ W.hit, e _ _ W.hq, e _ _ W.hfi, W.fit, W.fq, W.ffi, W.hs, W.nm, W.d1, W.d2, W.d3⟩, rst_next (fun b u _ h => e b u h) fun b h => .inl h⟩
theorem WM.draw (W : WM H s l md q it fi n om oi oq of H1) (e : Old s l H1 H2) (st : Stm H2 s l k) : WM H s l md q it fi k om oi oq of H2 ∧ Same (rst (SM H q it fi) H1) (rst (SM H q it fi) H2) := by
  obtain ⟨a1, a2, _⟩ := W.apart W.fit
  obtain ⟨b1, b2, _⟩ := W.apart W.fq
  obtain ⟨c1, c2, _⟩ := W.apart W.ffi
  refine ⟨⟨W.chg.trans fun b u nb h => e b u (fun z => nb (by rw [z]; simp)) (fun z => nb (by rw [z]; simp)) h, st, e _ _ W.nm.1 W.nm.2 W.hmd, e _ _ a1 a2 W.hit, e _ _ b1 b2 W.hq, e _ _ c1 c2 W.hfi, W.fit, W.fq, W.ffi, W.hs, W.nm, W.d1, W.d2, W.d3⟩, rst_next (fun b u nb h => e b u (fun z => nb (.inl (by rw [z]; exact W.hs.1))) (fun z => nb (.inl (by rw [z]; exact W.hs.2.1))) h) fun b h => .inl h⟩
theorem stm_out (st : Stm H s l n) (h1 : p ≠ s) (h2 : p ≠ l) : Stm (upd H p o) s l n := st.put h1 h2
theorem WM.setq (W : WM H s l md q it fi n om oi oq of H1) : WM H s l md q it fi n om oi oq' of (upd H1 q oq') ∧ Same (rst (SM H q it fi) H1) (rst (SM H q it fi) (upd H1 q oq')) := by
  obtain ⟨b1, b2, b3⟩ := W.apart W.fq
  refine ⟨⟨W.chg.new W.fq, W.stm.put b1 b2, by rw [upd_ne (Ne.symm b3)]; exact W.hmd, by rw [upd_ne (Ne.symm W.d1)]; exact W.hit, upd_same, by rw [upd_ne (Ne.symm W.d2)]; exact W.hfi, W.fit, W.fq, W.ffi, W.hs, W.nm, W.d1, W.d2, W.d3⟩, rst_next (fun b u nb h => by rw [upd_ne (fun z => nb (.inr (.inl z)))]; exact h) fun b h => .inl h⟩
theorem WM.seti (W : WM H s l md q it fi n om oi oq of H1) : WM H s l md q it fi n om oi' oq of (upd H1 it oi') ∧ Same (rst (SM H q it fi) H1) (rst (SM H q it fi) (upd H1 it oi')) := by
  obtain ⟨b1, b2, b3⟩ := W.apart W.fit
  refine ⟨⟨W.chg.new W.fit, W.stm.put b1 b2, by rw [upd_ne (Ne.symm b3)]; exact W.hmd, upd_same, by rw [upd_ne W.d1]; exact W.hq, by rw [upd_ne (Ne.symm W.d3)]; exact W.hfi, W.fit, W.fq, W.ffi, W.hs, W.nm, W.d1, W.d2, W.d3⟩, rst_next (fun b u nb h => by rw [upd_ne (fun z => nb (.inr (.inr (.inl z))))]; exact h) fun b h => .inl h⟩
theorem WM.setf (W : WM H s l md q it fi n om oi oq of H1) : WM H s l md q it fi n om oi oq of' (upd H1 fi of') ∧ Same (rst (SM H q it fi) H1) (rst (SM H q it fi) (upd H1 fi of')) := by
  obtain ⟨b1, b2, b3⟩ := W.apart W.ffi
  refine ⟨⟨W.chg.new W.ffi, W.stm.put b1 b2, by rw [upd_ne (Ne.symm b3)]; exact W.hmd, by rw [upd_ne W.d3]; exact W.hit, by rw [upd_ne W.d2]; exact W.hq, upd_same, W.fit, W.fq, W.ffi, W.hs, W.nm, W.d1, W.d2, W.d3⟩, rst_next (fun b u nb h => by rw [upd_ne (fun z => nb (.inr (.inr (.inr z))))]; exact h) fun b h => .inl h⟩
theorem WM.mono (W : WM H s l md q it fi n om oi oq of H1) (h : n ≤ k) : WM H s l md q it fi k om oi oq of H1 := ⟨W.chg, W.stm.mono h, W.hmd, W.hit, W.hq, W.hfi, W.fit, W.fq, W.ffi, W.hs, W.nm, W.d1, W.d2, W.d3⟩
/-- what is apart -/
theorem WM.out (W : WM H s l md q it fi n om oi oq of H1) (f : H1 p = none) : ¬ SM H q it fi p := fun z => by
  have f0 : H p = none := by
    cases e : H p with
    | none => rfl
    | some u =>
      by_cases m : p ∈ [s, l, md]
      · rcases List.mem_cons.mp m with rfl | m
        · obtain ⟨_, _, _, _, _, g, _⟩ := W.stm; rw [g] at f; cases f
        rcases List.mem_cons.mp m with rfl | m
        · obtain ⟨_, _, _, _, _, _, g, _⟩ := W.stm; rw [g] at f; cases f
        · rw [List.mem_singleton.mp m, W.hmd] at f; cases f
      · rw [W.chg _ _ m e] at f; cases f
  rcases z with z | rfl | rfl | rfl
  · exact z f0
  · rw [W.hq] at f; cases f
  · rw [W.hit] at f; cases f
  · rw [W.hfi] at f; cases f
theorem WM.at_ (W : WM H s l md q it fi n om oi oq of H1) (h : H2 p = some o) (f : H1 p = none) : rst (SM H q it fi) H2 p = some o := rst_at h (W.out f)
theorem sm_nw : Same (rst (SM H q it fi) H1) (nw H H1) := fun b u e => by
  have e2 := rst_same _ _ e
  refine rst_at e2 fun z => ?_
  rw [rst_none (show SM H q it fi b from .inl z)] at e; cases e
end
theorem YdAt.chg {H H' : Hp} {y md na nu s l : Addr} {n : Nat} {xs : List V} (st0 : Stm H s l n) (hmd : H md = some (.lst xs)) (c : Chg [s, l, md] H H') (h : YdAt K H y md na nu) : YdAt K H' y md na nu := by
  obtain ⟨⟨dy, st, fi, lm, hn, fr, rt, lr, h1⟩, h2, h3⟩ := h
  obtain ⟨a1, a2⟩ := stm_ne st0 h1 (fun _ z => nomatch z)
  obtain ⟨b1, b2⟩ := stm_ne st0 h2 (fun _ z => nomatch z)
  obtain ⟨c1, c2⟩ := stm_ne st0 h3 (fun _ z => nomatch z)
  have a3 : y ≠ md := RW.ne_kind h1 hmd (fun z => nomatch z)
  have b3 : na ≠ md := RW.ne_kind h2 hmd (fun z => nomatch z)
  have c3 : nu ≠ md := RW.ne_kind h3 hmd (fun z => nomatch z)
  exact ⟨⟨dy, st, fi, lm, hn, fr, rt, lr, c _ _ (by simp [a1, a2, a3]) h1⟩, c _ _ (by simp [b1, b2, b3]) h2, c _ _ (by simp [c1, c2, c3]) h3⟩
end
end K17

set_option Elab.async false
set_option linter.all false
set_option maxRecDepth 100000
set_option maxHeartbeats 0
namespace K17
open PySem PySem.Spec PyProof.Rows L2 RC
section
variable {P : Program} {w : World} {K : PySem.W.Frag} {mg : Str → Option Value} {base : Heap}
/-! ### one cell that is being made -/
structure WQ (H : Hp) (s l md q : Addr) (n : Nat) (om oq : HO) (H' : Hp) : Prop where
  chg : Chg [s, l, md] H H'
  stm : Stm H' s l n
  hmd : H' md = some om
  hq : H' q = some oq
  fq : H q = none
  hs : H s ≠ none ∧ H l ≠ none ∧ H md ≠ none
  nm : md ≠ s ∧ md ≠ l
def SQ (H : Hp) (q : Addr) : Addr → Prop := fun b => H b ≠ none ∨ b = q
section
variable {H H1 H2 : Hp} {s l md q p : Addr} {n k : Nat} {om oq oq' o : HO}
theorem WQ.apart (W : WQ H s l md q n om oq H1) (f : H p = none) : p ≠ s ∧ p ≠ l ∧ p ≠ md := ⟨fun z => W.hs.1 (by rw [← z]; exact f), fun z => W.hs.2.1 (by rw [← z]; exact f), fun z => W.hs.2.2 (by rw [← z]; exact f)⟩
theorem WQ.same (W : WQ H s l md q n om oq H1) (e : Same H1 H2) : WQ H s l md q n om oq H2 ∧ Same (rst (SQ H q) H1) (rst (SQ H q) H2) :=
  ⟨⟨W.chg.sameR e, W.stm.same e, e _ _ W.hmd, e _ _ W.hq, W.fq, W.hs, W.nm⟩, rst_next (fun b u _ h => e b u h) fun b h => .inl h⟩
theorem WQ.draw (W : WQ H s l md q n om oq H1) (e : Old s l H1 H2) (st : Stm H2 s l k) : WQ H s l md q k om oq H2 ∧ Same (rst (SQ H q) H1) (rst (SQ H q) H2) := by
  obtain ⟨b1, b2, _⟩ := W.apart W.fq
  refine ⟨⟨W.chg.trans fun b u nb h => e b u (fun z => nb (by rw [z]; simp)) (fun z => nb (by rw [z]; simp)) h, st, e _ _ W.nm.1 W.nm.2 W.hmd, e _ _ b1 b2 W.hq, W.fq, W.hs, W.nm⟩, rst_next (fun b u nb h => e b u (fun z => nb (.inl (by rw [z]; exact W.hs.1))) (fun z => nb (.inl (by rw [z]; exact W.hs.2.1))) h) fun b h => .inl h⟩
theorem WQ.setq (W : WQ H s l md q n om oq H1) : WQ H s l md q n om oq' (upd H1 q oq') ∧ Same (rst (SQ H q) H1) (rst (SQ H q) (upd H1 q oq')) := by
  obtain ⟨b1, b2, b3⟩ := W.apart W.fq
  refine ⟨⟨W.chg.new W.fq, W.stm.put b1 b2, by rw [upd_ne (Ne.symm b3)]; exact W.hmd, upd_same, W.fq, W.hs, W.nm⟩, rst_next (fun b u nb h => by rw [upd_ne (fun z => nb (.inr z))]; exact h) fun b h => .inl h⟩
theorem WQ.out (W : WQ H s l md q n om oq H1) (f : H1 p = none) : ¬ SQ H q p := fun z => by
  have f0 : H p = none := by
    cases e : H p with
    | none => rfl
    | some u =>
      by_cases m : p ∈ [s, l, md]
      · rcases List.mem_cons.mp m with rfl | m
        · obtain ⟨_, _, _, _, _, g, _⟩ := W.stm; rw [g] at f; cases f
        rcases List.mem_cons.mp m with rfl | m
        · obtain ⟨_, _, _, _, _, _, g, _⟩ := W.stm; rw [g] at f; cases f
        · rw [List.mem_singleton.mp m, W.hmd] at f; cases f
      · rw [W.chg _ _ m e] at f; cases f
  rcases z with z | rfl
  · exact z f0
  · rw [W.hq] at f; cases f
theorem WQ.at_ (W : WQ H s l md q n om oq H1) (h : H2 p = some o) (f : H1 p = none) : rst (SQ H q) H2 p = some o := rst_at h (W.out f)
theorem WQ.free (W : WQ H s l md q n om oq H1) (f : H1 p = none) : H p = none := Classical.byContradiction fun z => W.out f (.inl z)
end
end
end K17

set_option Elab.async false
set_option linter.all false
set_option maxRecDepth 100000
set_option maxHeartbeats 0

namespace K17
open PySem PySem.Spec PyProof.Rows L2 RC
section
variable {P : Program} {w : World} {K : PySem.W.Frag} {mg : Str → Option Value} {base : Heap}
/-! ### the memory made -/
def spMemoryMk (K : PySem.W.Frag) : Sp := fun vs H Q _ => ∃ (s l y md na nu hl : Addr) (n : Nat) (xs : List V) (tg : LTg), vs = [.ref s, .ref y, tg.v, .ref hl] ∧ Stm H s l n ∧ n + 5 ≤ 1000000 ∧ YdAt K H y md na nu ∧ H md = some (.lst xs) ∧ xs.length ≤ 100 ∧ md ≠ s ∧ md ≠ l ∧ hl ≠ s ∧ hl ≠ l ∧ md ≠ hl ∧ LTgAt H hl tg ∧
  ∀ (H' : Hp) (q mh dh fi fl lk mk : Addr) (mm : Md), (mm.nm = none ∧ mm.lv = 0) → Chg [s, l, md] H H' → Stm H' s l (n + 5) → H' md = some (.lst (xs ++ [.ref mh])) → H' q = some (.dK (lmK fl tg.v lk mm mh)) → H' mh = some (.ins (CM K) dh (hdM fi y mm (tg.pv) mk)) → H' lk = some (.lst []) → H' mk = some (.lst []) → (H q = none ∧ H mh = none ∧ H lk = none ∧ H mk = none ∧ lk ≠ mk) →
    FlAt K (rst (fun b => H b ≠ none ∨ b = q ∨ b = mh ∨ b = lk ∨ b = mk) H') fi mm.ns → rst (fun b => H b ≠ none ∨ b = q ∨ b = mh ∨ b = lk ∨ b = mk) H' fl = some (.lst (mm.ns.map V.str)) → mm.ns.length ≤ 100 → (∀ n ∈ mm.ns, n.length ≤ 1000) → Q (.ref q) H'
theorem ok_memory_mk {f : Addr} (T : Txt P w K mg) (F : Stands K "_law_memory" "_law_memory" s__law_memory [] f) (c__law_draw : Callable P w K mg base 1 (He.ga K "_law_draw") ["_law_stream", "_law_many"] [] spDraw) (c__law_pick : Callable P w K mg base 2 (He.ga K "_law_pick") ["_law_stream", "_law_some"] [] (spPick K))
    (c_MemoryHandler_init : Callable P w K mg base 3 (He.ma K (He.ga K "MemoryHandler") "__init__") ["self", "yard", "capacity", "flushLevel", "target", "flushOnClose"] [] (spMemInit K))
    (c_MemoryHandler_addFilter : Callable P w K mg base 1 (He.ma K (He.ga K "MemoryHandler") "addFilter") ["self", "one"] [] (spAddFilter K)) (c_Filter_init : Callable P w K mg base 1 (He.ma K (He.ga K "Filter") "__init__") ["self", "name"] [] (spFilterInit (K := K))) : Callable P w K mg base 7 f ["_law_stream", "_law_yard", "_law_target", "_law_handlers"] [] (spMemoryMk K) := by
  refine F.call0 sc__law_memory (fun vs H Q E h => ?_) (fun cdv A outer s0 H vs Q E hr h => ?_) (fun _ _ _ _ _ _ us hl => match us, hl with | [_, _, _, _], _ => rfl)
  · obtain ⟨s, l, y, md, na, nu, hl, n, xs, tg, rfl, _⟩ := h; rfl
  obtain ⟨s, l, y, md, na, nu, hl, n, xs, tg, rfl, hS, hn, hY, hmd, hxs, ms, ml, hls, hll, nhm, hT, hQ⟩ := h
  refine ⟨_, (pss_cons (ps_set (i := 4) sc__law_memory.nd rfl (by first | exact Or.inl rfl | exact Or.inr rfl) (pe_disp (pps_cons pe_str pe_str (pps_cons pe_str (pe_lst pa_nil) (pps_cons pe_str (pv 2) (pps_cons pe_str (pe_lst pa_nil) (pps_cons pe_str pe_bl (pps_cons pe_str pe_int pps_nil)))))) (by rfl) (by rfl) (fun z => by cases z) (by decide)))
      (pss_cons (ps_dput (hu_of hr) (pv 4) pe_str (pe_fn T.g__law_pick c__law_pick (hr.mono (by first | decide | exact Nat.le_refl _)) (by rfl) (pa_cons (pv 0) (pa_cons (pe_lst (pa_cons pe_int (pa_cons pe_int (pa_cons pe_int (pa_cons pe_int (pa_cons pe_int (pa_cons pe_int pa_nil))))))) pa_nil))) rfl)
      (pss_cons (ps_expr (pe_bm PySem.F.plainAttrs_dict PySem.F.slot_dict_update PySem.F.type_dict_update RF.mt_updD (pv 4) (pa_cons (pe_disp (pps_cons pe_str (pe_fn T.g__law_pick c__law_pick (hr.mono (by first | decide | exact Nat.le_refl _)) (by rfl) (pa_cons (pv 0) (pa_cons (pe_lst (pa_cons pe_int (pa_cons pe_int (pa_cons pe_int (pa_cons pe_int (pa_cons pe_int (pa_cons pe_int pa_nil))))))) pa_nil))) (pps_cons pe_str (pe_cmpR op_gt (pe_fn T.g__law_draw c__law_draw (hr.mono (by first | decide | exact Nat.le_refl _)) (by rfl) (pa_cons (pv 0) (pa_cons pe_int pa_nil))) pe_int (nomark _)) pps_nil)) (by rfl) (by rfl) (fun z => by cases z) (by decide)) pa_nil)))
      (pss_cons (ps_set (i := 5) sc__law_memory.nd rfl (by first | exact Or.inl rfl | exact Or.inr rfl) (pe_ifExp (pt_cmpR op_isN (pv 2) pe_non (nomark _)) pe_non (pe_dget (hu_of hr) (pe_ix ix_list (pv 3) (pv 2) (fun _ _ => rfl)) pe_str (fun _ _ => rfl))))
      (pss_cons (ps_dput (hu_of hr) (pv 4) pe_str (pe_mk T.k_MemoryHandler T.g_MemoryHandler c_MemoryHandler_init (hr.mono (by first | decide | exact Nat.le_refl _)) (by rfl) (pa_cons (pv 1) (pa_cons (pe_dget (hu_of hr) (pv 4) pe_str (fun _ _ => rfl)) (pa_cons (pe_dget (hu_of hr) (pv 4) pe_str (fun _ _ => rfl)) (pa_cons (pv 5) (pa_cons (pe_dget (hu_of hr) (pv 4) pe_str (fun _ _ => rfl)) pa_nil)))))) rfl)
      (pss_cons (ps_if (pt_cmpR op_eq (pe_fn T.g__law_draw c__law_draw (hr.mono (by first | decide | exact Nat.le_refl _)) (by rfl) (pa_cons (pv 0) (pa_cons pe_int pa_nil))) pe_int (nomark _)) (pss_cons (ps_dput (hu_of hr) (pv 4) pe_str (pe_lst (pa_cons (pe_fn T.g__law_pick c__law_pick (hr.mono (by first | decide | exact Nat.le_refl _)) (by rfl) (pa_cons (pv 0) (pa_cons (pe_lst (pa_cons pe_str (pa_cons pe_str (pa_cons pe_str pa_nil)))) pa_nil))) pa_nil)) rfl)
      (pss_one (ps_expr (pe_mt T.c_MemoryHandler T.m_MemoryHandler_addFilter c_MemoryHandler_addFilter (hr.mono (by first | decide | exact Nat.le_refl _)) (pe_dget (hu_of hr) (pv 4) pe_str (fun _ _ => rfl)) (pa_cons (pe_mk T.k_Filter T.g_Filter c_Filter_init (hr.mono (by first | decide | exact Nat.le_refl _)) (by rfl) (pa_cons (pe_ix ix_list (pe_dget (hu_of hr) (pv 4) pe_str (fun _ _ => rfl)) pe_int (fun _ _ => rfl)) pa_nil)) pa_nil))))) pss_nil)
      (pss_one (ps_ret (pv 4))))))))), ?_⟩
  walk_at "in"
  have n0 : n ≤ 1000000 := by omega
  have n1 : n + 1 ≤ 1000000 := by omega
  have n2 : n + 1 + 1 ≤ 1000000 := by omega
  have n3 : n + 1 + 1 + 1 ≤ 1000000 := by omega
  have n4 : n + 1 + 1 + 1 + 1 ≤ 1000000 := by omega
  have hs0 : H s ≠ none ∧ H l ≠ none ∧ H md ≠ none := by
    obtain ⟨_, _, _, _, _, g1, g2, _⟩ := hS
    exact ⟨(by rw [g1]; exact (fun z => nomatch z)), (by rw [g2]; exact (fun z => nomatch z)), (by rw [hmd]; exact (fun z => nomatch z))⟩
  refine seq_of (fun σ' H' => ∃ q fl lk : Addr, σ' = [some (.ref s), some (.ref y), some tg.v, some (.ref hl), some (.ref q), none] ∧ WQ H s l md q n (.lst xs) (.dK [(Sum.inr "kind", .str "memory"), (Sum.inr "filters", .ref fl), (Sum.inr "target", tg.v), (Sum.inr "kept", .ref lk), (Sum.inr "closed", .bl false), (Sum.inr "level", .int 0)]) H' ∧ rst (SQ H q) H' fl = some (.lst []) ∧ rst (SQ H q) H' lk = some (.lst []) ∧ fl ≠ lk) (fun b' kb => ?_) (fun σ' H1 hm => ?_)
  · walk_at "go"
    intro q fq
    walk_at "go"
    intro fl ff
    walk_at "go"
    intro lk fk
    walk_at "go"
    obtain ⟨ff1, ff2⟩ := upd_none ff
    obtain ⟨fk1, fk2⟩ := upd_none fk
    obtain ⟨fk3, fk4⟩ := upd_none fk2
    have s1 : Same H (upd (upd (upd (upd H q (.dK [])) fl (.lst [])) lk (.lst [])) q (.dK [(Sum.inr "kind", .str "memory"), (Sum.inr "filters", .ref fl), (Sum.inr "target", tg.v), (Sum.inr "kept", .ref lk), (Sum.inr "closed", .bl false), (Sum.inr "level", .int 0)])) := fun b u hb => by
      rw [upd_ne (ne_of_none hb fq), upd_ne (ne_of_none hb fk4), upd_ne (ne_of_none hb ff2), upd_ne (ne_of_none hb fq)]; exact hb
    refine kb _ _ ⟨q, fl, lk, rfl, ⟨fun b u _ hb => s1 b u hb, hS.same s1, s1 _ _ hmd, upd_same, fq, hs0, ⟨ms, ml⟩⟩, ?_, ?_, Ne.symm fk1⟩
    · refine rst_at ?_ fun z => z.elim (fun z => z ff2) ff1
      rw [upd_ne ff1, upd_ne (Ne.symm fk1)]; exact upd_same
    · refine rst_at ?_ fun z => z.elim (fun z => z fk4) fk3
      rw [upd_ne fk3]; exact upd_same
  obtain ⟨q, fl, lk, rfl, W1, hfl1, hlk1, nfk⟩ := hm
  -- the capacity
  refine seq_of (fun σ' H' => ∃ cap : Int, σ' = [some (.ref s), some (.ref y), some tg.v, some (.ref hl), some (.ref q), none] ∧ WQ H s l md q (n + 1) (.lst xs) (.dK [(Sum.inr "kind", .str "memory"), (Sum.inr "filters", .ref fl), (Sum.inr "target", tg.v), (Sum.inr "kept", .ref lk), (Sum.inr "closed", .bl false), (Sum.inr "level", .int 0), (Sum.inr "capacity", .int cap)]) H' ∧ rst (SQ H q) H' fl = some (.lst []) ∧ rst (SQ H q) H' lk = some (.lst [])) (fun b' kb => ?_) (fun σ' H2 hm => ?_)
  · have hS1 := W1.stm
    have hq1 := W1.hq
    walk_at "go"
    intro p fp
    obtain ⟨p1, p2⟩ := stm_new hS1 fp
    generalize hX : upd H1 p _ = Ha
    have hp := (congrFun hX p).symm
    rw [upd_same] at hp
    have sa : Same H1 Ha := by rw [← hX]; exact same_new fp _
    have hSa : Stm Ha s l (n) := by rw [← hX]; exact hS1.put p1 p2
    clear hX
    walk_at "go"
    intro Hb v ob hSb hv
    obtain ⟨cap, rfl⟩ : ∃ i : Int, v = .int i := by
      have e : ([.int 0, .int 1, .int 2, .int 3, .int 5, .int 100] : List V) = ([0, 1, 2, 3, 5, 100] : List Int).map V.int := rfl
      rw [e] at hv
      obtain ⟨i, hi, rfl⟩ := List.mem_map.mp hv
      exact ⟨i, rfl⟩
    obtain ⟨Wa, ra⟩ := W1.same sa
    obtain ⟨Wb, rb⟩ := Wa.draw ob hSb
    have hqb := Wb.hq
    obtain ⟨Wc, rc⟩ := Wb.setq (oq' := .dK [(Sum.inr "kind", .str "memory"), (Sum.inr "filters", .ref fl), (Sum.inr "target", tg.v), (Sum.inr "kept", .ref lk), (Sum.inr "closed", .bl false), (Sum.inr "level", .int 0), (Sum.inr "capacity", .int cap)])
    walk_at "go"
    exact kb _ _ ⟨cap, rfl, Wc, rc _ _ (rb _ _ (ra _ _ hfl1)), rc _ _ (rb _ _ (ra _ _ hlk1))⟩
  obtain ⟨cap, rfl, W2, hfl2, hlk2⟩ := hm
  clear W1 hfl1 hlk1
  -- least, flushes
  refine seq_of (fun σ' H' => ∃ (least : Int) (fc : Bool), σ' = [some (.ref s), some (.ref y), some tg.v, some (.ref hl), some (.ref q), none] ∧ WQ H s l md q (n + 1 + 1 + 1) (.lst xs) (.dK [(Sum.inr "kind", .str "memory"), (Sum.inr "filters", .ref fl), (Sum.inr "target", tg.v), (Sum.inr "kept", .ref lk), (Sum.inr "closed", .bl false), (Sum.inr "level", .int 0), (Sum.inr "capacity", .int cap), (Sum.inr "least", .int least), (Sum.inr "flushes", .bl fc)]) H' ∧ rst (SQ H q) H' fl = some (.lst []) ∧ rst (SQ H q) H' lk = some (.lst [])) (fun b' kb => ?_) (fun σ' H3 hm => ?_)
  · have hS2 := W2.stm
    have hq2 := W2.hq
    refine ⟨_, rfl, .inr (.inr (.inl ⟨rfl, .inl ⟨_, hq2⟩⟩)), ?_⟩
    walk_at "go"
    intro d fd
    obtain ⟨d1, d2⟩ := stm_new hS2 fd
    have hSd : Stm (upd H2 d (.dK [])) s l (n + 1) := hS2.put d1 d2
    have sd : Same H2 (upd H2 d (.dK [])) := same_new fd _
    have hd := upd_same (H := H2) (a := d) (o := .dK [])
    have nqd : q ≠ d := fun z => by rw [z, fd] at hq2; cases hq2
    generalize upd H2 d (.dK []) = Hd at hSd sd hd ⊢
    walk_at "go"
    intro p fp
    obtain ⟨p1, p2⟩ := stm_new hSd fp
    generalize hX : upd Hd p _ = Ha
    have hp := (congrFun hX p).symm
    rw [upd_same] at hp
    have sa : Same Hd Ha := by rw [← hX]; exact same_new fp _
    have hSa : Stm Ha s l (n + 1) := by rw [← hX]; exact hSd.put p1 p2
    clear hX
    walk_at "go"
    intro Hb v ob hSb hv
    obtain ⟨least, rfl⟩ : ∃ i : Int, v = .int i := by
      have e : ([.int 0, .int 10, .int 40, .int 41, .int 101, .int 101] : List V) = ([0, 10, 40, 41, 101, 101] : List Int).map V.int := rfl
      rw [e] at hv
      obtain ⟨i, hi, rfl⟩ := List.mem_map.mp hv
      exact ⟨i, rfl⟩
    walk_at "go"
    intro Hc dd oc hSc b1 b2
    obtain ⟨Wd, rd⟩ := W2.same sd
    obtain ⟨Wa, ra⟩ := Wd.same sa
    obtain ⟨Wb, rb⟩ := Wa.draw ob hSb
    obtain ⟨Wc, rc⟩ := Wb.draw oc hSc
    have hqc := Wc.hq
    have hdc : Hc d = some (.dK []) := oc _ _ d1 d2 (ob _ _ d1 d2 (sa _ _ hd))
    refine ⟨_, _, rfl, rfl, hdc, [(Sum.inr "least", .int least), (Sum.inr "flushes", .bl (decide (0 < dd)))], rfl, (by show 2 ≤ 15; decide), q, d, _, _, rfl, rfl, by rw [upd_ne nqd]; exact hqc, .inl upd_same, nqd, (by show 7 + 2 ≤ sizeLine; rw [sizeLine_eq]; decide), (by show 9 ≤ sizeLine; rw [sizeLine_eq]; decide), ?_⟩
    have fd0 := W2.free fd
    obtain ⟨q1, q2, q3⟩ := W2.apart W2.fq
    obtain ⟨_, _, d3⟩ := W2.apart fd0
    have keep : ∀ p, rst (SQ H q) H2 p = some (.lst []) → rst (SQ H q) (upd (upd Hc d (.dK [(Sum.inr "least", .int least), (Sum.inr "flushes", .bl (decide (0 < dd)))])) q (.dK [(Sum.inr "kind", .str "memory"), (Sum.inr "filters", .ref fl), (Sum.inr "target", tg.v), (Sum.inr "kept", .ref lk), (Sum.inr "closed", .bl false), (Sum.inr "level", .int 0), (Sum.inr "capacity", .int cap), (Sum.inr "least", .int least), (Sum.inr "flushes", .bl (decide (0 < dd)))])) p = some (.lst []) := fun p hp => by
      have out : ¬ SQ H q p := fun z => by rw [rst_none z] at hp; cases hp
      refine rst_at ?_ out
      rw [upd_ne fun z => out (.inr z), upd_ne fun z => by rw [z] at hp; rw [rst_same _ _ hp] at fd; cases fd]
      exact rst_same _ _ (rc _ _ (rb _ _ (ra _ _ (rd _ _ hp))))
    exact kb _ _ ⟨least, decide (0 < dd), rfl, ⟨(Wc.chg.new fd0).new W2.fq, (hSc.put d1 d2).put q1 q2, by rw [upd_ne (Ne.symm q3), upd_ne (Ne.symm d3)]; exact Wc.hmd, upd_same, W2.fq, hs0, ⟨ms, ml⟩⟩, keep _ hfl2, keep _ hlk2⟩
  obtain ⟨least, fc, rfl, W3, hfl3, hlk3⟩ := hm
  clear W2 hfl2 hlk2
  -- the target
  refine seq_of (fun σ' H' => σ' = [some (.ref s), some (.ref y), some tg.v, some (.ref hl), some (.ref q), some (tg.pv)] ∧ H3 = H') (fun b' kb => ?_) (fun σ' H4 hm => ?_)
  · cases tg with
    | none =>
      walk_at "go"
      exact kb _ _ ⟨rfl, rfl⟩
    | some tg =>
      obtain ⟨j, wq, it, x⟩ := tg
      obtain ⟨⟨qs, hqs, hqj⟩, hw, hwit⟩ := hT
      have tn : decide (V.int (j : Nat) = V.non) = false := rfl
      have hq3 := W3.hq
      have nqw : wq ≠ q := fun z => by rw [z, W3.fq] at hw; cases hw
      have hqs3 : H3 hl = some (.lst (qs.map V.ref)) := W3.chg _ _ (by simp [hls, hll, Ne.symm nhm]) hqs
      obtain ⟨w1, w2⟩ := stm_ne hS hw (fun _ z => nomatch z)
      have w3 : wq ≠ md := RW.ne_kind hw hmd (fun z => nomatch z)
      have hw3 : H3 wq = some (.dK x) := W3.chg _ _ (by simp [w1, w2, w3]) hw
      have hat : atI (qs.map V.ref) ((j : Nat) : Int) = some (.ref wq) := atI_nat (by rw [List.getElem?_map, hqj]; rfl)
      walk_at "go"
      exact kb _ _ ⟨rfl, rfl⟩
  obtain ⟨rfl, rfl⟩ := hm
  -- the handler
  have hY3 := hY.chg hS hmd W3.chg
  refine seq_of (fun σ' H' => ∃ mh dh fi mk : Addr, σ' = [some (.ref s), some (.ref y), some tg.v, some (.ref hl), some (.ref q), some (tg.pv)] ∧ WM H s l md q mh fi (n + 1 + 1 + 1) (.lst (xs ++ [.ref mh])) (.ins (CM K) dh (hdM fi y ⟨cap, least, fc, [], none, 0⟩ (tg.pv) mk)) (.dK (lmK fl tg.v lk ⟨cap, least, fc, [], none, 0⟩ mh)) (.lst []) H' ∧ rst (SM H q mh fi) H' fl = some (.lst []) ∧ rst (SM H q mh fi) H' lk = some (.lst []) ∧ rst (SM H q mh fi) H' mk = some (.lst []) ∧ lk ≠ mk ∧ fl ≠ mk) (fun b' kb => ?_) (fun σ' H4 hm => ?_)
  · obtain ⟨⟨dy, st, fi2, lm, hn2, fr, rt, lr, hy⟩, hna, hnu⟩ := id hY3
    have hq3 := W3.hq
    have hmd3 := W3.hmd
    have hfl3' := rst_same _ _ hfl3
    have hlk3' := rst_same _ _ hlk3
    walk_at "go"
    refine fun mh dh f1 f2 f3 => ?_
    have s3 : Same H3 (upd (upd H3 dh (.own mh)) mh (.ins (He.ga K "MemoryHandler") dh [])) := made_same f1 f2 (fun _ _ _ e => e)
    have nity : mh ≠ y := fun z => by rw [z, hy] at f1; cases f1
    have hy3 := s3 _ _ hy
    have hmd3b := s3 _ _ hmd3
    have hit3 := upd_same (H := upd H3 dh (.own mh)) (a := mh) (o := .ins (He.ga K "MemoryHandler") dh [])
    generalize upd (upd H3 dh (.own mh)) mh (.ins (He.ga K "MemoryHandler") dh []) = Hi at s3 hy3 hmd3b hit3 ⊢
    refine ⟨mh, dh, y, dy, md, _, _, _, _, _, xs, rfl, hit3, nity, hy3, rfl, rfl, hmd3b, (by omega), fun H' fi mk k1 k2 k3 k4 k5 k6 k7 k8 => ⟨rfl, ?_⟩⟩
    have k2b := s3.free k2
    have k3b := s3.free k3
    have nqi : q ≠ mh := fun z => by rw [z] at hq3; rw [hq3] at f1; cases f1
    have nqfi : q ≠ fi := fun z => by rw [z] at hq3; rw [hq3] at k2b; cases k2b
    have nqmk : q ≠ mk := fun z => by rw [z] at hq3; rw [hq3] at k3b; cases k3b
    have niti : mh ≠ fi := fun z => by rw [z, k2] at hit3; cases hit3
    have nmmk : mh ≠ mk := fun z => by rw [z, k3] at hit3; cases hit3
    have nqd : q ≠ md := (W3.apart W3.fq).2.2
    have q3 := k1 q _ nqi nqd (s3 _ _ hq3)
    walk_at "go"
    have fmh := W3.free f1
    have ffi := W3.free k2b
    have fmk := W3.free k3b
    have keep : ∀ (p : Addr) (D : HO), rst (SQ H q) H3 p = some (.lst []) → rst (SM H q mh fi) (upd H' q D) p = some (.lst []) := fun p D hp => by
      have out : ¬ SQ H q p := fun z => by rw [rst_none z] at hp; cases hp
      have hp3 := rst_same _ _ hp
      have n1 : p ≠ mh := fun z => by rw [z] at hp3; rw [hp3] at f1; cases f1
      have n2 : p ≠ fi := fun z => by rw [z] at hp3; rw [hp3] at k2b; cases k2b
      have n3 : p ≠ q := fun z => out (.inr z)
      refine rst_at ?_ fun z => ?_
      · rw [upd_ne n3]
        exact k1 _ _ n1 (fun z => out (.inl (by rw [z]; exact hs0.2.2))) (s3 _ _ hp3)
      · rcases z with z | z | z | z
        · exact out (.inl z)
        · exact n3 z
        · exact n1 z
        · exact n2 z
    have nlm : lk ≠ mk := fun z => by rw [z] at hlk3'; rw [hlk3'] at k3b; cases k3b
    have nfm : fl ≠ mk := fun z => by rw [z] at hfl3'; rw [hfl3'] at k3b; cases k3b
    refine kb _ _ ⟨mh, dh, fi, mk, rfl, ⟨fun b u nb h => ?_, ?_, by rw [upd_ne (Ne.symm nqd)]; exact k8, by rw [upd_ne (Ne.symm nqi)]; exact k5, upd_same, by rw [upd_ne (Ne.symm nqfi)]; exact k6, fmh, W3.fq, ffi, hs0, ⟨ms, ml⟩, nqi, nqfi, niti⟩, keep _ _ hfl3, keep _ _ hlk3, ?_, nlm, nfm⟩
    · have h2 := W3.chg _ _ nb h
      rw [upd_ne (fun z => by rw [z, W3.fq] at h; cases h)]
      exact k1 b u (fun z => by rw [z, fmh] at h; cases h) (fun z => nb (by rw [z]; simp)) (s3 _ _ h2)
    · obtain ⟨a0, a1, a2, a3, a4, g1, g2, g3⟩ := W3.stm
      obtain ⟨b1, b2, _⟩ := W3.apart W3.fq
      obtain ⟨i1, i2, _⟩ := W3.apart fmh
      exact ⟨a0, a1, a2, a3, a4, by rw [upd_ne (Ne.symm b1)]; exact k1 _ _ (Ne.symm i1) (Ne.symm ms) (s3 _ _ g1), by rw [upd_ne (Ne.symm b2)]; exact k1 _ _ (Ne.symm i2) (Ne.symm ml) (s3 _ _ g2), g3⟩
    · refine rst_at (by rw [upd_ne (Ne.symm nqmk)]; exact k7) fun z => ?_
      rcases z with z | z | z | z
      · exact z fmk
      · exact nqmk z.symm
      · exact nmmk z.symm
      · exact k4 z.symm
  obtain ⟨mh, dh, fi, mk, rfl, W4, hfl4, hlk4, hmk4, nlm, nfm⟩ := hm
  have nfl : fl ≠ lk := nfk
  have hS4 := W4.stm
  clear W3 hfl3 hlk3 hY3
  refine seq_of (fun σ' H' => ∃ (fl2 : Addr) (ns : List Str) (as : List Addr), σ' = [some (.ref s), some (.ref y), some tg.v, some (.ref hl), some (.ref q), some (tg.pv)] ∧ WM H s l md q mh fi (n + 5) (.lst (xs ++ [.ref mh])) (.ins (CM K) dh (hdM fi y ⟨cap, least, fc, [], none, 0⟩ (tg.pv) mk)) (.dK (lmK fl2 tg.v lk ⟨cap, least, fc, [], none, 0⟩ mh)) (.lst (as.map V.ref)) H' ∧ rst (SM H q mh fi) H' fl2 = some (.lst (ns.map V.str)) ∧ rst (SM H q mh fi) H' lk = some (.lst []) ∧ rst (SM H q mh fi) H' mk = some (.lst []) ∧ fl2 ≠ lk ∧ fl2 ≠ mk ∧ as.length = ns.length ∧ as.length ≤ 1 ∧ (∀ n ∈ ns, n.length ≤ 1000) ∧
      (∀ (k : Nat) (a : Addr), as[k]? = some a → ∃ n, ns[k]? = some n ∧ FilterAt K (rst (SM H q mh fi) H') a n)) (fun b' kb => ?_) (fun σ' H9 hm => ?_)
  · walk_at "go"
    intro H7 dd o7 hS7 d1 d2
    obtain ⟨W7, r7⟩ := W4.draw o7 hS7
    have hq7 := W7.hq
    by_cases c : dd = 0
    · have td : decide (V.int dd = V.int 0) = true := decide_eq_true (congrArg V.int c)
      walk_at "go"
      intro p fp
      obtain ⟨p1, p2⟩ := stm_new hS7 fp
      generalize hX : upd H7 p _ = Ha
      have hp := (congrFun hX p).symm
      rw [upd_same] at hp
      have sa : Same H7 Ha := by rw [← hX]; exact same_new fp _
      have hSa : Stm Ha s l (n + 1 + 1 + 1 + 1) := by rw [← hX]; exact hS7.put p1 p2
      clear hX
      walk_at "go"
      intro Hb v ob hSb hv
      obtain ⟨nm, hnm, rfl⟩ : ∃ nm : Str, nm.length ≤ 1000 ∧ v = .str nm := by
        simp only [List.mem_cons, List.not_mem_nil, or_false] at hv
        rcases hv with rfl | rfl | rfl <;> exact ⟨_, by decide +kernel, rfl⟩
      obtain ⟨Wa, ra⟩ := W7.same sa
      obtain ⟨Wb, rb⟩ := Wa.draw ob hSb
      walk_at "go"
      intro fl2 ff2
      have sc := same_new ff2 (.lst [.str nm])
      have hfc := upd_same (H := Hb) (a := fl2) (o := .lst [.str nm])
      obtain ⟨Wc, rc⟩ := Wb.same sc
      have hfl2c := Wb.at_ hfc ff2
      generalize upd Hb fl2 (.lst [.str nm]) = Hc at sc hfc Wc rc hfl2c ⊢
      have nfl2 : ∀ p, rst (SM H q mh fi) H4 p = some (.lst []) → fl2 ≠ p := fun p hp z => by rw [← z] at hp; rw [rst_same _ _ (rb _ _ (ra _ _ (r7 _ _ hp)))] at ff2; cases ff2
      have hqc := Wc.hq
      obtain ⟨Wd, rd⟩ := Wc.setq (oq' := .dK (putK (lmK fl tg.v lk ⟨cap, least, fc, [], none, 0⟩ mh) (Sum.inr "filters") (.ref fl2)))
      have nqf2 : q ≠ fl2 := fun z => by rw [z] at hqc; rw [hqc] at hfc; cases hfc
      have hfd : upd Hc q (.dK (putK (lmK fl tg.v lk ⟨cap, least, fc, [], none, 0⟩ mh) (Sum.inr "filters") (.ref fl2))) fl2 = some (.lst [.str nm]) := by rw [upd_ne (Ne.symm nqf2)]; exact hfc
      have hid := Wd.hit
      have hqd := Wd.hq
      walk_at "go"
      intro a da f1 f2 f3
      have se : Same (upd Hc q (.dK (putK (lmK fl tg.v lk ⟨cap, least, fc, [], none, 0⟩ mh) (Sum.inr "filters") (.ref fl2)))) (upd (upd (upd Hc q (.dK (putK (lmK fl tg.v lk ⟨cap, least, fc, [], none, 0⟩ mh) (Sum.inr "filters") (.ref fl2)))) da (.own a)) a (.ins (He.ga K "Filter") da [("name", .str nm)])) := made_same f1 f2 (fun _ _ _ e => e)
      refine ⟨_, a, da, .str nm, rfl, upd_same, T.c_Filter, T.n_Filter_name, rfl, ?_⟩
      rw [upd_upd]
      obtain ⟨We, re⟩ := Wd.same se
      have hae := upd_same (H := upd (upd Hc q (.dK (putK (lmK fl tg.v lk ⟨cap, least, fc, [], none, 0⟩ mh) (Sum.inr "filters") (.ref fl2)))) da (.own a)) (a := a) (o := .ins (He.ga K "Filter") da [("name", .str nm)])
      have hae2 := Wd.at_ hae f1
      generalize upd (upd (upd Hc q (.dK (putK (lmK fl tg.v lk ⟨cap, least, fc, [], none, 0⟩ mh) (Sum.inr "filters") (.ref fl2)))) da (.own a)) a (.ins (He.ga K "Filter") da [("name", .str nm)]) = He2 at se We re hae hae2 ⊢
      refine ⟨mh, CM K, dh, fi, a, _, [], rfl, ⟨We.hit, T.c_MemoryHandler, T.n_MemoryHandler_filters, rfl, We.hfi, by decide, by show 12 < 100; decide⟩, (fun b hb => by rw [List.mem_singleton.mp hb]; exact ⟨da, _, hae⟩), ?_⟩
      rw [if_neg (fun h => nomatch h)]
      obtain ⟨Wf, rf⟩ := We.setf (of' := .lst (([] ++ [a]).map V.ref))
      have rall := fun b u h => rf b u (re b u (rd b u (rc b u (rb b u (ra b u (r7 b u h))))))
      refine kb _ _ ⟨fl2, [nm], [a], rfl, Wf, rf _ _ (re _ _ (rd _ _ hfl2c)), rall _ _ hlk4, rall _ _ hmk4, nfl2 _ hlk4, nfl2 _ hmk4, rfl, Nat.le_refl _, (fun z hz => by rw [List.mem_singleton.mp hz]; exact hnm), fun k2 a2 hk2 => ?_⟩
      match k2, hk2 with
      | 0, hk2 => cases hk2; exact ⟨nm, rfl, ⟨da, rf _ _ hae2⟩, by omega⟩
      | (_ + 1), hk2 => cases hk2
    · have td : decide (V.int dd = V.int 0) = false := decide_eq_false fun z => c (V.int.inj z)
      walk_at "go"
      exact kb _ _ ⟨fl, [], [], rfl, W7.mono (by omega), r7 _ _ hfl4, r7 _ _ hlk4, r7 _ _ hmk4, nfl, nfm, rfl, by decide, (fun _ h => nomatch h), (fun _ _ h => nomatch h)⟩
  obtain ⟨fl2, ns, as, rfl, W9, hfl9, hlk9, hmk9, nfl2, nfm2, hl1, hl2', hn9, hA9⟩ := hm
  walk_at "go"
  have outM : ∀ (p : Addr) (o : HO), rst (SM H q mh fi) H9 p = some o → ¬ SM H q mh fi p := fun p o hp z => by rw [rst_none z] at hp; cases hp
  have to5 : ∀ (p : Addr) (o : HO), rst (SM H q mh fi) H9 p = some o → p ≠ lk → p ≠ mk → rst (fun b => H b ≠ none ∨ b = q ∨ b = mh ∨ b = lk ∨ b = mk) H9 p = some o := fun p o hp n1 n2 => by
    have out := outM p o hp
    refine rst_at (rst_same _ _ hp) fun z => ?_
    rcases z with z | z | z | z | z
    · exact out (.inl z)
    · exact out (.inr (.inl z))
    · exact out (.inr (.inr (.inl z)))
    · exact n1 z
    · exact n2 z
  have flk : H lk = none := Classical.byContradiction fun z => outM _ _ hlk9 (.inl z)
  have fmk : H mk = none := Classical.byContradiction fun z => outM _ _ hmk9 (.inl z)
  have h5 : as.length ≤ 100 := by omega
  refine hQ H9 q mh dh fi fl2 lk mk ⟨cap, least, fc, ns, none, 0⟩ ⟨rfl, rfl⟩ W9.chg W9.stm W9.hmd W9.hq W9.hit (rst_same _ _ hlk9) (rst_same _ _ hmk9) ⟨W9.fq, W9.fit, flk, fmk, nlm⟩ ⟨as, rst_at W9.hfi ?_, hl1, h5, fun k a hk => ?_⟩ (to5 _ _ hfl9 nfl2 nfm2) (by show ns.length ≤ 100; omega) hn9
  · intro z
    rcases z with z | z | z | z | z
    · exact z W9.ffi
    · exact W9.d2 z.symm
    · exact W9.d3 z.symm
    · exact outM _ _ hlk9 (.inr (.inr (.inr z.symm)))
    · exact outM _ _ hmk9 (.inr (.inr (.inr z.symm)))
  · obtain ⟨n, h1, ⟨dx, h2⟩, h3⟩ := hA9 k a hk
    exact ⟨n, h1, ⟨dx, to5 _ _ h2 (fun z => by rw [z, hlk9] at h2; cases h2) (fun z => by rw [z, hmk9] at h2; cases h2)⟩, h3⟩
end
end K17

set_option Elab.async false
set_option linter.all false
set_option maxRecDepth 100000
set_option maxHeartbeats 0
namespace K17
open PySem PySem.Spec PyProof.Rows L2 RC
section
variable {P : Program} {w : World} {K : PySem.W.Frag} {mg : Str → Option Value} {base : Heap}
/-! ### what the texts are, deed by deed -/
theorem putS_keys (ts : List (Str × Str)) (k t : Str) : (putS ts k t).map (·.1) = ts.map (·.1) ∨ (k ∉ ts.map (·.1) ∧ (putS ts k t).map (·.1) = ts.map (·.1) ++ [k]) := by
  unfold putS
  by_cases c : ts.any (fun e => decide (e.1 = k)) = true
  · rw [if_pos c, List.map_map]
    refine .inl (List.map_congr_left fun e _ => ?_)
    show (if e.1 = k then (e.1, t) else e).1 = e.1
    split <;> rfl
  · rw [if_neg c]
    refine .inr ⟨fun h => c ?_, by rw [List.map_append]; rfl⟩
    obtain ⟨e, he, rfl⟩ := List.mem_map.mp h
    exact List.any_eq_true.mpr ⟨e, he, decide_eq_true rfl⟩
theorem putS_nd {ts : List (Str × Str)} (nd : (ts.map (·.1)).Nodup) (k t : Str) : ((putS ts k t).map (·.1)).Nodup := by
  rcases putS_keys ts k t with h | ⟨h1, h2⟩
  · rw [h]; exact nd
  · rw [h2]
    refine List.nodup_append.mpr ⟨nd, List.nodup_cons.mpr ⟨List.not_mem_nil, List.nodup_nil⟩, fun a ha b hb z => h1 ?_⟩
    cases List.mem_singleton.mp hb
    rw [← z]; exact ha
theorem putS_mem {ts : List (Str × Str)} {k t : Str} {e : Str × Str} (h : e ∈ putS ts k t) : e ∈ ts ∨ e.2 = t := by
  unfold putS at h
  split at h
  · obtain ⟨e', h1, rfl⟩ := List.mem_map.mp h
    split
    · exact .inr rfl
    · exact .inl h1
  · rcases List.mem_append.mp h with h | h
    · exact .inl h
    · cases List.mem_singleton.mp h; exact .inr rfl

structure TsOk (a b : Str) (ts : List (Str × Str)) : Prop where
  nd : (ts.map (·.1)).Nodup
  ne : ∀ e ∈ ts, e.2 ≠ ""
  ks : ∀ x ∈ ts.map (·.1), x = a ∨ x = b
theorem TsOk.nil {a b : Str} : TsOk a b [] := ⟨List.nodup_nil, (fun _ h => nomatch h), (fun _ h => nomatch h)⟩
theorem two_keys {a b : Str} : ∀ (ks : List Str), ks.Nodup → (∀ x ∈ ks, x = a ∨ x = b) → ks.length ≤ 2
  | [], _, _ => by decide
  | [_], _, _ => by show 1 ≤ 2; decide
  | [_, _], _, _ => Nat.le_refl _
  | x :: y :: z :: r, nd, h => by
    have n1 := List.nodup_cons.mp nd
    have n2 := List.nodup_cons.mp n1.2
    have nxy : x ≠ y := fun e => n1.1 (by rw [e]; simp)
    have nxz : x ≠ z := fun e => n1.1 (by rw [e]; simp)
    have nyz : y ≠ z := fun e => n2.1 (by rw [e]; simp)
    rcases h x (by simp) with rfl | rfl
    · rcases h y (by simp) with rfl | rfl
      · exact absurd rfl nxy
      rcases h z (by simp) with rfl | rfl
      · exact absurd rfl nxz
      · exact absurd rfl nyz
    · rcases h y (by simp) with rfl | rfl
      · rcases h z (by simp) with rfl | rfl
        · exact absurd rfl nyz
        · exact absurd rfl nxz
      · exact absurd rfl nxy
theorem TsOk.l64 {a b : Str} {ts : List (Str × Str)} (h : TsOk a b ts) : ts.length < 64 := by
  have := two_keys _ h.nd h.ks
  rw [List.length_map] at this; omega
theorem TsOk.put {a b k t : Str} {ts : List (Str × Str)} (h : TsOk a b ts) (hk : k = a ∨ k = b) (ht : t ≠ "") : TsOk a b (putS ts k t) := by
  refine ⟨putS_nd h.nd k t, fun e he => ?_, fun x hx => ?_⟩
  · rcases putS_mem he with z | z
    · exact h.ne _ z
    · rw [z]; exact ht
  · rcases putS_keys ts k t with z | ⟨_, z⟩
    · rw [z] at hx; exact h.ks _ hx
    · rw [z] at hx
      rcases List.mem_append.mp hx with hx | hx
      · exact h.ks _ hx
      · rw [List.mem_singleton.mp hx]; exact hk
theorem nl_ne (x y : Str) : x ++ (y ++ ("\n" : Str)) ≠ "" := fun z => by
  have e := congrArg Str.length z
  rw [len_app, len_app] at e
  have e1 : ("\n" : Str).length = 1 := by decide +kernel
  have e2 : ("" : Str).length = 0 := by decide +kernel
  omega
theorem TsOk.hand {a b nm : Str} {wr : Wr} {c : Bool} {o : TxO} {ts fs : List (Str × Str)} (h : TsOk a b ts) (hk : wr.sn = a ∨ wr.sn = b) (ht : wr.tm = "\n") : TsOk a b (handO c o wr nm ts fs).1 := by
  cases c with
  | false => exact h
  | true =>
    cases o with
    | tx t =>
      refine h.put hk ?_
      rw [ht]; exact nl_ne _ _
    | msg => exact h
    | fld m => exact h
end
end K17

set_option Elab.async false
set_option linter.all false
set_option maxRecDepth 100000
set_option maxHeartbeats 0
namespace K17
open PySem PySem.Spec PyProof.Rows L2 RC
section
variable {P : Program} {w : World} {K : PySem.W.Frag} {mg : Str → Option Value} {base : Heap}
/-! ### the forms' parts -/
def Fm.ps : Fm → List PtT
  | .no => []
  | .nm => [.inr [110, 97, 109, 101], .inl 58, .inr [109, 101, 115, 115, 97, 103, 101]]
  | .lv => [.inr [108, 101, 118, 101, 108, 110, 111], .inl 59]
  | .gm => [.inr [103, 111, 110, 101], .inr [109, 101, 115, 115, 97, 103, 101]]
  | .mg => [.inr [109, 101, 115, 115, 97, 103, 101], .inr [103, 111, 110, 101]]
theorem Fm.plB : ∀ f : Fm, PlB f.z.cps.toList f.ps
  | .no => by
    have e : Fm.no.z.cps.toList = [] := by decide +kernel
    rw [e]; exact .nil
  | .nm => by
    have e : Fm.nm.z.cps.toList = 123 :: ([110, 97, 109, 101] ++ 125 :: (58 :: (123 :: ([109, 101, 115, 115, 97, 103, 101] ++ 125 :: [])))) := by decide +kernel
    rw [e]
    exact .fld (by decide) (by decide) (by decide) (by decide) (.ch (by decide) (by decide) (.fld (by decide) (by decide) (by decide) (by decide) .nil))
  | .lv => by
    have e : Fm.lv.z.cps.toList = 123 :: ([108, 101, 118, 101, 108, 110, 111] ++ 125 :: [59]) := by decide +kernel
    rw [e]
    exact .fld (by decide) (by decide) (by decide) (by decide) (.ch (by decide) (by decide) .nil)
  | .gm => by
    have e : Fm.gm.z.cps.toList = 123 :: ([103, 111, 110, 101] ++ 125 :: (123 :: ([109, 101, 115, 115, 97, 103, 101] ++ 125 :: []))) := by decide +kernel
    rw [e]
    exact .fld (by decide) (by decide) (by decide) (by decide) (.fld (by decide) (by decide) (by decide) (by decide) .nil)
  | .mg => by
    have e : Fm.mg.z.cps.toList = 123 :: ([109, 101, 115, 115, 97, 103, 101] ++ 125 :: (123 :: ([103, 111, 110, 101] ++ 125 :: []))) := by decide +kernel
    rw [e]
    exact .fld (by decide) (by decide) (by decide) (by decide) (.fld (by decide) (by decide) (by decide) (by decide) .nil)
theorem Fm.zlen (f : Fm) : f.z.length ≤ 1000 := by cases f <;> decide +kernel
theorem Fm.vz : ∀ f : Fm, f = .no ∧ f.v = .non ∨ f ≠ .no ∧ f.v = .str f.z ∧ f.fo = some (joinP f.ps) ∧ ((f.ps.map tB).all id) = false ∧ PsOk (joinP f.ps)
  | .no => .inl ⟨rfl, rfl⟩
  | .nm => .inr ⟨(fun h => nomatch h), rfl, (by decide +kernel), (by decide +kernel), (by decide +kernel), (fun z h => (by
      have e : joinP Fm.nm.ps = [.inr "name", .inl ":", .inr "message"] := by decide +kernel
      rw [e] at h
      simp at h; subst h; decide +kernel)), (fun n h => (by
      have e : joinP Fm.nm.ps = [.inr "name", .inl ":", .inr "message"] := by decide +kernel
      rw [e] at h
      simp at h; rcases h with rfl | rfl <;> decide +kernel))⟩
  | .lv => .inr ⟨(fun h => nomatch h), rfl, (by decide +kernel), (by decide +kernel), (by decide +kernel), (fun z h => (by
      have e : joinP Fm.lv.ps = [.inr "levelno", .inl ";"] := by decide +kernel
      rw [e] at h
      simp at h; subst h; decide +kernel)), (fun n h => (by
      have e : joinP Fm.lv.ps = [.inr "levelno", .inl ";"] := by decide +kernel
      rw [e] at h
      simp at h; subst h; decide +kernel))⟩
  | .gm => .inr ⟨(fun h => nomatch h), rfl, (by decide +kernel), (by decide +kernel), (by decide +kernel), (fun z h => (by
      have e : joinP Fm.gm.ps = [.inr "gone", .inr "message"] := by decide +kernel
      rw [e] at h
      simp at h)), (fun n h => (by
      have e : joinP Fm.gm.ps = [.inr "gone", .inr "message"] := by decide +kernel
      rw [e] at h
      simp at h; rcases h with rfl | rfl <;> decide +kernel))⟩
  | .mg => .inr ⟨(fun h => nomatch h), rfl, (by decide +kernel), (by decide +kernel), (by decide +kernel), (fun z h => (by
      have e : joinP Fm.mg.ps = [.inr "message", .inr "gone"] := by decide +kernel
      rw [e] at h
      simp at h)), (fun n h => (by
      have e : joinP Fm.mg.ps = [.inr "message", .inr "gone"] := by decide +kernel
      rw [e] at h
      simp at h; rcases h with rfl | rfl <;> decide +kernel))⟩
end
end K17

set_option Elab.async false
set_option linter.all false
set_option maxRecDepth 100000
set_option maxHeartbeats 0

namespace K17
open PySem PySem.Spec PyProof.Rows L2 RC
section
variable {P : Program} {w : World} {K : PySem.W.Frag} {mg : Str → Option Value} {base : Heap}
/-! ### writers made -/
/-- the names that a Filter may have here -/
def spWriterMk (K : PySem.W.Frag) : Sp := fun vs H Q _ => ∃ (s l y md na nu : Addr) (n k : Nat) (xs : List V), vs = [.ref s, .ref y, .int (k : Nat)] ∧ Stm H s l n ∧ n + 4 ≤ 1000000 ∧ k < 24 ∧ YdAt K H y md na nu ∧ H md = some (.lst xs) ∧ xs.length ≤ 100 ∧ md ≠ s ∧ md ≠ l ∧
  ∀ (H' : Hp) (q it dh fi fl : Addr) (fv : V) (x : LWr), Chg [s, l, md] H H' → Stm H' s l (n + 4) → H' md = some (.lst (xs ++ [.ref it])) → x.Ok → x.sn = ("s" : Str) ++ Str.ofString (toString (k : Int)) → H' it = some (.ins (CS K) dh (hdS fi y x.lv fv "
" x.sn false)) → H' q = some (.dK (wrK fl x.f x.sn it x.lv false)) → H it = none → H q = none → q ≠ it →
    FormV K (rst (fun b => H b ≠ none ∨ b = q ∨ b = it) H') x.f.fo fv → FlAt K (rst (fun b => H b ≠ none ∨ b = q ∨ b = it) H') fi x.ns → rst (fun b => H b ≠ none ∨ b = q ∨ b = it) H' fl = some (.lst (x.ns.map V.str)) → Q (.ref q) H'
theorem ok_writer_mk {f : Addr} (T : Txt P w K mg) (F : Stands K "_law_writer" "_law_writer" s__law_writer [] f) (c__law_draw : Callable P w K mg base 1 (He.ga K "_law_draw") ["_law_stream", "_law_many"] [] spDraw) (c__law_pick : Callable P w K mg base 2 (He.ga K "_law_pick") ["_law_stream", "_law_some"] [] (spPick K))
    (c_StreamHandler_init : Callable P w K mg base 3 (He.ma K (He.ga K "StreamHandler") "__init__") ["self", "yard", "stream"] [] (spStreamInit K)) (c_StreamHandler_setLevel : Callable P w K mg base 3 (He.ma K (He.ga K "StreamHandler") "setLevel") ["self", "level"] [] (spSetLevel K))
    (c_StreamHandler_setFormatter : Callable P w K mg base 1 (He.ma K (He.ga K "StreamHandler") "setFormatter") ["self", "formatter"] [] (spSetFm K)) (c_Formatter_init_d3 : Callable P w K mg base 5 (He.ma K (He.ga K "Formatter") "__init__") ["self", "fmt", "style", "validate", "defaults"] [.str "{", .bl true, .non] (spFmInit K))
    (c_StreamHandler_addFilter : Callable P w K mg base 1 (He.ma K (He.ga K "StreamHandler") "addFilter") ["self", "one"] [] (spAddFilter K)) (c_Filter_init : Callable P w K mg base 1 (He.ma K (He.ga K "Filter") "__init__") ["self", "name"] [] (spFilterInit (K := K))) : Callable P w K mg base 7 f ["_law_stream", "_law_yard", "_law_nth"] [] (spWriterMk K) := by
  refine F.call0 sc__law_writer (fun vs H Q E h => ?_) (fun cdv A outer s0 H vs Q E hr h => ?_) (fun _ _ _ _ _ _ us hl => match us, hl with | [_, _, _], _ => rfl)
  · obtain ⟨s, l, y, md, na, nu, n, k, xs, rfl, _⟩ := h; rfl
  obtain ⟨s, l, y, md, na, nu, n, k, xs, rfl, hS, hn, hk, hY, hmd, hxs, ms, ml, hQ⟩ := h
  refine ⟨_, (pss_cons (ps_set (i := 3) sc__law_writer.nd rfl (by first | exact Or.inl rfl | exact Or.inr rfl) (pe_fn T.g__law_pick c__law_pick (hr.mono (by first | decide | exact Nat.le_refl _)) (by rfl) (pa_cons (pv 0) (pa_cons (pe_lst (pa_cons pe_non (pa_cons pe_non (pa_cons pe_str (pa_cons pe_str (pa_cons pe_str (pa_cons pe_str pa_nil))))))) pa_nil))))
      (pss_cons (ps_set (i := 4) sc__law_writer.nd rfl (by first | exact Or.inl rfl | exact Or.inr rfl) (pe_disp (pps_cons pe_str pe_str (pps_cons pe_str (pe_lst pa_nil) (pps_cons pe_str (pv 3) (pps_cons pe_str (pe_op op_add_str pe_str (pe_callTy call_str_int (by rfl) T.b_str (by decide +kernel) (pa_cons (pv 2) pa_nil))) pps_nil)))) (by rfl) (by rfl) (fun z => by cases z) (by decide)))
      (pss_cons (ps_dput (hu_of hr) (pv 4) pe_str (pe_mk T.k_StreamHandler T.g_StreamHandler c_StreamHandler_init (hr.mono (by first | decide | exact Nat.le_refl _)) (by rfl) (pa_cons (pv 1) (pa_cons (pe_dget (hu_of hr) (pv 4) pe_str (fun _ _ => rfl)) pa_nil))) rfl)
      (pss_cons (ps_dput (hu_of hr) (pv 4) pe_str (pe_fn T.g__law_pick c__law_pick (hr.mono (by first | decide | exact Nat.le_refl _)) (by rfl) (pa_cons (pv 0) (pa_cons (pe_lst (pa_cons pe_int (pa_cons pe_int (pa_cons pe_int (pa_cons pe_int pa_nil))))) pa_nil))) rfl)
      (pss_cons (ps_expr (pe_mt T.c_StreamHandler T.m_StreamHandler_setLevel c_StreamHandler_setLevel (hr.mono (by first | decide | exact Nat.le_refl _)) (pe_dget (hu_of hr) (pv 4) pe_str (fun _ _ => rfl)) (pa_cons (pe_dget (hu_of hr) (pv 4) pe_str (fun _ _ => rfl)) pa_nil)))
      (pss_cons (ps_if (pt_cmpR op_notN (pv 3) pe_non (nomark _)) (pss_one (ps_expr (pe_mt T.c_StreamHandler T.m_StreamHandler_setFormatter c_StreamHandler_setFormatter (hr.mono (by first | decide | exact Nat.le_refl _)) (pe_dget (hu_of hr) (pv 4) pe_str (fun _ _ => rfl)) (pa_cons (pe_mk T.k_Formatter T.g_Formatter c_Formatter_init_d3 (hr.mono (by first | decide | exact Nat.le_refl _)) (by rfl) (pa_cons (pv 3) pa_nil)) pa_nil)))) pss_nil)
      (pss_cons (ps_if (pt_cmpR op_eq (pe_fn T.g__law_draw c__law_draw (hr.mono (by first | decide | exact Nat.le_refl _)) (by rfl) (pa_cons (pv 0) (pa_cons pe_int pa_nil))) pe_int (nomark _)) (pss_cons (ps_dput (hu_of hr) (pv 4) pe_str (pe_lst (pa_cons (pe_fn T.g__law_pick c__law_pick (hr.mono (by first | decide | exact Nat.le_refl _)) (by rfl) (pa_cons (pv 0) (pa_cons (pe_lst (pa_cons pe_str (pa_cons pe_str (pa_cons pe_str (pa_cons pe_str pa_nil))))) pa_nil))) pa_nil)) rfl)
      (pss_one (ps_expr (pe_mt T.c_StreamHandler T.m_StreamHandler_addFilter c_StreamHandler_addFilter (hr.mono (by first | decide | exact Nat.le_refl _)) (pe_dget (hu_of hr) (pv 4) pe_str (fun _ _ => rfl)) (pa_cons (pe_mk T.k_Filter T.g_Filter c_Filter_init (hr.mono (by first | decide | exact Nat.le_refl _)) (by rfl) (pa_cons (pe_ix ix_list (pe_dget (hu_of hr) (pv 4) pe_str (fun _ _ => rfl)) pe_int (fun _ _ => rfl)) pa_nil)) pa_nil))))) pss_nil)
      (pss_one (ps_ret (pv 4)))))))))), ?_⟩
  walk_at "in"
  have n0 : n ≤ 1000000 := by omega
  have n1 : n + 1 ≤ 1000000 := by omega
  have n2 : n + 1 + 1 ≤ 1000000 := by omega
  have n3 : n + 1 + 1 + 1 ≤ 1000000 := by omega
  refine seq_of (fun σ' H' => ∃ f : Fm, σ' = [some (.ref s), some (.ref y), some (.int (k : Nat)), some f.v, none] ∧ Old s l H H' ∧ Stm H' s l (n + 1)) (fun b' kb => ?_) (fun σ' H1 hm => ?_)
  · walk_at "go"
    intro p fp
    obtain ⟨p1, p2⟩ := stm_new hS fp
    generalize hX : upd H p _ = H1
    have hp := (congrFun hX p).symm
    rw [upd_same] at hp
    have s1 : Same H H1 := by rw [← hX]; exact same_new fp _
    have hS1 : Stm H1 s l (n) := by rw [← hX]; exact hS.put p1 p2
    clear hX
    walk_at "go"
    intro H2 v o2 hS2 hv
    obtain ⟨f, rfl⟩ : ∃ f : Fm, v = f.v := by
      simp only [List.mem_cons, List.not_mem_nil, or_false] at hv
      rcases hv with rfl | rfl | rfl | rfl | rfl | rfl
      · exact ⟨.no, rfl⟩
      · exact ⟨.no, rfl⟩
      · exact ⟨.nm, rfl⟩
      · exact ⟨.lv, rfl⟩
      · exact ⟨.gm, rfl⟩
      · exact ⟨.mg, rfl⟩
    walk_at "go"
    exact kb _ _ ⟨f, rfl, same_old s1 o2, hS2⟩
  obtain ⟨fm, rfl, o1, hS1⟩ := hm
  have hY1 := hY.old hS o1
  have hmd1 := o1 _ _ ms ml hmd
  have hl2 : ((k : Nat) : Int).natAbs.log2 < 1920 := by
    by_cases c : ((k : Nat) : Int).natAbs = 0
    · rw [c]; decide
    · have := (Nat.log2_lt (k := 63) c).mpr (by omega); omega
  have hln : (Str.ofString "s").length + (Str.ofString (toString (k : Int))).length ≤ sizeLine := by
    have h1 := int_len (i := (k : Int)) (by omega)
    have e : (Str.ofString "s").length = 1 := by decide +kernel
    rw [e, sizeLine_eq]; omega
  -- the law's row
  refine seq_of (fun σ' H' => ∃ q fl : Addr, σ' = [some (.ref s), some (.ref y), some (.int (k : Nat)), some fm.v, some (.ref q)] ∧ Same H1 H' ∧ H1 q = none ∧ H1 fl = none ∧ q ≠ fl ∧ H' fl = some (.lst []) ∧ H' q = some (.dK [(Sum.inr "kind", .str "writer"), (Sum.inr "filters", .ref fl), (Sum.inr "form", fm.v), (Sum.inr "stream", .str (("s" : Str) ++ Str.ofString (toString (k : Int))))])) (fun b' kb => ?_) (fun σ' H2 hm => ?_)
  · walk_at "go"
    intro q fq
    walk_at "go"
    intro fl ff
    walk_at "go"
    obtain ⟨ff1, ff2⟩ := upd_none ff
    refine kb _ _ ⟨q, fl, rfl, fun b u hb => ?_, fq, ff2, Ne.symm ff1, ?_, upd_same⟩
    · rw [upd_ne (ne_of_none hb fq), upd_ne (ne_of_none hb ff2), upd_ne (ne_of_none hb fq)]; exact hb
    · rw [upd_ne ff1]; exact upd_same
  obtain ⟨q, fl, rfl, s2, fq, ff, nqf, hfl2, hq2⟩ := hm
  generalize ("s" : Str) ++ Str.ofString (toString (k : Int)) = sn at hQ hq2 ⊢
  have hY2 := hY1.same s2
  have hS2 := hS1.same s2
  have hmd2 := s2 _ _ hmd1
  -- the handler
  have fq0 : H q = none := old_free o1 hS1 fq
  have ff0 : H fl = none := old_free o1 hS1 ff
  have hs0 : H s ≠ none ∧ H l ≠ none ∧ H md ≠ none := by
    obtain ⟨_, _, _, _, _, g1, g2, _⟩ := hS
    exact ⟨(by rw [g1]; exact (fun z => nomatch z)), (by rw [g2]; exact (fun z => nomatch z)), (by rw [hmd]; exact (fun z => nomatch z))⟩
  have c2 : Chg [s, l, md] H H2 := fun b u nb h => s2 _ _ (o1 b u (fun z => nb (by rw [z]; simp)) (fun z => nb (by rw [z]; simp)) h)
  have nqm : q ≠ md := fun z => by rw [z, hmd] at fq0; cases fq0
  refine seq_of (fun σ' H' => ∃ it dh fi : Addr, σ' = [some (.ref s), some (.ref y), some (.int (k : Nat)), some fm.v, some (.ref q)] ∧ WM H s l md q it fi (n + 1) (.lst (xs ++ [.ref it])) (.ins (CS K) dh (hdS fi y 0 .non "
" sn false)) (.dK [(Sum.inr "kind", .str "writer"), (Sum.inr "filters", .ref fl), (Sum.inr "form", fm.v), (Sum.inr "stream", .str sn), (Sum.inr "it", .ref it)]) (.lst []) H' ∧ rst (SM H q it fi) H' fl = some (.lst [])) (fun b' kb => ?_) (fun σ' H3 hm => ?_)
  · obtain ⟨⟨dy, st, fi2, lm, hn2, fr, rt, lr, hy⟩, hna, hnu⟩ := id hY2
    walk_at "go"
    intro it dh f1 f2 f3
    have s3 : Same H2 (upd (upd H2 dh (.own it)) it (.ins (He.ga K "StreamHandler") dh [])) := made_same f1 f2 (fun _ _ _ e => e)
    have nity : it ≠ y := fun z => by rw [z, hy] at f1; cases f1
    have hy3 := s3 _ _ hy
    have hmd3 := s3 _ _ hmd2
    have hit3 := upd_same (H := upd H2 dh (.own it)) (a := it) (o := .ins (He.ga K "StreamHandler") dh [])
    generalize upd (upd H2 dh (.own it)) it (.ins (He.ga K "StreamHandler") dh []) = Hi at s3 hy3 hmd3 hit3 ⊢
    refine ⟨it, dh, y, dy, md, sn, _, xs, rfl, hit3, nity, hy3, rfl, rfl, hmd3, (by omega), fun H' fi k1 k2 k3 k4 k5 => ⟨rfl, ?_⟩⟩
    have k2b := s3.free k2
    have nqi : q ≠ it := fun z => by rw [z] at hq2; rw [hq2] at f1; cases f1
    have nqfi : q ≠ fi := fun z => by rw [z] at hq2; rw [hq2] at k2b; cases k2b
    have niti : it ≠ fi := fun z => by rw [z, k2] at hit3; cases hit3
    have nqd : q ≠ md := nqm
    have q3 := k1 q _ nqi nqd (s3 _ _ hq2)
    walk_at "go"
    have fit0 : H it = none := old_free o1 hS1 (s2.free f1)
    have ffi0 : H fi = none := old_free o1 hS1 (s2.free k2b)
    have nm2 : md ≠ it := fun z => by rw [z] at hmd2; rw [hmd2] at f1; cases f1
    obtain ⟨its1, its2⟩ := stm_new hS2 f1
    have fl3 : H' fl = some (.lst []) := k1 fl _ (fun z => by rw [z] at hfl2; rw [hfl2] at f1; cases f1) (fun z => by rw [z, hmd] at ff0; cases ff0) (s3 _ _ hfl2)
    have nqf2 : q ≠ fl := nqf
    refine kb _ _ ⟨it, dh, fi, rfl, ⟨fun b u nb h => ?_, ?_, by rw [upd_ne (Ne.symm nqm)]; exact k5, by rw [upd_ne (Ne.symm nqi)]; exact k3, upd_same, by rw [upd_ne (Ne.symm nqfi)]; exact k4, fit0, fq0, ffi0, hs0, ⟨ms, ml⟩, nqi, nqfi, niti⟩, ?_⟩
    · have h2 := c2 _ _ nb h
      rw [upd_ne (fun z => by rw [z, fq0] at h; cases h)]
      exact k1 b u (fun z => by rw [z, fit0] at h; cases h) (fun z => nb (by rw [z]; simp)) (s3 _ _ h2)
    · obtain ⟨a0, a1, a2, a3, a4, g1, g2, g3⟩ := hS2
      obtain ⟨b1, b2⟩ := stm_ne (p := q) ⟨a0, a1, a2, a3, a4, g1, g2, g3⟩ hq2 (fun _ z => nomatch z)
      exact ⟨a0, a1, a2, a3, a4, by rw [upd_ne (Ne.symm b1)]; exact k1 _ _ (Ne.symm its1) (Ne.symm ms) (s3 _ _ g1), by rw [upd_ne (Ne.symm b2)]; exact k1 _ _ (Ne.symm its2) (Ne.symm ml) (s3 _ _ g2), g3⟩
    · refine rst_at (by rw [upd_ne (Ne.symm nqf2)]; exact fl3) fun z => ?_
      rcases z with z | z | z | z
      · exact z ff0
      · exact nqf2 z.symm
      · rw [z] at hfl2; rw [hfl2] at f1; cases f1
      · rw [z] at hfl2; rw [hfl2] at k2b; cases k2b
  obtain ⟨it, dh, fi, rfl, W3, hfl3⟩ := hm
  have hY3 := hY.chg hS hmd W3.chg
  clear hY1 hY2 hS1 hS2 hmd1 hmd2 o1 s2 fq ff hfl2 hq2 c2
  -- the level
  refine seq_of (fun σ' H' => ∃ lv : Int, σ' = [some (.ref s), some (.ref y), some (.int (k : Nat)), some fm.v, some (.ref q)] ∧ WM H s l md q it fi (n + 1 + 1) (.lst (xs ++ [.ref it])) (.ins (CS K) dh (hdS fi y 0 .non "
" sn false)) (.dK (wrK fl fm sn it lv false)) (.lst []) H' ∧ rst (SM H q it fi) H' fl = some (.lst [])) (fun b' kb => ?_) (fun σ' H4 hm => ?_)
  · have hS3 := W3.stm
    have hq3 := W3.hq
    walk_at "go"
    intro p fp
    obtain ⟨p1, p2⟩ := stm_new hS3 fp
    generalize hX : upd H3 p _ = Ha
    have hp := (congrFun hX p).symm
    rw [upd_same] at hp
    have sa : Same H3 Ha := by rw [← hX]; exact same_new fp _
    have hSa : Stm Ha s l (n + 1) := by rw [← hX]; exact hS3.put p1 p2
    clear hX
    walk_at "go"
    intro Hb v ob hSb hv
    obtain ⟨lv, rfl⟩ : ∃ i : Int, v = .int i := by
      have e : ([.int 0, .int 10, .int 30, .int 1000] : List V) = ([0, 10, 30, 1000] : List Int).map V.int := rfl
      rw [e] at hv
      obtain ⟨i, hi, rfl⟩ := List.mem_map.mp hv
      exact ⟨i, rfl⟩
    obtain ⟨Wa, ra⟩ := W3.same sa
    obtain ⟨Wb, rb⟩ := Wa.draw ob hSb
    have hqb := Wb.hq
    obtain ⟨Wc, rc⟩ := Wb.setq (oq' := .dK (wrK fl fm sn it lv false))
    walk_at "go"
    exact kb _ _ ⟨lv, rfl, Wc, rc _ _ (rb _ _ (ra _ _ hfl3))⟩
  obtain ⟨lv, rfl, W4, hfl4⟩ := hm
  have hY4 := hY.chg hS hmd W4.chg
  refine seq_of (fun σ' H' => σ' = [some (.ref s), some (.ref y), some (.int (k : Nat)), some fm.v, some (.ref q)] ∧ WM H s l md q it fi (n + 1 + 1) (.lst (xs ++ [.ref it])) (.ins (CS K) dh (hdS fi y lv .non "
" sn false)) (.dK (wrK fl fm sn it lv false)) (.lst []) H' ∧ rst (SM H q it fi) H' fl = some (.lst [])) (fun b' kb => ?_) (fun σ' H5 hm => ?_)
  · obtain ⟨⟨dy, st, fi2, lm, hn2, fr, rt, lr, hy⟩, hna, hnu⟩ := id hY4
    have hq4 := W4.hq
    have hi4 := W4.hit
    obtain ⟨Wc, rc⟩ := W4.seti (oi' := .ins (CS K) dh (hdS fi y lv .non "
" sn false))
    refine ⟨_, rfl, _, _, rfl, RW.dget_s hq4 rfl, it, dh, _, rfl, hi4, rfl, _, rfl, _, _, rfl, RW.dget_s hq4 rfl, ?_⟩
    refine ⟨it, CS K, dh, fi, y, dy, nu, _, _, _, lv, rfl, hi4, ⟨T.c_StreamHandler, T.n_StreamHandler_filters, T.n_StreamHandler_yard, T.n_StreamHandler_level, T.n_StreamHandler_formatter, T.n_StreamHandler_name, T.n_StreamHandler_terminator, T.n_StreamHandler_closed⟩, rfl, (by show 8 < 1000; decide), hy, rfl, rfl, hnu, ?_⟩
    exact kb _ _ ⟨rfl, Wc, rc _ _ hfl4⟩
  obtain ⟨rfl, W5, hfl5⟩ := hm
  clear W3 W4 hfl3 hfl4 hY3 hY4
  -- the formatter
  refine seq_of (fun σ' H' => ∃ fv, σ' = [some (.ref s), some (.ref y), some (.int (k : Nat)), some fm.v, some (.ref q)] ∧ WM H s l md q it fi (n + 1 + 1) (.lst (xs ++ [.ref it])) (.ins (CS K) dh (hdS fi y lv fv "
" sn false)) (.dK (wrK fl fm sn it lv false)) (.lst []) H' ∧ rst (SM H q it fi) H' fl = some (.lst []) ∧ FormV K (rst (SM H q it fi) H') fm.fo fv) (fun b' kb => ?_) (fun σ' H6 hm => ?_)
  · have hq5 := W5.hq
    have hi5 := W5.hit
    rcases fm.vz with ⟨e1, e2⟩ | ⟨e1, e2, e3, e4, e5⟩
    · have tn : (!decide (fm.v = V.non)) = false := by rw [e2]; rfl
      walk_at "go"
      refine kb _ _ ⟨.non, rfl, W5, hfl5, ?_⟩
      rw [e1]; exact rfl
    · have tn : (!decide (fm.v = V.non)) = true := by rw [e2]; rfl
      have hzl := fm.zlen
      have hPl := fm.plB
      rw [e2]
      rw [e2] at tn
      refine ⟨_, rfl, rfl, _, rfl, iteT' tn ?_⟩
      refine ⟨_, rfl, _, _, rfl, RW.dget_s hq5 rfl, it, dh, _, rfl, hi5, rfl, ?_⟩
      walk_at "go"
      intro m dm f1 f2 f3
      have s6 : Same H5 (upd (upd H5 dm (.own m)) m (.ins (CFm K) dm [])) := made_same f1 f2 (fun _ _ _ e => e)
      have hm6 := upd_same (H := upd H5 dm (.own m)) (a := m) (o := .ins (CFm K) dm [])
      generalize upd (upd H5 dm (.own m)) m (.ins (CFm K) dm []) = Hm at s6 hm6 ⊢
      refine ⟨m, dm, fm.z, fm.ps, rfl, hm6, hzl, hPl, e4, fun H' keep hFm => ⟨rfl, ?_⟩⟩
      have s7 : Same H5 H' := fun b u hb => keep b u (ne_of_none hb f1) (s6 _ _ hb)
      obtain ⟨W6, r6⟩ := W5.same s7
      have hi6 := W6.hit
      obtain ⟨W7, r7⟩ := W6.seti (oi' := .ins (CS K) dh (hdS fi y lv (.ref m) "
" sn false))
      refine ⟨it, dh, _, _, rfl, hi6, (by show 8 < 1000; decide), ?_⟩
      refine kb _ _ ⟨.ref m, by rw [e2], W7, r7 _ _ (r6 _ _ hfl5), ?_⟩
      rw [e3]
      refine ⟨m, rfl, (hFm.same fun b u e => ?_), e5⟩
      have e6 := rst_same _ _ e
      have nS : ¬ (Hm b ≠ none ∧ b ≠ m) := fun z => by rw [rst_none (S := fun b => Hm b ≠ none ∧ b ≠ m) z] at e; cases e
      have f5 : H5 b = none := by
        by_cases c : b = m
        · rw [c]; exact f1
        · exact s6.free (Classical.byContradiction fun z => nS ⟨z, c⟩)
      exact r7 _ _ (rst_at e6 (W5.out f5))
  obtain ⟨fv, rfl, W6, hfl6, hF6⟩ := hm
  clear W5 hfl5
  have hS6 := W6.stm
  refine seq_of (fun σ' H' => ∃ (fl2 : Addr) (ns : List Str) (as : List Addr), σ' = [some (.ref s), some (.ref y), some (.int (k : Nat)), some fm.v, some (.ref q)] ∧ WM H s l md q it fi (n + 4) (.lst (xs ++ [.ref it])) (.ins (CS K) dh (hdS fi y lv fv "
" sn false)) (.dK (wrK fl2 fm sn it lv false)) (.lst (as.map V.ref)) H' ∧ rst (SM H q it fi) H' fl2 = some (.lst (ns.map V.str)) ∧ FormV K (rst (SM H q it fi) H') fm.fo fv ∧ as.length = ns.length ∧ as.length ≤ 1 ∧ (∀ n ∈ ns, n.length ≤ 1000) ∧
      (∀ (k : Nat) (a : Addr), as[k]? = some a → ∃ n, ns[k]? = some n ∧ FilterAt K (rst (SM H q it fi) H') a n)) (fun b' kb => ?_) (fun σ' H9 hm => ?_)
  · walk_at "go"
    intro H7 dd o7 hS7 d1 d2
    obtain ⟨W7, r7⟩ := W6.draw o7 hS7
    have hq7 := W7.hq
    by_cases c : dd = 0
    · have td : decide (V.int dd = V.int 0) = true := decide_eq_true (congrArg V.int c)
      walk_at "go"
      intro p fp
      obtain ⟨p1, p2⟩ := stm_new hS7 fp
      generalize hX : upd H7 p _ = Ha
      have hp := (congrFun hX p).symm
      rw [upd_same] at hp
      have sa : Same H7 Ha := by rw [← hX]; exact same_new fp _
      have hSa : Stm Ha s l (n + 1 + 1 + 1) := by rw [← hX]; exact hS7.put p1 p2
      clear hX
      walk_at "go"
      intro Hb v ob hSb hv
      obtain ⟨nm, hnm, rfl⟩ : ∃ nm : Str, nm.length ≤ 1000 ∧ v = .str nm := by
        simp only [List.mem_cons, List.not_mem_nil, or_false] at hv
        rcases hv with rfl | rfl | rfl | rfl <;> exact ⟨_, by decide +kernel, rfl⟩
      obtain ⟨Wa, ra⟩ := W7.same sa
      obtain ⟨Wb, rb⟩ := Wa.draw ob hSb
      walk_at "go"
      intro fl2 ff2
      have sc := same_new ff2 (.lst [.str nm])
      have hfc := upd_same (H := Hb) (a := fl2) (o := .lst [.str nm])
      obtain ⟨Wc, rc⟩ := Wb.same sc
      have hfl2c := Wb.at_ hfc ff2
      generalize upd Hb fl2 (.lst [.str nm]) = Hc at sc hfc Wc rc hfl2c ⊢
      have hqc := Wc.hq
      obtain ⟨Wd, rd⟩ := Wc.setq (oq' := .dK (putK (wrK fl fm sn it lv false) (Sum.inr "filters") (.ref fl2)))
      have nqf2 : q ≠ fl2 := fun z => by rw [z] at hqc; rw [hqc] at hfc; cases hfc
      have hfd : upd Hc q (.dK (putK (wrK fl fm sn it lv false) (Sum.inr "filters") (.ref fl2))) fl2 = some (.lst [.str nm]) := by rw [upd_ne (Ne.symm nqf2)]; exact hfc
      have hid := Wd.hit
      have hqd := Wd.hq
      walk_at "go"
      intro a da f1 f2 f3
      have se : Same (upd Hc q (.dK (putK (wrK fl fm sn it lv false) (Sum.inr "filters") (.ref fl2)))) (upd (upd (upd Hc q (.dK (putK (wrK fl fm sn it lv false) (Sum.inr "filters") (.ref fl2)))) da (.own a)) a (.ins (He.ga K "Filter") da [("name", .str nm)])) := made_same f1 f2 (fun _ _ _ e => e)
      refine ⟨_, a, da, .str nm, rfl, upd_same, T.c_Filter, T.n_Filter_name, rfl, ?_⟩
      rw [upd_upd]
      obtain ⟨We, re⟩ := Wd.same se
      have hae := upd_same (H := upd (upd Hc q (.dK (putK (wrK fl fm sn it lv false) (Sum.inr "filters") (.ref fl2)))) da (.own a)) (a := a) (o := .ins (He.ga K "Filter") da [("name", .str nm)])
      have hae2 := Wd.at_ hae f1
      generalize upd (upd (upd Hc q (.dK (putK (wrK fl fm sn it lv false) (Sum.inr "filters") (.ref fl2)))) da (.own a)) a (.ins (He.ga K "Filter") da [("name", .str nm)]) = He2 at se We re hae hae2 ⊢
      refine ⟨it, CS K, dh, fi, a, _, [], rfl, ⟨We.hit, T.c_StreamHandler, T.n_StreamHandler_filters, rfl, We.hfi, by decide, by show 8 < 100; decide⟩, (fun b hb => by rw [List.mem_singleton.mp hb]; exact ⟨da, _, hae⟩), ?_⟩
      rw [if_neg (fun h => nomatch h)]
      obtain ⟨Wf, rf⟩ := We.setf (of' := .lst (([] ++ [a]).map V.ref))
      have rall := fun b u h => rf b u (re b u (rd b u (rc b u (rb b u (ra b u (r7 b u h))))))
      refine kb _ _ ⟨fl2, [nm], [a], rfl, Wf, rf _ _ (re _ _ (rd _ _ hfl2c)), hF6.same rall, rfl, Nat.le_refl _, (fun z hz => by rw [List.mem_singleton.mp hz]; exact hnm), fun k2 a2 hk2 => ?_⟩
      match k2, hk2 with
      | 0, hk2 => cases hk2; exact ⟨nm, rfl, ⟨da, rf _ _ hae2⟩, by omega⟩
      | (_ + 1), hk2 => cases hk2
    · have td : decide (V.int dd = V.int 0) = false := decide_eq_false fun z => c (V.int.inj z)
      walk_at "go"
      exact kb _ _ ⟨fl, [], [], rfl, W7.mono (by omega), r7 _ _ hfl6, hF6.same r7, rfl, by decide, (fun _ h => nomatch h), (fun _ _ h => nomatch h)⟩
  obtain ⟨fl2, ns, as, rfl, W9, hfl9, hF9, hl1, hl2', hn9, hA9⟩ := hm
  walk_at "go"
  have up : Same (rst (SM H q it fi) H9) (rst (fun b => H b ≠ none ∨ b = q ∨ b = it) H9) := fun b u e => by
    have e2 := rst_same _ _ e
    refine rst_at e2 fun z => ?_
    rw [rst_none (show SM H q it fi b from z.elim .inl fun z => z.elim (fun z => .inr (.inl z)) fun z => .inr (.inr (.inl z)))] at e; cases e
  have hfi9 : rst (fun b => H b ≠ none ∨ b = q ∨ b = it) H9 fi = some (.lst (as.map V.ref)) := rst_at W9.hfi fun z => z.elim (fun z => z W9.ffi) fun z => z.elim (fun z => W9.d2 z.symm) fun z => W9.d3 z.symm
  refine hQ H9 q it dh fi fl2 fv ⟨fm, lv, sn, ns⟩ W9.chg W9.stm W9.hmd ⟨by show ns.length ≤ 100; omega, hn9⟩ rfl W9.hit W9.hq W9.fit W9.fq W9.d1 (hF9.same up) ⟨as, hfi9, hl1, by omega, fun k a hk => ?_⟩ (up _ _ hfl9)
  obtain ⟨n, h1, h2⟩ := hA9 k a hk
  exact ⟨n, h1, h2.same up⟩
end
end K17

set_option Elab.async false
set_option linter.all false
set_option maxRecDepth 100000
set_option maxHeartbeats 0

namespace K17
open PySem PySem.Spec PyProof.Rows L2 RC
section
variable {P : Program} {w : World} {K : PySem.W.Frag} {mg : Str → Option Value} {base : Heap}
/-! ### same, of texts and tuples -/
theorem walkZT {K : PySem.W.Frag} {a b : Addr} {xs ys : List V} (e : xs.length = ys.length) : Walk (RZ.ItzT K a b) xs.length (fun H => SqT K H a xs ∧ SqT K H b ys) (YPair (fun i => xs[i]?) (fun i => ys[i]?)) := by
  constructor
  · intro j _ hj ⟨ea, eb⟩
    have hj2 : j < ys.length := e ▸ hj
    exact ⟨xs, ys, _, _, ea, eb, List.getElem?_eq_getElem hj, List.getElem?_eq_getElem hj2⟩
  · intro _ ⟨ea, eb⟩
    exact ⟨xs, ys, ea, eb, Or.inl (Nat.le_refl _)⟩
  · intro j _ _ _ _ ⟨ea, eb⟩ ⟨T, x, z, k1, k2, k3, k4, k5⟩
    exact ⟨T, x, z, k1, k2, k3, k4 _ ea, k5 _ eb⟩
theorem walkZL {K : PySem.W.Frag} {a b : Addr} {xs ys : List V} (e : xs.length = ys.length) : Walk (Itz K a b) xs.length (fun H => SqL K H a xs ∧ SqL K H b ys) (YPair (fun i => xs[i]?) (fun i => ys[i]?)) := by
  constructor
  · intro j _ hj ⟨ea, eb⟩
    have hj2 : j < ys.length := e ▸ hj
    exact ⟨xs, ys, _, _, ea, eb, List.getElem?_eq_getElem hj, List.getElem?_eq_getElem hj2⟩
  · intro _ ⟨ea, eb⟩
    exact ⟨xs, ys, ea, eb, Or.inl (Nat.le_refl _)⟩
  · intro j _ _ _ _ ⟨ea, eb⟩ ⟨T, x, z, k1, k2, k3, k4, k5⟩
    exact ⟨T, x, z, k1, k2, k3, k4 _ ea, k5 _ eb⟩
/-- what is the same, up to n deep -/
inductive SameD (H : Hp) : Nat → V → V → Prop where
  | str (n : Nat) (x : Str) : SameD H (n + 1) (.str x) (.str x)
  | non (n : Nat) : SameD H (n + 1) .non .non
  | int (n : Nat) (i : Int) : SameD H (n + 1) (.int i) (.int i)
  | bl (n : Nat) (b : Bool) : SameD H (n + 1) (.bl b) (.bl b)
  | tup {n : Nat} {a b : Addr} {xs ys : List V} (ha : H a = some (.tup xs)) (hb : H b = some (.tup ys)) (hl : xs.length = ys.length) (hs : xs.length ≤ 1000000) (h : ∀ (i : Nat) (x y : V), xs[i]? = some x → ys[i]? = some y → SameD H n x y) : SameD H (n + 1) (.ref a) (.ref b)
  | lst {n : Nat} {a b : Addr} {xs ys : List V} (ha : H a = some (.lst xs)) (hb : H b = some (.lst ys)) (hl : xs.length = ys.length) (hs : xs.length ≤ 1000000) (h : ∀ (i : Nat) (x y : V), xs[i]? = some x → ys[i]? = some y → SameD H n x y) : SameD H (n + 1) (.ref a) (.ref b)
theorem SameD.same {H H' : Hp} (s : Same H H') : ∀ {n : Nat} {x y : V}, SameD H n x y → SameD H' n x y
  | _, _, _, .str n x => .str n x
  | _, _, _, .non n => .non n
  | _, _, _, .int n i => .int n i
  | _, _, _, .bl n b => .bl n b
  | _, _, _, .tup ha hb hl hs h => .tup (s _ _ ha) (s _ _ hb) hl hs fun i x y hx hy => (h i x y hx hy).same s
  | _, _, _, .lst ha hb hl hs h => .lst (s _ _ ha) (s _ _ hb) hl hs fun i x y hx hy => (h i x y hx hy).same s
def spSame (n : Nat) : Sp := fun vs H Q _ => ∃ x y : V, vs = [x, y] ∧ SameD H n x y ∧ ∀ H', Same H H' → Q (.bl true) H'
theorem ok_same {f : Addr} (T : Txt P w K mg) (F : Stands K "_law_same" "_law_same" s__law_same [] f) (e : f = He.ga K "_law_same") : ∀ n : Nat, Callable P w K mg base (n + 1) f ["_law_found", "_law_due"] [] (spSame n)
  | 0 => by
    refine F.call0 sc__law_same (fun vs H Q E h => ?_) (fun cdv A outer s H vs Q E hr h => ?_) (fun _ _ _ _ _ _ us hl => match us, hl with | [_, _], _ => rfl)
    · obtain ⟨x, y, rfl, _⟩ := h; rfl
    · obtain ⟨x, y, rfl, h, _⟩ := h; cases h
  | n + 1 => by
    have c__law_same := ok_same T F e n
    rw [e] at c__law_same
    refine F.call0 sc__law_same (fun vs H Q E h => ?_) (fun cdv A outer s H vs Q E hr h => ?_) (fun _ _ _ _ _ _ us hl => match us, hl with | [_, _], _ => rfl)
    · obtain ⟨x, y, rfl, _⟩ := h; rfl
    obtain ⟨x, y, rfl, h, hQ⟩ := h
    refine ⟨_, (pss_cons (ps_if (pt_val (pe_callB call_isiT (by rfl) T.b_isinstance (by decide +kernel) (pa_cons (pv 1) (pa_cons (pe_tup (pa_cons (pe_bltn (v := .ty "list") (u := .type "list") (by rfl) T.b_list (by decide +kernel) rfl) (pa_cons (pe_bltn (v := .ty "tuple") (u := .type "tuple") (by rfl) T.b_tuple (by decide +kernel) rfl) pa_nil))) pa_nil)))) (pss_cons (ps_if (PW.pt (pw_or (pt_cmpR op_ne (pe_callB call_isi (by rfl) T.b_isinstance (by decide +kernel) (pa_cons (pv 0) (pa_cons (pe_bltn (v := .ty "list") (u := .type "list") (by rfl) T.b_list (by decide +kernel) rfl) pa_nil))) (pe_callB call_isi (by rfl) T.b_isinstance (by decide +kernel) (pa_cons (pv 1) (pa_cons (pe_bltn (v := .ty "list") (u := .type "list") (by rfl) T.b_list (by decide +kernel) rfl) pa_nil))) (nomark _)) (pw_or1 (pt_cmpR op_ne (pe_callB call_isi (by rfl) T.b_isinstance (by decide +kernel) (pa_cons (pv 0) (pa_cons (pe_bltn (v := .ty "tuple") (u := .type "tuple") (by rfl) T.b_tuple (by decide +kernel) rfl) pa_nil))) (pe_callB call_isi (by rfl) T.b_isinstance (by decide +kernel) (pa_cons (pv 1) (pa_cons (pe_bltn (v := .ty "tuple") (u := .type "tuple") (by rfl) T.b_tuple (by decide +kernel) rfl) pa_nil))) (nomark _))))) (pss_one (ps_ret pe_bl)) pss_nil)
      (pss_one (ps_ret (pe_and (pe_cmpR op_eq (pe_callB call_len (by rfl) T.b_len (by decide +kernel) (pa_cons (pv 0) pa_nil)) (pe_callB call_len (by rfl) T.b_len (by decide +kernel) (pa_cons (pv 1) pa_nil)) (nomark _)) (pe_one (pe_callB (cr_all rfl) (by rfl) T.b_all (by decide +kernel) (pa_cons (pe_lc (own := [("_law_one", 2), ("_law_other", 3)]) (by rfl) sc__law_same.nd (RZ.pi_zipA (by rfl) T.b_zip (pa_cons (pv 0) (pa_cons (pv 1) pa_nil))) (blkOk_by (own := [("_law_one", 2), ("_law_other", 3)]) (N := nm__law_same) (sc := defScope s__law_same) (by decide +kernel)) (fun _ _ _ _ _ => (RG.pg_tupK (K := K) (n := 2) (by rfl) (pgs_cons (pg_name (i := 2) sc__law_same.nd rfl (by first | exact Or.inl rfl | exact Or.inr rfl)) (pgs_cons (pg_name (i := 3) sc__law_same.nd rfl (by first | exact Or.inl rfl | exact Or.inr rfl)) pgs_nil)))) (fun _ _ _ _ _ => pts_nil) (fun _ _ _ _ _ => (pe_fn T.g__law_same c__law_same (hr.mono (by first | decide | exact Nat.le_refl _)) (by rfl) (pa_cons (pv 2) (pa_cons (pv 3) pa_nil))))) pa_nil))))))) pss_nil)
      (pss_cons (ps_if (pt_val (pe_callB call_isi (by rfl) T.b_isinstance (by decide +kernel) (pa_cons (pv 1) (pa_cons (pe_bltn (v := .ty "int") (u := .type "int") (by rfl) T.b_int (by decide +kernel) rfl) pa_nil)))) (pss_one (ps_ret (pe_and (pe_callB call_isi (by rfl) T.b_isinstance (by decide +kernel) (pa_cons (pv 0) (pa_cons (pe_bltn (v := .ty "int") (u := .type "int") (by rfl) T.b_int (by decide +kernel) rfl) pa_nil))) (pe_and (pe_cmpR op_eq (pe_callB call_isi (by rfl) T.b_isinstance (by decide +kernel) (pa_cons (pv 0) (pa_cons (pe_bltn (v := .ty "bool") (u := .type "bool") (by rfl) T.b_bool (by decide +kernel) rfl) pa_nil))) (pe_callB call_isi (by rfl) T.b_isinstance (by decide +kernel) (pa_cons (pv 1) (pa_cons (pe_bltn (v := .ty "bool") (u := .type "bool") (by rfl) T.b_bool (by decide +kernel) rfl) pa_nil))) (nomark _)) (pe_one (pe_cmpR op_eq (pv 0) (pv 1) (nomark _))))))) pss_nil)
      (pss_one (ps_ret (pe_and (pe_cmpR op_eq (pv 0) (pv 1) (nomark _)) (pe_one (pe_cmpR op_isBl (pe_callB call_isiT (by rfl) T.b_isinstance (by decide +kernel) (pa_cons (pv 0) (pa_cons (pe_tup (pa_cons (pe_bltn (v := .ty "int") (u := .type "int") (by rfl) T.b_int (by decide +kernel) rfl) (pa_cons (pe_bltn (v := .ty "list") (u := .type "list") (by rfl) T.b_list (by decide +kernel) rfl) (pa_cons (pe_bltn (v := .ty "tuple") (u := .type "tuple") (by rfl) T.b_tuple (by decide +kernel) rfl) pa_nil)))) pa_nil))) pe_bl (nomark _)))))))), ?_⟩
    walk_at "in"
    cases h with
    | str _ x =>
      walk_at "gi"
      refine iteT' (decide_eq_true rfl) ?_
      walk_at "gi"
      exact hQ _ (by walk_at "sm")
    | non =>
      walk_at "gi"
      exact hQ _ (by walk_at "sm")
    | int _ i =>
      walk_at "gi"
      rw [show decide (V.int i = V.int i) = true from decide_eq_true rfl]
      exact hQ _ (by walk_at "sm")
    | bl _ i =>
      walk_at "gi"
      rw [show decide (V.bl i = V.bl i) = true from decide_eq_true rfl]
      exact hQ _ (by walk_at "sm")
    | @tup _ a b xs ys ha hb hl hs h =>
      walk_at "gi"
      have el : decide (V.int xs.length = V.int ys.length) = true := by rw [hl]; exact decide_eq_true rfl
      walk_at "gi"
      rename_i T0 fT0
      have s0 : Same H (upd H T0 (.tup [.ty "list", .ty "tuple"])) := same_new fT0 _
      generalize upd H T0 (.tup [.ty "list", .ty "tuple"]) = H1 at s0 ⊢
      refine .inr ⟨SqT.of (s0 _ _ ha), SqT.of (s0 _ _ hb), fun D fD' => ?_⟩
      refine lc_it (walkZT (xs := xs) (ys := ys) hl) (fun i H' => Same H1 H' ∧ H' D = some (.lst ((List.replicate i true).map V.bl))) ⟨same_new fD' _, upd_same⟩ (fun i H' _ h => ⟨SqT.of (h.1 _ _ (s0 _ _ ha)), SqT.of (h.1 _ _ (s0 _ _ hb))⟩) (fun i v H2 H3 hi hP hv => ?_) (fun H2 hP => ?_)
      · obtain ⟨T, x, y, rfl, fT, rfl, hx, hy⟩ := hv
        obtain ⟨s2, d2⟩ := hP
        have s23 : Same H1 (upd H2 T (.tup [x, y])) := s2.trans (same_new fT _)
        have hd := (h i x y hx hy).same (s0.trans s23)
        have d3 : upd H2 T (.tup [x, y]) D = some (.lst ((List.replicate i true).map V.bl)) := same_new fT _ _ _ d2
        have q3 : upd H2 T (.tup [x, y]) T = some (.tup [x, y]) := upd_same
        clear fT
        generalize upd H2 T (.tup [x, y]) = H3 at hd d3 q3 s23
        walk_at "go"
        intro H4 s4
        walk_at "go"
        rw [upd_same, List.replicate_succ', List.map_append]; rfl
      · obtain ⟨s2, d2⟩ := hP
        refine ⟨D, List.replicate xs.length true, rfl, SqL.of d2, ?_⟩
        rw [show (List.replicate xs.length true).all id = true from by simp]
        exact hQ _ (s0.trans s2)
    | @lst _ a b xs ys ha hb hl hs h =>
      walk_at "gi"
      have el : decide (V.int xs.length = V.int ys.length) = true := by rw [hl]; exact decide_eq_true rfl
      walk_at "gi"
      rename_i T0 fT0
      have s0 : Same H (upd H T0 (.tup [.ty "list", .ty "tuple"])) := same_new fT0 _
      generalize upd H T0 (.tup [.ty "list", .ty "tuple"]) = H1 at s0 ⊢
      refine .inl ⟨SqL.of (s0 _ _ ha), SqL.of (s0 _ _ hb), fun D fD' => ?_⟩
      refine lc_it (walkZL (xs := xs) (ys := ys) hl) (fun i H' => Same H1 H' ∧ H' D = some (.lst ((List.replicate i true).map V.bl))) ⟨same_new fD' _, upd_same⟩ (fun i H' _ h => ⟨SqL.of (h.1 _ _ (s0 _ _ ha)), SqL.of (h.1 _ _ (s0 _ _ hb))⟩) (fun i v H2 H3 hi hP hv => ?_) (fun H2 hP => ?_)
      · obtain ⟨T, x, y, rfl, fT, rfl, hx, hy⟩ := hv
        obtain ⟨s2, d2⟩ := hP
        have s23 : Same H1 (upd H2 T (.tup [x, y])) := s2.trans (same_new fT _)
        have hd := (h i x y hx hy).same (s0.trans s23)
        have d3 : upd H2 T (.tup [x, y]) D = some (.lst ((List.replicate i true).map V.bl)) := same_new fT _ _ _ d2
        have q3 : upd H2 T (.tup [x, y]) T = some (.tup [x, y]) := upd_same
        clear fT
        generalize upd H2 T (.tup [x, y]) = H3 at hd d3 q3 s23
        walk_at "go"
        intro H4 s4
        walk_at "go"
        rw [upd_same, List.replicate_succ', List.map_append]; rfl
      · obtain ⟨s2, d2⟩ := hP
        refine ⟨D, List.replicate xs.length true, rfl, SqL.of d2, ?_⟩
        rw [show (List.replicate xs.length true).all id = true from by simp]
        exact hQ _ (s0.trans s2)
end
end K17

set_option Elab.async false
set_option linter.all false
set_option maxRecDepth 100000
set_option maxHeartbeats 0

namespace K17
open PySem PySem.Spec PyProof.Rows L2 RC
section
variable {P : Program} {w : World} {K : PySem.W.Frag} {mg : Str → Option Value} {base : Heap}
/-! ### streams, failures -/
def spStreams (K : PySem.W.Frag) : Sp := fun vs H Q _ => ∃ (y st fr : Addr) (ts fl : List (Str × Str)), vs = [.ref y] ∧ YSt K H y st fr ts fl ∧ ts.length < 64 ∧ (ts.map (·.1)).Nodup ∧ ∀ (H' : Hp) (p : Addr) (ys : List Str), Same H H' → H p = none → H' p = some (.lst (ys.map V.str)) → ys.Perm (liveS ts) → sortedS ys = true → Q (.ref p) H'
theorem ok_streams {f : Addr} (T : Txt P w K mg) (F : Stands K "streams" "Yard.streams" s_Yard_streams [] f) : Callable P w K mg base 1 f ["self"] [] (spStreams K) := by
  refine F.call0 sc_Yard_streams (fun vs H Q E h => ?_) (fun cdv A outer s H vs Q E hr h => ?_) (fun _ _ _ _ _ _ us hl => match us, hl with | [_], _ => rfl)
  · obtain ⟨y, st, fr, ts, fl, rfl, _⟩ := h; rfl
  obtain ⟨y, st, fr, ts, fl, rfl, R, h64, nd, hQ⟩ := h
  obtain ⟨⟨dy, fi, na, nu, lm, md, hn, rt, lr, clk, hy⟩, hst, _⟩ := id R
  refine ⟨_, (pss_one (ps_ret (pe_callB cr_sortedS (by rfl) T.b_sorted (by decide +kernel) (pa_cons (pe_lock (pe_lc (own := [("name", 1)]) (by rfl) sc_Yard_streams.nd (pi_keys (pe_fld (pv 0) rfl)) (blkOk_by (own := [("name", 1)]) (N := nm_Yard_streams) (sc := defScope s_Yard_streams) (by decide +kernel)) (fun _ _ _ _ _ => (pg_name (i := 1) sc_Yard_streams.nd rfl (by first | exact Or.inl rfl | exact Or.inr rfl))) (fun _ _ _ _ _ => (pts_one (pt_cmpR op_ne (pe_dget (hu_of hr) (pe_fldK (K := K) (pv 0) rfl) (pv 1) (fun _ _ => rfl)) pe_str (nomark _)))) (fun _ _ _ _ _ => (pv 1)))) pa_nil)))), ?_⟩
  walk_at "in"
  walk_at "go"
  refine ⟨hst, trivial, fun od => ?_⟩
  have k0 : upd H st (.frz od (.dK (strK ts))) st = some (.frz od (.dK (strK ts))) := upd_same
  have nys : y ≠ st := RW.ne_kind hy hst (fun z => nomatch z)
  have hy0 : upd H st (.frz od (.dK (strK ts))) y = some (.ins (CY K) dy (yF clk st fi na nu lm md hn fr rt lr)) := by rw [upd_ne nys]; exact hy
  have fr0 : ∀ b, upd H st (.frz od (.dK (strK ts))) b = none → H b = none := fun b h => (upd_none h).2
  have back : ∀ H', Same (upd H st (.frz od (.dK (strK ts)))) H' → Same H (upd H' st (.dK (strK ts))) := fun H' s b o e => by
    by_cases c : b = st
    · rw [c, upd_same]; rw [c, hst] at e; exact e
    · rw [upd_ne c]; exact s _ _ (by rw [upd_ne c]; exact e)
  generalize upd H st (.frz od (.dK (strK ts))) = H0 at k0 hy0 fr0 back
  walk_at "go"
  refine .inl ⟨_, k0, fun D hD => ?_⟩
  have hD0 : H0 D = none := hD
  have nD : D ≠ st := fun z => by rw [z, k0] at hD0; cases hD0
  refine lc_it walk_keys (fun i H' => Same H0 H' ∧ H' D = some (.lst ((liveS (ts.take i)).map V.str))) ⟨same_new hD _, upd_same⟩ (fun i H' _ h => h.1 _ _ k0) (fun i x H9 H2 hi hP hx => ?_) (fun H2 hP => ?_)
  · obtain ⟨rfl, kx, vx, hx, rfl⟩ := hx
    obtain ⟨s2, d2⟩ := hP
    unfold strK at hx
    rw [List.getElem?_map] at hx
    obtain ⟨e, he0, hee⟩ := Option.map_eq_some_iff.mp hx
    cases hee
    have he : e ∈ ts := List.mem_of_getElem? he0
    have hy2 := s2 _ _ hy0
    have k2 := s2 _ _ k0
    have rd2 : Rd H2 st (.dK (strK ts)) := .inr ⟨od, k2⟩
    have vv : valV (strK ts) (Sum.inr e.1) = some (.str e.2) := (valV_strK e.1 ts).trans (congrArg (Option.map V.str) (lookup_ts he nd))
    have etk := List.take_add_one (l := ts) (i := i)
    rw [he0] at etk
    have ln : ((liveS (ts.take i)).map V.str).length < sizeLine := by
      have h1 := List.length_filter_le (fun e => !decide (e.2 = ("" : Str))) (ts.take i)
      have h2 : (ts.take i).length ≤ ts.length := by rw [List.length_take]; exact Nat.min_le_right _ _
      unfold liveS
      rw [List.length_map, List.length_map, sizeLine_eq]; omega
    have el : liveS (ts.take (i + 1)) = liveS (ts.take i) ++ if e.2 = "" then [] else [e.1] := by
      unfold liveS
      rw [etk, List.filter_append, List.map_append]
      congr 1
      by_cases c : e.2 = ""
      · simp [c]
      · rw [if_neg c]; simp [c]
    by_cases c : e.2 = ""
    · rw [if_pos c, List.append_nil] at el
      rw [el]
      walk_at "go"
      exact d2
    · rw [if_neg c] at el
      rw [el]
      walk_at "go"
      rw [upd_same, List.map_append]; rfl
  · obtain ⟨s2, d2⟩ := hP
    refine ⟨s2 _ _ k0, ?_⟩
    have b2 := back _ s2
    have d3 : upd H2 st (.dK (strK ts)) D = some (.lst ((liveS (ts.take (strK ts).length)).map V.str)) := by rw [upd_ne nD]; exact d2
    rw [show (strK ts).length = ts.length from List.length_map _, List.take_length] at d3
    refine ⟨D, liveS ts, rfl, SqL.of d3, ?_, fun ys p hp hs hn => ?_⟩
    · have h1 := List.length_filter_le (fun e => !decide (e.2 = ("" : Str))) ts
      unfold liveS
      rw [List.length_map]; omega
    · exact hQ _ p ys (b2.trans (same_new hn _)) (b2.free hn) upd_same hp hs
def spFailures (K : PySem.W.Frag) : Sp := fun vs H Q _ => ∃ (y st fr : Addr) (ts fl : List (Str × Str)), vs = [.ref y] ∧ YSt K H y st fr ts fl ∧ ∀ (p : Addr) (H' : Hp), Same H H' → H p = none → FrAt H' p fl → Q (.ref p) H'
theorem ok_failures {f : Addr} (T : Txt P w K mg) (F : Stands K "failures" "Yard.failures" s_Yard_failures [] f) : Callable P w K mg base 1 f ["self"] [] (spFailures K) := by
  refine F.call0 sc_Yard_failures (fun vs H Q E h => ?_) (fun cdv A outer s H vs Q E hr h => ?_) (fun _ _ _ _ _ _ us hl => match us, hl with | [_], _ => rfl)
  · obtain ⟨y, st, fr, ts, fl, rfl, _⟩ := h; rfl
  obtain ⟨y, st, fr, ts, fl, rfl, R, hQ⟩ := h
  obtain ⟨⟨dy, fi, na, nu, lm, md, hn, rt, lr, clk, hy⟩, hst, ps, hfr, hft⟩ := id R
  refine ⟨_, (pss_one (ps_ret (pe_callTy call_list_of (by rfl) T.b_list (by decide +kernel) (pa_cons (pe_fld (pv 0) rfl) pa_nil)))), ?_⟩
  walk_at "in"
  refine ⟨_, rfl, y, _, dy, _, _, rfl, hy, T.c_Yard, T.n_Yard_failure_rows, rfl, ?_⟩
  exact ⟨fr, _, rfl, .inl (SqL.of hfr), fun p fp => hQ p _ (same_new fp _) fp ⟨ps, upd_same, hft.to fun _ _ e => same_new fp _ _ _ e⟩⟩
end
end K17

set_option Elab.async false
set_option linter.all false
set_option maxRecDepth 100000
set_option maxHeartbeats 0
namespace K17
open PySem PySem.Spec PyProof.Rows L2 RC
section
variable {P : Program} {w : World} {K : PySem.W.Frag} {mg : Str → Option Value} {base : Heap}
/-! ### handlers one behind another: the plain law -/
/-- what a handler is -/
inductive Kd
  | wr (x : LWr)
  | mem (md : Md)
def Kd.isM : Kd → Prop
  | .wr _ => False
  | .mem _ => True
def Kd.ns : Kd → List Str
  | .wr x => x.ns
  | .mem md => md.ns
/-- what changes of a handler: its target, whether it is closed, what it keeps -/
structure Hs where
  tg : Option Nat
  lv : Int
  ks : List Kp
/-- texts, failures, handlers; how often something was written, or failed -/
structure AS where
  ts : List (Str × Str)
  fl : List (Str × Str)
  hs : Nat → Hs
  w : Nat
  wt : List Kp
def AS.set (s : AS) (i : Nat) (h : Hs) : AS := ⟨s.ts, s.fl, fun j => if j = i then h else s.hs j, s.w, s.wt⟩
def AS.kp (s : AS) (i : Nat) (ks : List Kp) : AS := s.set i ⟨(s.hs i).tg, (s.hs i).lv, ks⟩
def AS.wrt (s : AS) (o : TxO) (sn nm : Str) : AS := ⟨(emitO o sn "\n" nm s.ts s.fl).1, (emitO o sn "\n" nm s.ts s.fl).2, s.hs, s.w + 1, s.wt⟩
def flA (f : Nat → Kp → AS → AS) (i : Nat) (s : AS) : AS := match (s.hs i).tg with
  | none => s
  | some j => ((s.hs i).ks.foldl (fun s k => f j k s) s).kp i []
def puA (f : Nat → Kp → AS → AS) (md : Md) (i : Nat) (k : Kp) (s : AS) : AS := if memDue md ((s.hs i).ks ++ [k]).length k.d.lv = true then flA f i (s.kp i ((s.hs i).ks ++ [k])) else s.kp i ((s.hs i).ks ++ [k])
/-- a record handled by the handler i -/
def hA (D : Nat → Kd) : Nat → Nat → Kp → AS → AS
  | 0, _, _, s => s
  | b + 1, i, k, s => if lets (D i).ns k.d.name = true then (match D i with
    | .wr x => s.wrt (x.f.out k.d) x.sn k.d.name
    | .mem md => puA (hA D b) md i k s) else s
def sumN (f : Nat → Nat) : Nat → Nat
  | 0 => 0
  | n + 1 => sumN f n + f n
theorem sumN_congr {f g : Nat → Nat} : ∀ {n : Nat}, (∀ i, i < n → f i = g i) → sumN f n = sumN g n
  | 0, _ => rfl
  | n + 1, h => by
    show sumN f n + f n = sumN g n + g n
    rw [sumN_congr fun i hi => h i (Nat.lt_succ_of_lt hi), h n (Nat.lt_succ_self n)]
theorem sumN_set {f : Nat → Nat} {i v : Nat} : ∀ {n : Nat}, i < n → sumN (fun j => if j = i then v else f j) n + f i = sumN f n + v
  | 0, h => absurd h (Nat.not_lt_zero _)
  | n + 1, h => by
    show sumN (fun j => if j = i then v else f j) n + (if n = i then v else f n) + f i = sumN f n + f n + v
    by_cases e : n = i
    · rw [if_pos e, ← e, sumN_congr (f := fun j => if j = n then v else f j) (g := f) fun j hj => if_neg (Nat.ne_of_lt hj)]
      omega
    · rw [if_neg e]
      have := sumN_set (f := f) (v := v) (show i < n by omega)
      omega
theorem sumN_le {f : Nat → Nat} {n m : Nat} (h : n ≤ m) : sumN f n ≤ sumN f m := by
  induction h with
  | refl => exact Nat.le_refl _
  | step _ ih => exact Nat.le_trans ih (Nat.le_add_right _ _)
theorem le_sumN {f : Nat → Nat} {i n : Nat} (h : i < n) : f i ≤ sumN f n := Nat.le_trans (Nat.le_add_left _ _) (sumN_le (f := f) (show i + 1 ≤ n from h))
/-- what the handlers below m keep, and what was written -/
def AS.tt (s : AS) (m : Nat) : Nat := sumN (fun i => (s.hs i).ks.length) m + s.w
structure SOk (A : Kp → Prop) (a b : Str) (s : AS) : Prop where
  lo : ∀ i j, (s.hs i).tg = some j → j < i
  kk : ∀ i, ∀ k ∈ (s.hs i).ks, A k
  ts : TsOk a b s.ts
  cp : Cap s.ts (2000 * s.w)
  fl : s.fl.length ≤ s.w
  wk : ∀ k ∈ s.wt, A k
/-- nothing above i changes, no target, nothing is closed -/
structure Bel (i : Nat) (s s' : AS) : Prop where
  up : ∀ j, i < j → s'.hs j = s.hs j
  tg : ∀ j, (s'.hs j).tg = (s.hs j).tg
  lv : ∀ j, (s'.hs j).lv = (s.hs j).lv
structure DOk (a b : Str) (D : Nat → Kd) (n : Nat) : Prop where
  sn : ∀ i x, i < n → D i = .wr x → x.sn = a ∨ x.sn = b
section
variable {A : Kp → Prop} {a b : Str} {D : Nat → Kd} {n i j : Nat} {s s' s'' : AS} {k : Kp}
theorem Bel.refl : Bel i s s := ⟨fun _ _ => rfl, fun _ => rfl, fun _ => rfl⟩
theorem Bel.trans (x : Bel i s s') (y : Bel i s' s'') : Bel i s s'' := ⟨fun j h => (y.up j h).trans (x.up j h), fun j => (y.tg j).trans (x.tg j), fun j => (y.lv j).trans (x.lv j)⟩
theorem Bel.mono (x : Bel i s s') (h : i ≤ j) : Bel j s s' := ⟨fun m hm => x.up m (Nat.lt_of_le_of_lt h hm), x.tg, x.lv⟩
theorem set_same (h : Hs) : (s.set i h).hs i = h := if_pos rfl
theorem set_ne (h : Hs) (e : j ≠ i) : (s.set i h).hs j = s.hs j := if_neg e
theorem Bel.kp (ks : List Kp) : Bel i s (s.kp i ks) := by
  refine ⟨fun j h => set_ne _ (Nat.ne_of_gt h), fun j => ?_, fun j => ?_⟩
  · by_cases e : j = i
    · rw [e]; show ((s.set i _).hs i).tg = _; rw [set_same]
    · show ((s.set i _).hs j).tg = _; rw [set_ne _ e]
  · by_cases e : j = i
    · rw [e]; show ((s.set i _).hs i).lv = _; rw [set_same]
    · show ((s.set i _).hs j).lv = _; rw [set_ne _ e]
theorem SOk.tgs (h : SOk A a b s) (B : Bel i s s') : ∀ m j, (s'.hs m).tg = some j → j < m := fun m j e => h.lo m j (by rw [← B.tg m]; exact e)
theorem SOk.kp (h : SOk A a b s) {ks : List Kp} (hk : ∀ k ∈ ks, A k) : SOk A a b (s.kp i ks) := by
  refine ⟨h.tgs (Bel.kp ks), fun m k hm => ?_, h.ts, h.cp, h.fl, h.wk⟩
  by_cases e : m = i
  · rw [e, show (s.kp i ks).hs i = _ from set_same _] at hm; exact hk k hm
  · rw [show (s.kp i ks).hs m = _ from set_ne _ e] at hm; exact h.kk m k hm
theorem tt_kp {ks : List Kp} {m : Nat} (h : i < m) : (s.kp i ks).tt m + (s.hs i).ks.length = s.tt m + ks.length := by
  have e : (fun j => ((s.kp i ks).hs j).ks.length) = fun j => if j = i then ks.length else (s.hs j).ks.length := by
    funext j
    by_cases c : j = i
    · rw [if_pos c, c, show (s.kp i ks).hs i = _ from set_same _]
    · rw [if_neg c, show (s.kp i ks).hs j = _ from set_ne _ c]
  unfold AS.tt
  rw [e]
  have := sumN_set (f := fun j => (s.hs j).ks.length) (v := ks.length) h
  show sumN _ m + s.w + _ = _
  omega
theorem wrt_ok (h : SOk A a b s) {o : TxO} {sn nm : Str} (hs : sn = a ∨ sn = b) (ho : ∀ t, o = .tx t → t.length ≤ 1000) : SOk A a b (s.wrt o sn nm) := by
  have c := handO_cap (b := true) (o := o) (wr := ⟨0, none, "\n", sn, [], false⟩) (nm := nm) (fl := s.fl) h.cp ho (by show (Str.ofString "\n").length ≤ 100; decide +kernel)
  have t := TsOk.hand (c := true) (o := o) (wr := ⟨0, none, "\n", sn, [], false⟩) (nm := nm) (fs := s.fl) h.ts hs rfl
  refine ⟨h.lo, h.kk, t, ?_, ?_, h.wk⟩
  · show Cap _ (2000 * (s.w + 1))
    rw [show 2000 * (s.w + 1) = 2000 * s.w + 2000 by omega]; exact c.1
  · have h1 := h.fl
    have h2 := c.2
    show _ ≤ s.w + 1
    exact Nat.le_trans h2 (by omega)
/-- what a step of the handler i may do -/
structure Stp (A : Kp → Prop) (a b : Str) (i d : Nat) (s s' : AS) : Prop where
  ok : SOk A a b s'
  be : Bel i s s'
  tt : ∀ m, i < m → s'.tt m ≤ s.tt m + d
  wt : s'.wt = s.wt
theorem Stp.refl (h : SOk A a b s) {d : Nat} : Stp A a b i d s s := ⟨h, Bel.refl, fun _ _ => Nat.le_add_right _ _, rfl⟩
theorem fold_ok {f : Nat → Kp → AS → AS} (hf : ∀ k s, A k → SOk A a b s → Stp A a b j 1 s (f j k s)) : ∀ (ks : List Kp) (s : AS), (∀ k ∈ ks, A k) → SOk A a b s → Stp A a b j ks.length s (ks.foldl (fun s k => f j k s) s)
  | [], s, _, h => .refl h
  | k :: r, s, hk, h => by
    have h1 := hf k s (hk k List.mem_cons_self) h
    have h2 := fold_ok hf r (f j k s) (fun k hk2 => hk k (List.mem_cons_of_mem _ hk2)) h1.ok
    refine ⟨h2.ok, h1.be.trans h2.be, fun m hm => ?_, h2.wt.trans h1.wt⟩
    have e1 := h1.tt m hm
    have e2 := h2.tt m hm
    rw [List.length_cons]
    have e3 : (List.foldl (fun s k => f j k s) s (k :: r)).tt m = (List.foldl (fun s k => f j k s) (f j k s) r).tt m := rfl
    omega
theorem flA_ok {f : Nat → Kp → AS → AS} (hf : ∀ j k s, j < i → A k → SOk A a b s → Stp A a b j 1 s (f j k s)) (h : SOk A a b s) : Stp A a b i 0 s (flA f i s) := by
  unfold flA
  cases e : (s.hs i).tg with
  | none => exact .refl h
  | some j =>
    have hj := h.lo i j e
    have F := fold_ok (fun k s => hf j k s hj) (s.hs i).ks s (h.kk i) h
    have B := F.be.mono (Nat.le_of_lt hj)
    refine ⟨F.ok.kp (fun _ z => nomatch z), B.trans (Bel.kp []), fun m hm => ?_, F.wt⟩
    have e1 := F.tt m (Nat.lt_trans hj hm)
    have e2 := tt_kp (s := (s.hs i).ks.foldl (fun s k => f j k s) s) (ks := []) hm
    rw [F.be.up i hj] at e2
    rw [List.length_nil] at e2
    show (((s.hs i).ks.foldl (fun s k => f j k s) s).kp i []).tt m ≤ _
    omega
theorem puA_ok {f : Nat → Kp → AS → AS} {md : Md} (hf : ∀ j k s, j < i → A k → SOk A a b s → Stp A a b j 1 s (f j k s)) (hk : A k) (h : SOk A a b s) : Stp A a b i 1 s (puA f md i k s) := by
  have hks : ∀ e ∈ (s.hs i).ks ++ [k], A e := fun e he => (List.mem_append.mp he).elim (h.kk i e) fun z => by rw [List.mem_singleton.mp z]; exact hk
  have h1 := h.kp (i := i) hks
  have B1 : Bel i s (s.kp i ((s.hs i).ks ++ [k])) := Bel.kp _
  have t1 : ∀ m, i < m → (s.kp i ((s.hs i).ks ++ [k])).tt m ≤ s.tt m + 1 := fun m hm => by
    have := tt_kp (s := s) (ks := (s.hs i).ks ++ [k]) hm
    rw [List.length_append, List.length_singleton] at this
    omega
  unfold puA
  by_cases c : memDue md ((s.hs i).ks ++ [k]).length k.d.lv = true
  · rw [if_pos c]
    have F := flA_ok hf h1
    exact ⟨F.ok, B1.trans F.be, fun m hm => Nat.le_trans (F.tt m hm) (t1 m hm), F.wt⟩
  · rw [if_neg c]
    exact ⟨h1, B1, t1, rfl⟩
theorem hA_ok (hD : DOk a b D n) (hA1 : ∀ k, A k → LRc k.d) : ∀ (c i : Nat) (k : Kp) (s : AS), i < n → A k → SOk A a b s → Stp A a b i 1 s (hA D c i k s)
  | 0, _, _, _, _, _, h => .refl h
  | c + 1, i, k, s, hi, hk, h => by
    show Stp A a b i 1 s (if lets (D i).ns k.d.name = true then _ else s)
    by_cases e : lets (D i).ns k.d.name = true
    · rw [if_pos e]
      cases d : D i with
      | wr x => exact ⟨wrt_ok h (hD.sn i x hi d) (x.f.out_len (hA1 k hk)), ⟨fun _ _ => rfl, fun _ => rfl, fun _ => rfl⟩, fun m _ => Nat.le_refl _, rfl⟩
      | mem md => exact puA_ok (fun j k s hj => hA_ok hD hA1 c j k s (Nat.lt_trans hj hi)) hk h
    · rw [if_neg e]; exact .refl h
theorem set_ok (h : SOk A a b s) {t : Option Nat} {c : Int} (ht : ∀ j, t = some j → j < i) : SOk A a b (s.set i ⟨t, c, (s.hs i).ks⟩) := by
  refine ⟨fun m j e => ?_, fun m k hm => ?_, h.ts, h.cp, h.fl, h.wk⟩
  · by_cases z : m = i
    · rw [z, set_same] at e; rw [z]; exact ht j e
    · rw [set_ne _ z] at e; exact h.lo m j e
  · by_cases z : m = i
    · rw [z, set_same] at hm; exact h.kk i k hm
    · rw [set_ne _ z] at hm; exact h.kk m k hm
theorem set_tt {t : Option Nat} {c : Int} (m : Nat) : (s.set i ⟨t, c, (s.hs i).ks⟩).tt m = s.tt m := by
  unfold AS.tt
  rw [show (fun j => ((s.set i ⟨t, c, (s.hs i).ks⟩).hs j).ks.length) = fun j => (s.hs j).ks.length from funext fun j => by
    by_cases z : j = i
    · rw [z, set_same]
    · rw [set_ne _ z]]
  rfl
/-- what waits may be told apart -/
def AS.wts (s : AS) (x : List Kp) : AS := ⟨s.ts, s.fl, s.hs, s.w, x⟩
theorem wts_kp {x : List Kp} {ks : List Kp} : (s.wts x).kp i ks = (s.kp i ks).wts x := rfl
theorem fold_wts {f : Nat → Kp → AS → AS} (hf : ∀ j k s x, f j k (s.wts x) = (f j k s).wts x) {x : List Kp} : ∀ (ks : List Kp) (s : AS), ks.foldl (fun s k => f j k s) (s.wts x) = (ks.foldl (fun s k => f j k s) s).wts x
  | [], _ => rfl
  | k :: r, s => by
    show r.foldl _ (f j k (s.wts x)) = (r.foldl _ (f j k s)).wts x
    rw [hf]; exact fold_wts hf r _
theorem flA_wts {f : Nat → Kp → AS → AS} (hf : ∀ j k s x, f j k (s.wts x) = (f j k s).wts x) {x : List Kp} : flA f i (s.wts x) = (flA f i s).wts x := by
  unfold flA
  show (match (s.hs i).tg with | none => s.wts x | some j => (((s.hs i).ks.foldl (fun s k => f j k s) (s.wts x)).kp i [])) = _
  cases (s.hs i).tg with
  | none => rfl
  | some j =>
    show (((s.hs i).ks.foldl (fun s k => f j k s) (s.wts x)).kp i []) = (((s.hs i).ks.foldl (fun s k => f j k s) s).kp i []).wts x
    rw [fold_wts hf]; rfl
theorem hA_wts : ∀ (c i : Nat) (k : Kp) (s : AS) (x : List Kp), hA D c i k (s.wts x) = (hA D c i k s).wts x
  | 0, _, _, _, _ => rfl
  | c + 1, i, k, s, x => by
    show (if lets (D i).ns k.d.name = true then _ else s.wts x) = AS.wts (if lets (D i).ns k.d.name = true then _ else s) x
    by_cases e : lets (D i).ns k.d.name = true
    · rw [if_pos e, if_pos e]
      cases D i with
      | wr y => rfl
      | mem md =>
        show puA (hA D c) md i k (s.wts x) = (puA (hA D c) md i k s).wts x
        unfold puA
        show (if memDue md ((s.hs i).ks ++ [k]).length k.d.lv = true then flA (hA D c) i ((s.kp i ((s.hs i).ks ++ [k])).wts x) else (s.kp i ((s.hs i).ks ++ [k])).wts x) = _
        by_cases e2 : memDue md ((s.hs i).ks ++ [k]).length k.d.lv = true
        · rw [if_pos e2, if_pos e2]; exact flA_wts (fun j k s x => hA_wts c j k s x)
        · rw [if_neg e2, if_neg e2]
    · rw [if_neg e, if_neg e]
/-- a record led to the handlers of a row -/
def okL (rs : Bool) (lv : Int) (k : Kp) : Bool := !rs || decide (lv ≤ k.d.lv)
def l1A (D : Nat → Kd) (c : Nat) (rs : Bool) (k : Kp) (i : Nat) (s : AS) : AS := if okL rs (s.hs i).lv k = true then hA D c i k s else s
def ldA (D : Nat → Kd) (c : Nat) (rs : Bool) (row : List Nat) (k : Kp) (s : AS) : AS := row.foldl (fun s i => l1A D c rs k i s) s
def rnA (D : Nat → Kd) (c : Nat) (rs : Bool) (row : List Nat) (ks : List Kp) (s : AS) : AS := ks.foldl (fun s k => ldA D c rs row k s) s
theorem l1A_wts {c : Nat} {rs : Bool} {x : List Kp} : l1A D c rs k i (s.wts x) = (l1A D c rs k i s).wts x := by
  unfold l1A
  show (if okL rs (s.hs i).lv k = true then hA D c i k (s.wts x) else s.wts x) = _
  by_cases e : okL rs (s.hs i).lv k = true
  · rw [if_pos e, if_pos e]; exact hA_wts c i k s x
  · rw [if_neg e, if_neg e]
theorem ldA_wts {c : Nat} {rs : Bool} {x : List Kp} : ∀ (row : List Nat) (s : AS), ldA D c rs row k (s.wts x) = (ldA D c rs row k s).wts x
  | [], _ => rfl
  | i :: r, s => by
    show ldA D c rs r k (l1A D c rs k i (s.wts x)) = (ldA D c rs r k (l1A D c rs k i s)).wts x
    rw [l1A_wts]; exact ldA_wts r _
/-- what a row may do -/
structure Ld (A : Kp → Prop) (a b : Str) (n d : Nat) (s s' : AS) : Prop where
  ok : SOk A a b s'
  tt : s'.tt n ≤ s.tt n + d
  wt : s'.wt = s.wt
  lv : ∀ j, (s'.hs j).lv = (s.hs j).lv
theorem ldA_ok (hD : DOk a b D n) (hA1 : ∀ k, A k → LRc k.d) {c : Nat} {rs : Bool} (hk : A k) : ∀ (row : List Nat) (s : AS), (∀ i ∈ row, i < n) → SOk A a b s → Ld A a b n row.length s (ldA D c rs row k s)
  | [], s, _, h => ⟨h, Nat.le_refl _, rfl, fun _ => rfl⟩
  | i :: r, s, hr, h => by
    have hi := hr i List.mem_cons_self
    have h1 : Ld A a b n 1 s (l1A D c rs k i s) := by
      unfold l1A
      by_cases e : okL rs (s.hs i).lv k = true
      · rw [if_pos e]
        have S := hA_ok hD hA1 c i k s hi hk h
        exact ⟨S.ok, S.tt n hi, S.wt, S.be.lv⟩
      · rw [if_neg e]; exact ⟨h, Nat.le_succ _, rfl, fun _ => rfl⟩
    have h2 := ldA_ok hD hA1 (c := c) (rs := rs) hk r (l1A D c rs k i s) (fun j hj => hr j (List.mem_cons_of_mem _ hj)) h1.ok
    refine ⟨h2.ok, ?_, h2.wt.trans h1.wt, fun j => (h2.lv j).trans (h1.lv j)⟩
    have e1 := h1.tt
    have e2 := h2.tt
    show (ldA D c rs r k (l1A D c rs k i s)).tt n ≤ s.tt n + (r.length + 1)
    omega
theorem rnA_ok (hD : DOk a b D n) (hA1 : ∀ k, A k → LRc k.d) {c : Nat} {rs : Bool} {row : List Nat} (hr : ∀ i ∈ row, i < n) : ∀ (ks : List Kp) (s : AS), (∀ k ∈ ks, A k) → SOk A a b s → Ld A a b n (row.length * ks.length) s (rnA D c rs row ks s)
  | [], s, _, h => ⟨h, Nat.le_add_right _ _, rfl, fun _ => rfl⟩
  | k :: r, s, hk, h => by
    have h1 := ldA_ok hD hA1 (c := c) (rs := rs) (hk k List.mem_cons_self) row s hr h
    have h2 := rnA_ok hD hA1 (c := c) (rs := rs) hr r (ldA D c rs row k s) (fun k hk2 => hk k (List.mem_cons_of_mem _ hk2)) h1.ok
    refine ⟨h2.ok, ?_, h2.wt.trans h1.wt, fun j => (h2.lv j).trans (h1.lv j)⟩
    have e1 := h1.tt
    have e2 := h2.tt
    show (rnA D c rs row r (ldA D c rs row k s)).tt n ≤ s.tt n + row.length * (r.length + 1)
    rw [Nat.mul_succ]
    omega
theorem SOk.wts (h : SOk A a b s) {x : List Kp} (hx : ∀ k ∈ x, A k) : SOk A a b (s.wts x) := ⟨h.lo, h.kk, h.ts, h.cp, h.fl, hx⟩
theorem SOk.mono {A' : Kp → Prop} (h : SOk A a b s) (m : ∀ k, A k → A' k) : SOk A' a b s := ⟨h.lo, fun i k hk => m k (h.kk i k hk), h.ts, h.cp, h.fl, fun k hk => m k (h.wk k hk)⟩
end
end
end K17

set_option Elab.async false
set_option linter.all false
set_option maxRecDepth 100000
set_option maxHeartbeats 0
namespace K17
open PySem PySem.Spec PyProof.Rows L2 RC
section
variable {P : Program} {w : World} {K : PySem.W.Frag} {mg : Str → Option Value} {base : Heap}
/-! ### handlers one behind another: the world -/
/-- the places that move -/
inductive Ro
  | s | l | st | fr | lt | lf | hl | md | wq | wl
  | h (i : Nat)
  | mk (i : Nat)
  | q (i : Nat)
  | lk (i : Nat)
/-- what stays as it is -/
structure Cfg where
  n : Nat
  kd : Nat → Kd
  y : Addr
  m : Addr
  na : Addr
  nu : Addr
  dh : Nat → Addr
  fi : Nat → Addr
  fl : Nat → Addr
  fv : Nat → V
def Lv (C : Cfg) : Ro → Prop
  | .h i => i < C.n
  | .q i => i < C.n
  | .mk i => i < C.n ∧ (C.kd i).isM
  | .lk i => i < C.n ∧ (C.kd i).isM
  | _ => True
/-- the places, apart from one another and from what stays -/
structure Pla (C : Cfg) (ad : Ro → Addr) (G H : Hp) : Prop where
  sm : Same G H
  og : ∀ r, Lv C r → G (ad r) = none
  inj : ∀ r r', Lv C r → Lv C r' → ad r = ad r' → r = r'
  lv : ∀ r, Lv C r → H (ad r) ≠ none ∧ ∀ xs, H (ad r) ≠ some (.tup xs)
section
variable {C : Cfg} {ad ad' : Ro → Addr} {G H H' : Hp} {S : List Ro}
theorem Pla.nin (F : Pla C ad G H) (hS : ∀ r ∈ S, Lv C r) {r : Ro} (h : Lv C r) (n : r ∉ S) : ad r ∉ S.map ad := fun z => by
  obtain ⟨r', h1, h2⟩ := List.mem_map.mp z
  exact n (by rw [← F.inj r' r (hS r' h1) h h2]; exact h1)
theorem Pla.out (F : Pla C ad G H) (hS : ∀ r ∈ S, Lv C r) {p : Addr} {o : HO} (h : G p = some o) : p ∉ S.map ad := fun z => by
  obtain ⟨r', h1, h2⟩ := List.mem_map.mp z
  rw [← h2, F.og r' (hS r' h1)] at h; cases h
theorem Pla.tp (F : Pla C ad G H) (hS : ∀ r ∈ S, Lv C r) : ∀ p xs, p ∈ S.map ad → H p ≠ some (.tup xs) := fun p xs z => by
  obtain ⟨r', h1, h2⟩ := List.mem_map.mp z
  rw [← h2]; exact (F.lv r' (hS r' h1)).2 xs
/-- some places change -/
theorem Pla.chg (F : Pla C ad G H) (hS : ∀ r ∈ S, Lv C r) (c : Chg (S.map ad) H H') (ho : ∀ r ∈ S, H' (ad r) ≠ none ∧ ∀ xs, H' (ad r) ≠ some (.tup xs)) : Pla C ad G H' :=
  ⟨c.apart F.sm fun p hp => (by obtain ⟨r', h1, h2⟩ := List.mem_map.mp hp; rw [← h2]; exact F.og r' (hS r' h1)), F.og, F.inj, fun r hr => by
    by_cases z : r ∈ S
    · exact ho r z
    · have h1 := F.lv r hr
      cases e : H (ad r) with
      | none => exact absurd e h1.1
      | some o =>
        rw [c _ _ (F.nin hS hr z) e]
        exact ⟨(fun z => nomatch z), fun xs z => h1.2 xs (by rw [e]; exact z)⟩⟩
/-- one place goes elsewhere -/
theorem Pla.new (F : Pla C ad G H) {r0 : Ro} (h0 : Lv C r0) (ha : ∀ r, r ≠ r0 → ad' r = ad r) (hn : H (ad' r0) = none) {o : HO} (ho : ∀ xs, o ≠ .tup xs) : Pla C ad' G (upd H (ad' r0) o) := by
  have ne : ∀ r, Lv C r → r ≠ r0 → ad' r ≠ ad' r0 := fun r hr n z => (F.lv r hr).1 (by rw [← ha r n, z]; exact hn)
  refine ⟨fun b u e => by rw [upd_ne (ne_of_none (F.sm _ _ e) hn)]; exact F.sm _ _ e, fun r hr => ?_, fun r r' hr hr' e => ?_, fun r hr => ?_⟩
  · by_cases z : r = r0
    · rw [z]
      cases e : G (ad' r0) with
      | none => rfl
      | some u => rw [F.sm _ _ e] at hn; cases hn
    · rw [ha r z]; exact F.og r hr
  · by_cases z : r = r0
    · by_cases z' : r' = r0
      · rw [z, z']
      · exact absurd (by rw [← e, z]) (ne r' hr' z')
    · by_cases z' : r' = r0
      · exact absurd (by rw [e, z']) (ne r hr z)
      · rw [ha r z, ha r' z'] at e; exact F.inj r r' hr hr' e
  · by_cases z : r = r0
    · rw [z, upd_same]; exact ⟨(fun z => nomatch z), fun xs z => ho xs (Option.some.inj z)⟩
    · rw [upd_ne (ne r hr z), ha r z]; exact F.lv r hr
end
def tgR (ad : Ro → Addr) : Option Nat → V
  | none => .non
  | some j => .ref (ad (.h j))
def tgI : Option Nat → V
  | none => .non
  | some j => .int (j : Nat)
def Md.clo (md : Md) (c : Int) : Md := ⟨md.cap, md.least, md.fc, md.ns, md.nm, c⟩
/-- a handler, and the law's row of it -/
def pOb (K : PySem.W.Frag) (C : Cfg) (ad : Ro → Addr) (h : Hs) (i : Nat) : HO := match C.kd i with
  | .wr x => .ins (CS K) (C.dh i) (hdS (C.fi i) C.y h.lv (C.fv i) "\n" x.sn false)
  | .mem md => .ins (CM K) (C.dh i) (hdM (C.fi i) C.y (md.clo h.lv) (tgR ad h.tg) (ad (.mk i)))
def lOb (C : Cfg) (ad : Ro → Addr) (h : Hs) (i : Nat) : HO := match C.kd i with
  | .wr x => .dK (wrK (C.fl i) x.f x.sn (ad (.h i)) h.lv false)
  | .mem md => .dK (lmK (C.fl i) (tgI h.tg) (ad (.lk i)) (md.clo h.lv) (ad (.h i)))
/-- what stays of a handler -/
def StA (K : PySem.W.Frag) (C : Cfg) (G : Hp) (i : Nat) : Prop := G (C.fl i) = some (.lst ((C.kd i).ns.map V.str)) ∧ FlAt K G (C.fi i) (C.kd i).ns ∧ (C.kd i).ns.length ≤ 100 ∧ (∀ n ∈ (C.kd i).ns, n.length ≤ 1000) ∧ match C.kd i with
  | .wr x => FormV K G x.f.fo (C.fv i)
  | .mem md => md.nm = none
theorem StA.same {C : Cfg} {G G' : Hp} {i : Nat} (s : Same G G') (h : StA K C G i) : StA K C G' i := by
  obtain ⟨h1, h2, h3, h4, h5⟩ := h
  refine ⟨s _ _ h1, h2.same s, h3, h4, ?_⟩
  cases e : C.kd i with
  | wr x => rw [e] at h5; exact FormV.same s h5
  | mem md => rw [e] at h5; exact h5
def hRs (ad : Ro → Addr) (n : Nat) : List Addr := (List.range n).map fun i => ad (.h i)
def qRs (ad : Ro → Addr) (n : Nat) : List Addr := (List.range n).map fun i => ad (.q i)
structure Wd (K : PySem.W.Frag) (C : Cfg) (ad : Ro → Addr) (n : Nat) (P L : AS) (G H : Hp) : Prop where
  pl : Pla C ad G H
  stm : Stm H (ad .s) (ad .l) n
  yd : YdAt K G C.y (ad .md) C.na C.nu
  mm : G C.m = some (.dK [(Sum.inr "handlers", .ref (ad .hl)), (Sum.inr "texts", .ref (ad .lt)), (Sum.inr "failures", .ref (ad .lf))])
  ys : YSt K H C.y (ad .st) (ad .fr) P.ts P.fl
  ls : LSt H C.m (ad .hl) (ad .lt) (ad .lf) L.ts L.fl
  hmd : H (ad .md) = some (.lst ((hRs ad C.n).map V.ref))
  hhl : H (ad .hl) = some (.lst ((qRs ad C.n).map V.ref))
  st : ∀ i, i < C.n → StA K C G i
  ob : ∀ i, i < C.n → H (ad (.h i)) = some (pOb K C ad (P.hs i) i)
  qb : ∀ i, i < C.n → H (ad (.q i)) = some (lOb C ad (L.hs i) i)
  ke : ∀ i, i < C.n → (C.kd i).isM → H (ad (.mk i)) = some (.lst (kR (P.hs i).ks))
  le : ∀ i, i < C.n → (C.kd i).isM → H (ad (.lk i)) = some (.lst (kQ (L.hs i).ks))
  wq : H (ad .wq) = some (.lst (kR P.wt))
  wl : H (ad .wl) = some (.lst (kQ L.wt))
theorem pOb_nt {C : Cfg} {ad : Ro → Addr} {h : Hs} {i : Nat} : ∀ xs, pOb K C ad h i ≠ .tup xs := fun xs z => by
  unfold pOb at z
  cases e : C.kd i with
  | wr x => rw [e] at z; cases z
  | mem md => rw [e] at z; cases z
theorem lOb_nt {C : Cfg} {ad : Ro → Addr} {h : Hs} {i : Nat} : ∀ xs, lOb C ad h i ≠ .tup xs := fun xs z => by
  unfold lOb at z
  cases e : C.kd i with
  | wr x => rw [e] at z; cases z
  | mem md => rw [e] at z; cases z
/-- objects look at the places h and mk alone -/
theorem pOb_ad {C : Cfg} {ad ad' : Ro → Addr} {h : Hs} {i : Nat} (h1 : ∀ j, h.tg = some j → ad' (.h j) = ad (.h j)) (h2 : (C.kd i).isM → ad' (.mk i) = ad (.mk i)) : pOb K C ad' h i = pOb K C ad h i := by
  unfold pOb
  cases e : C.kd i with
  | wr x => rfl
  | mem md =>
    rw [e] at h2
    have : tgR ad' h.tg = tgR ad h.tg := by
      cases t : h.tg with
      | none => rfl
      | some j => show V.ref _ = V.ref _; rw [h1 j t]
    show HO.ins _ _ _ = HO.ins _ _ _
    rw [this, h2 trivial]
theorem lOb_ad {C : Cfg} {ad ad' : Ro → Addr} {h : Hs} {i : Nat} (h1 : ad' (.h i) = ad (.h i)) (h2 : (C.kd i).isM → ad' (.lk i) = ad (.lk i)) : lOb C ad' h i = lOb C ad h i := by
  unfold lOb
  cases e : C.kd i with
  | wr x => show HO.dK _ = HO.dK _; rw [h1]
  | mem md =>
    rw [e] at h2
    show HO.dK _ = HO.dK _
    rw [h1, h2 trivial]
section
variable {C : Cfg} {ad ad' : Ro → Addr} {n n' : Nat} {P P' L L' : AS} {G G' H H' : Hp} {i : Nat} {S : List Ro}
/-- only some places change: what holds of the others -/
theorem Wd.nx (w : Wd K C ad n P L G H) (hS : ∀ r ∈ S, Lv C r) (c : Chg (S.map ad) H H') (F : Pla C ad G H')
    (stm' : (Ro.s ∈ S ∨ Ro.l ∈ S ∨ n ≠ n') → Stm H' (ad .s) (ad .l) n')
    (ys' : (Ro.st ∈ S ∨ Ro.fr ∈ S ∨ P'.ts ≠ P.ts ∨ P'.fl ≠ P.fl) → YSt K H' C.y (ad .st) (ad .fr) P'.ts P'.fl)
    (ls' : (Ro.lt ∈ S ∨ Ro.lf ∈ S ∨ L'.ts ≠ L.ts ∨ L'.fl ≠ L.fl) → LSt H' C.m (ad .hl) (ad .lt) (ad .lf) L'.ts L'.fl)
    (hmd' : Ro.md ∉ S) (hhl' : Ro.hl ∉ S)
    (ob' : ∀ i, i < C.n → (Ro.h i ∈ S ∨ (P'.hs i).tg ≠ (P.hs i).tg ∨ (P'.hs i).lv ≠ (P.hs i).lv) → H' (ad (.h i)) = some (pOb K C ad (P'.hs i) i))
    (qb' : ∀ i, i < C.n → (Ro.q i ∈ S ∨ (L'.hs i).tg ≠ (L.hs i).tg ∨ (L'.hs i).lv ≠ (L.hs i).lv) → H' (ad (.q i)) = some (lOb C ad (L'.hs i) i))
    (ke' : ∀ i, i < C.n → (C.kd i).isM → (Ro.mk i ∈ S ∨ (P'.hs i).ks ≠ (P.hs i).ks) → H' (ad (.mk i)) = some (.lst (kR (P'.hs i).ks)))
    (le' : ∀ i, i < C.n → (C.kd i).isM → (Ro.lk i ∈ S ∨ (L'.hs i).ks ≠ (L.hs i).ks) → H' (ad (.lk i)) = some (.lst (kQ (L'.hs i).ks)))
    (wq' : (Ro.wq ∈ S ∨ P'.wt ≠ P.wt) → H' (ad .wq) = some (.lst (kR P'.wt))) (wl' : (Ro.wl ∈ S ∨ L'.wt ≠ L.wt) → H' (ad .wl) = some (.lst (kQ L'.wt))) : Wd K C ad n' P' L' G H' := by
  have nin : ∀ r, Lv C r → r ∉ S → ad r ∉ S.map ad := fun r => w.pl.nin hS
  have tp := w.pl.tp hS
  obtain ⟨⟨_, _, _, _, _, _, _, _, gy⟩, _⟩ := w.yd
  have pO : ∀ {h h' : Hs} {i}, h'.tg = h.tg → h'.lv = h.lv → pOb K C ad h' i = pOb K C ad h i := fun e1 e2 => by unfold pOb; rw [e1, e2]
  have lO : ∀ {h h' : Hs} {i}, h'.tg = h.tg → h'.lv = h.lv → lOb C ad h' i = lOb C ad h i := fun e1 e2 => by unfold lOb; rw [e1, e2]
  refine ⟨F, ?_, w.yd, w.mm, ?_, ?_, c _ _ (nin _ trivial hmd') w.hmd, c _ _ (nin _ trivial hhl') w.hhl, w.st, fun i hi => ?_, fun i hi => ?_, fun i hi hm => ?_, fun i hi hm => ?_, ?_, ?_⟩
  · by_cases z : Ro.s ∈ S ∨ Ro.l ∈ S ∨ n ≠ n'
    · exact stm' z
    · simp only [not_or, Decidable.not_not] at z
      obtain ⟨a0, a1, a2, a3, a4, g1, g2, g3⟩ := w.stm
      rw [← z.2.2]
      exact ⟨a0, a1, a2, a3, a4, c _ _ (nin _ trivial z.1) g1, c _ _ (nin _ trivial z.2.1) g2, g3⟩
  · by_cases z : Ro.st ∈ S ∨ Ro.fr ∈ S ∨ P'.ts ≠ P.ts ∨ P'.fl ≠ P.fl
    · exact ys' z
    · simp only [not_or, ne_eq, Classical.not_not] at z
      rw [z.2.2.1, z.2.2.2]
      exact w.ys.chg c (nin _ trivial z.1) (nin _ trivial z.2.1) (w.pl.out hS gy) tp
  · by_cases z : Ro.lt ∈ S ∨ Ro.lf ∈ S ∨ L'.ts ≠ L.ts ∨ L'.fl ≠ L.fl
    · exact ls' z
    · simp only [not_or, ne_eq, Classical.not_not] at z
      rw [z.2.2.1, z.2.2.2]
      exact w.ls.chg c (nin _ trivial z.1) (nin _ trivial z.2.1) (w.pl.out hS w.mm) tp
  · by_cases z : Ro.h i ∈ S ∨ (P'.hs i).tg ≠ (P.hs i).tg ∨ (P'.hs i).lv ≠ (P.hs i).lv
    · exact ob' i hi z
    · simp only [not_or, ne_eq, Classical.not_not] at z
      rw [pO z.2.1 z.2.2]
      exact c _ _ (nin _ hi z.1) (w.ob i hi)
  · by_cases z : Ro.q i ∈ S ∨ (L'.hs i).tg ≠ (L.hs i).tg ∨ (L'.hs i).lv ≠ (L.hs i).lv
    · exact qb' i hi z
    · simp only [not_or, ne_eq, Classical.not_not] at z
      rw [lO z.2.1 z.2.2]
      exact c _ _ (nin _ hi z.1) (w.qb i hi)
  · by_cases z : Ro.mk i ∈ S ∨ (P'.hs i).ks ≠ (P.hs i).ks
    · exact ke' i hi hm z
    · simp only [not_or, ne_eq, Classical.not_not] at z
      rw [z.2]
      exact c _ _ (nin _ ⟨hi, hm⟩ z.1) (w.ke i hi hm)
  · by_cases z : Ro.lk i ∈ S ∨ (L'.hs i).ks ≠ (L.hs i).ks
    · exact le' i hi hm z
    · simp only [not_or, ne_eq, Classical.not_not] at z
      rw [z.2]
      exact c _ _ (nin _ ⟨hi, hm⟩ z.1) (w.le i hi hm)
  · by_cases z : Ro.wq ∈ S ∨ P'.wt ≠ P.wt
    · exact wq' z
    · simp only [not_or, ne_eq, Classical.not_not] at z
      rw [z.2]
      exact c _ _ (nin _ trivial z.1) w.wq
  · by_cases z : Ro.wl ∈ S ∨ L'.wt ≠ L.wt
    · exact wl' z
    · simp only [not_or, ne_eq, Classical.not_not] at z
      rw [z.2]
      exact c _ _ (nin _ trivial z.1) w.wl
theorem chg1 {p : Addr} {o : HO} : Chg [p] H (upd H p o) := Chg.put List.mem_cons_self
theorem Wd.hlv (w : Wd K C ad n P L G H) (c : Chg (S.map ad) H H') (hS : ∀ r ∈ S, Lv C r) (ho : ∀ r ∈ S, H' (ad r) ≠ none ∧ ∀ xs, H' (ad r) ≠ some (.tup xs)) : Pla C ad G H' := w.pl.chg hS c ho
theorem FrAt.ok {p : Addr} {fs : List (Str × Str)} (h : FrAt H p fs) : H p ≠ none ∧ ∀ xs, H p ≠ some (.tup xs) := by
  obtain ⟨ps, h, _⟩ := h
  rw [h]; exact ⟨(fun z => nomatch z), fun _ z => nomatch z⟩
theorem dk_ok {p : Addr} {o : HO} (h : H p = some o) (n : ∀ xs, o ≠ .tup xs) : H p ≠ none ∧ ∀ xs, H p ≠ some (.tup xs) := by
  rw [h]; exact ⟨(fun z => nomatch z), fun xs z => n xs (Option.some.inj z)⟩
/-- the program wrote, or kept a failure -/
theorem Wd.wrP (w : Wd K C ad n P L G H) (c : Chg [ad .st, ad .fr] H H') (y : YSt K H' C.y (ad .st) (ad .fr) P'.ts P'.fl) (e : P'.hs = P.hs) (ew : P'.wt = P.wt) : Wd K C ad n P' L G H' := by
  have hS : ∀ r ∈ ([.st, .fr] : List Ro), Lv C r := fun r hr => by
    simp only [List.mem_cons, List.not_mem_nil, or_false] at hr
    rcases hr with rfl | rfl <;> trivial
  refine w.nx (S := [.st, .fr]) hS c (w.pl.chg hS c fun r hr => ?_) (fun z => ?_) (fun _ => y) (fun z => ?_) (by simp) (by simp) (fun i hi z => ?_) (fun i hi z => ?_) (fun i hi hm z => ?_) (fun i hi hm z => ?_) (fun z => ?_) (fun z => ?_)
  · simp only [List.mem_cons, List.not_mem_nil, or_false] at hr
    rcases hr with rfl | rfl
    · exact dk_ok y.st (fun _ z => nomatch z)
    · exact y.fr.ok
  · simp at z
  · simp at z
  · rw [e] at z; simp at z
  · simp at z
  · rw [e] at z; simp at z
  · simp at z
  · rw [ew] at z; simp at z
  · simp at z
/-- the law wrote -/
theorem Wd.wrL (w : Wd K C ad n P L G H) (c : Chg [ad .lt, ad .lf] H H') (y : LSt H' C.m (ad .hl) (ad .lt) (ad .lf) L'.ts L'.fl) (e : L'.hs = L.hs) (ew : L'.wt = L.wt) : Wd K C ad n P L' G H' := by
  have hS : ∀ r ∈ ([.lt, .lf] : List Ro), Lv C r := fun r hr => by
    simp only [List.mem_cons, List.not_mem_nil, or_false] at hr
    rcases hr with rfl | rfl <;> trivial
  refine w.nx (S := [.lt, .lf]) hS c (w.pl.chg hS c fun r hr => ?_) (fun z => ?_) (fun z => ?_) (fun _ => y) (by simp) (by simp) (fun i hi z => ?_) (fun i hi z => ?_) (fun i hi hm z => ?_) (fun i hi hm z => ?_) (fun z => ?_) (fun z => ?_)
  · simp only [List.mem_cons, List.not_mem_nil, or_false] at hr
    rcases hr with rfl | rfl
    · exact dk_ok y.lt_ (fun _ z => nomatch z)
    · exact y.lf_.ok
  · simp at z
  · simp at z
  · simp at z
  · rw [e] at z; simp at z
  · simp at z
  · rw [e] at z; simp at z
  · simp at z
  · rw [ew] at z; simp at z
/-- a handler's own fields change -/
theorem Wd.seH (w : Wd K C ad n P L G H) (hi : i < C.n) (h : Hs) (hk : h.ks = (P.hs i).ks) : Wd K C ad n (P.set i h) L G (upd H (ad (.h i)) (pOb K C ad h i)) := by
  have hS : ∀ r ∈ ([.h i] : List Ro), Lv C r := fun r hr => by rw [List.mem_singleton.mp hr]; exact hi
  refine w.nx (S := [.h i]) hS chg1 (w.pl.chg hS chg1 fun r hr => ?_) (fun z => ?_) (fun z => ?_) (fun z => ?_) (by simp) (by simp) (fun j hj z => ?_) (fun j hj z => ?_) (fun j hj hm z => ?_) (fun j hj hm z => ?_) (fun z => ?_) (fun z => ?_)
  · rw [List.mem_singleton.mp hr]; exact dk_ok upd_same pOb_nt
  · simp at z
  · simp [AS.set] at z
  · simp at z
  · by_cases e : j = i
    · rw [e, set_same]; exact upd_same
    · rw [set_ne _ e] at z; simp [e] at z
  · simp at z
  · by_cases e : j = i
    · rw [e, set_same, hk] at z; simp at z
    · rw [set_ne _ e] at z; simp at z
  · simp at z
  · simp [AS.set, AS.kp] at z
  · simp [AS.set, AS.kp] at z
theorem Wd.seQ (w : Wd K C ad n P L G H) (hi : i < C.n) (h : Hs) (hk : h.ks = (L.hs i).ks) : Wd K C ad n P (L.set i h) G (upd H (ad (.q i)) (lOb C ad h i)) := by
  have hS : ∀ r ∈ ([.q i] : List Ro), Lv C r := fun r hr => by rw [List.mem_singleton.mp hr]; exact hi
  refine w.nx (S := [.q i]) hS chg1 (w.pl.chg hS chg1 fun r hr => ?_) (fun z => ?_) (fun z => ?_) (fun z => ?_) (by simp) (by simp) (fun j hj z => ?_) (fun j hj z => ?_) (fun j hj hm z => ?_) (fun j hj hm z => ?_) (fun z => ?_) (fun z => ?_)
  · rw [List.mem_singleton.mp hr]; exact dk_ok upd_same lOb_nt
  · simp at z
  · simp at z
  · simp [AS.set] at z
  · simp at z
  · by_cases e : j = i
    · rw [e, set_same]; exact upd_same
    · rw [set_ne _ e] at z; simp [e] at z
  · simp at z
  · by_cases e : j = i
    · rw [e, set_same, hk] at z; simp at z
    · rw [set_ne _ e] at z; simp at z
  · simp [AS.set, AS.kp] at z
  · simp [AS.set, AS.kp] at z
/-- what a memory keeps changes -/
theorem Wd.seM (w : Wd K C ad n P L G H) (hi : i < C.n) (hm0 : (C.kd i).isM) (ks : List Kp) : Wd K C ad n (P.kp i ks) L G (upd H (ad (.mk i)) (.lst (kR ks))) := by
  have hS : ∀ r ∈ ([.mk i] : List Ro), Lv C r := fun r hr => by rw [List.mem_singleton.mp hr]; exact ⟨hi, hm0⟩
  refine w.nx (S := [.mk i]) hS chg1 (w.pl.chg hS chg1 fun r hr => ?_) (fun z => ?_) (fun z => ?_) (fun z => ?_) (by simp) (by simp) (fun j hj z => ?_) (fun j hj z => ?_) (fun j hj hm z => ?_) (fun j hj hm z => ?_) (fun z => ?_) (fun z => ?_)
  · rw [List.mem_singleton.mp hr]; exact dk_ok upd_same (fun _ z => nomatch z)
  · simp at z
  · simp [AS.kp, AS.set] at z
  · simp at z
  · rw [(Bel.kp (i := i) (s := P) ks).tg j, (Bel.kp (i := i) (s := P) ks).lv j] at z; simp at z
  · simp at z
  · by_cases e : j = i
    · rw [e, show (P.kp i ks).hs i = _ from set_same _]; exact upd_same
    · rw [show (P.kp i ks).hs j = _ from set_ne _ e] at z; simp [e] at z
  · simp at z
  · simp [AS.set, AS.kp] at z
  · simp [AS.set, AS.kp] at z
theorem Wd.seL (w : Wd K C ad n P L G H) (hi : i < C.n) (hm0 : (C.kd i).isM) (ks : List Kp) : Wd K C ad n P (L.kp i ks) G (upd H (ad (.lk i)) (.lst (kQ ks))) := by
  have hS : ∀ r ∈ ([.lk i] : List Ro), Lv C r := fun r hr => by rw [List.mem_singleton.mp hr]; exact ⟨hi, hm0⟩
  refine w.nx (S := [.lk i]) hS chg1 (w.pl.chg hS chg1 fun r hr => ?_) (fun z => ?_) (fun z => ?_) (fun z => ?_) (by simp) (by simp) (fun j hj z => ?_) (fun j hj z => ?_) (fun j hj hm z => ?_) (fun j hj hm z => ?_) (fun z => ?_) (fun z => ?_)
  · rw [List.mem_singleton.mp hr]; exact dk_ok upd_same (fun _ z => nomatch z)
  · simp at z
  · simp at z
  · simp [AS.kp, AS.set] at z
  · simp at z
  · rw [(Bel.kp (i := i) (s := L) ks).tg j, (Bel.kp (i := i) (s := L) ks).lv j] at z; simp at z
  · simp at z
  · by_cases e : j = i
    · rw [e, show (L.kp i ks).hs i = _ from set_same _]; exact upd_same
    · rw [show (L.kp i ks).hs j = _ from set_ne _ e] at z; simp [e] at z
  · simp [AS.set, AS.kp] at z
  · simp [AS.set, AS.kp] at z
/-- what waits changes -/
theorem Wd.seW (w : Wd K C ad n P L G H) (x : List Kp) : Wd K C ad n (P.wts x) L G (upd H (ad .wq) (.lst (kR x))) := by
  have hS : ∀ r ∈ ([.wq] : List Ro), Lv C r := fun r hr => by rw [List.mem_singleton.mp hr]; trivial
  refine w.nx (S := [.wq]) hS chg1 (w.pl.chg hS chg1 fun r hr => ?_) (fun z => ?_) (fun z => ?_) (fun z => ?_) (by simp) (by simp) (fun j hj z => ?_) (fun j hj z => ?_) (fun j hj hm z => ?_) (fun j hj hm z => ?_) (fun z => ?_) (fun z => ?_)
  · rw [List.mem_singleton.mp hr]; exact dk_ok upd_same (fun _ z => nomatch z)
  · simp at z
  · simp [AS.wts] at z
  · simp at z
  · simp [AS.wts] at z
  · simp at z
  · simp [AS.wts] at z
  · simp at z
  · exact upd_same
  · simp at z
theorem Wd.seV (w : Wd K C ad n P L G H) (x : List Kp) : Wd K C ad n P (L.wts x) G (upd H (ad .wl) (.lst (kQ x))) := by
  have hS : ∀ r ∈ ([.wl] : List Ro), Lv C r := fun r hr => by rw [List.mem_singleton.mp hr]; trivial
  refine w.nx (S := [.wl]) hS chg1 (w.pl.chg hS chg1 fun r hr => ?_) (fun z => ?_) (fun z => ?_) (fun z => ?_) (by simp) (by simp) (fun j hj z => ?_) (fun j hj z => ?_) (fun j hj hm z => ?_) (fun j hj hm z => ?_) (fun z => ?_) (fun z => ?_)
  · rw [List.mem_singleton.mp hr]; exact dk_ok upd_same (fun _ z => nomatch z)
  · simp at z
  · simp at z
  · simp [AS.wts] at z
  · simp at z
  · simp [AS.wts] at z
  · simp at z
  · simp [AS.wts] at z
  · simp at z
  · exact upd_same
/-- the stream goes on -/
theorem Wd.old (w : Wd K C ad n P L G H) (o : Old (ad .s) (ad .l) H H') (st : Stm H' (ad .s) (ad .l) n') : Wd K C ad n' P L G H' := by
  have hS : ∀ r ∈ ([.s, .l] : List Ro), Lv C r := fun r hr => by
    simp only [List.mem_cons, List.not_mem_nil, or_false] at hr
    rcases hr with rfl | rfl <;> trivial
  have c : Chg [ad .s, ad .l] H H' := fun b u nb e => o b u (fun z => nb (by rw [z]; simp)) (fun z => nb (by rw [z]; simp)) e
  refine w.nx (S := [.s, .l]) hS c (w.pl.chg hS c fun r hr => ?_) (fun _ => st) (fun z => ?_) (fun z => ?_) (by simp) (by simp) (fun j hj z => ?_) (fun j hj z => ?_) (fun j hj hm z => ?_) (fun j hj hm z => ?_) (fun z => ?_) (fun z => ?_)
  · obtain ⟨_, _, _, _, _, g1, g2, _⟩ := st
    simp only [List.mem_cons, List.not_mem_nil, or_false] at hr
    rcases hr with rfl | rfl
    · exact dk_ok g1 (fun _ z => nomatch z)
    · exact dk_ok g2 (fun _ z => nomatch z)
  · simp at z
  · simp at z
  · simp at z
  · simp at z
  · simp at z
  · simp at z
  · simp at z
  · simp at z
theorem Wd.same (w : Wd K C ad n P L G H) (e : Same H H') : Wd K C ad n P L G H' := w.old (Old.of_same e) (w.stm.same e)
theorem Wd.mono (w : Wd K C ad n P L G H) (e : n ≤ n') : Wd K C ad n' P L G H := ⟨w.pl, w.stm.mono e, w.yd, w.mm, w.ys, w.ls, w.hmd, w.hhl, w.st, w.ob, w.qb, w.ke, w.le, w.wq, w.wl⟩
/-- all that does not move -/
def Mvs (C : Cfg) (ad : Ro → Addr) : Addr → Prop := fun b => ∃ r, Lv C r ∧ b = ad r
noncomputable abbrev Gs (C : Cfg) (ad : Ro → Addr) (H : Hp) : Hp := rst (Mvs C ad) H
theorem Wd.up (w : Wd K C ad n P L G H) : Same G (Gs C ad H) := fun b u e => rst_at (w.pl.sm _ _ e) fun ⟨r, h1, h2⟩ => by rw [h2, w.pl.og r h1] at e; cases e
theorem Wd.re (w : Wd K C ad n P L G H) : Wd K C ad n P L (Gs C ad H) H :=
  ⟨⟨rst_same, fun r hr => rst_none ⟨r, hr, rfl⟩, w.pl.inj, w.pl.lv⟩, w.stm, w.yd.same w.up, w.up _ _ w.mm, w.ys, w.ls, w.hmd, w.hhl, fun i hi => (w.st i hi).same w.up, w.ob, w.qb, w.ke, w.le, w.wq, w.wl⟩
/-- what was laid since stays -/
theorem Wd.nwS (w : Wd K C ad n P L G H) (w' : Wd K C ad n' P' L' G' H') : Same (nw H H') (Gs C ad H') := fun b u e => by
  have e2 := rst_same _ _ e
  refine rst_at e2 fun ⟨r, h1, h2⟩ => (w.pl.lv r h1).1 ?_
  rw [← h2]; exact nw_free e
/-- a fresh place -/
theorem Wd.fresh (w : Wd K C ad n P L G H) {p : Addr} (f : H p = none) : ¬ Mvs C ad p := fun ⟨r, h1, h2⟩ => (w.pl.lv r h1).1 (by rw [← h2]; exact f)
end
end
end K17

set_option Elab.async false
set_option linter.all false
set_option maxRecDepth 100000
set_option maxHeartbeats 0
namespace K17
open PySem PySem.Spec PyProof.Rows L2 RC
section
variable {P : Program} {w : World} {K : PySem.W.Frag} {mg : Str → Option Value} {base : Heap}
/-! ### a new list for what is kept -/
noncomputable def adU (ad : Ro → Addr) (r0 : Ro) (p : Addr) : Ro → Addr := open Classical in fun r => if r = r0 then p else ad r
theorem adU_at {ad : Ro → Addr} {r0 : Ro} {p : Addr} : adU ad r0 p r0 = p := if_pos rfl
theorem adU_ne {ad : Ro → Addr} {r0 r : Ro} {p : Addr} (h : r ≠ r0) : adU ad r0 p r = ad r := if_neg h
section
variable {C : Cfg} {ad ad' : Ro → Addr} {n n' : Nat} {P P' L L' : AS} {G G' H H' : Hp} {i : Nat} {S : List Ro} {p : Addr}
theorem Wd.neM (w : Wd K C ad n P L G H) (hi : i < C.n) (hm : (C.kd i).isM) (fp : H p = none) : Wd K C (adU ad (.mk i) p) n (P.kp i []) L G (upd (upd H p (.lst [])) (ad (.h i)) (pOb K C (adU ad (.mk i) p) (P.hs i) i)) := by
  have hS : ∀ r ∈ ([.h i] : List Ro), Lv C r := fun r hr => by rw [List.mem_singleton.mp hr]; exact hi
  have lvm : Lv C (.mk i) := ⟨hi, hm⟩
  have eh : adU ad (.mk i) p (.h i) = ad (.h i) := adU_ne (fun z => nomatch z)
  have F1 : Pla C (adU ad (.mk i) p) G (upd H (adU ad (.mk i) p (.mk i)) (.lst [])) := w.pl.new lvm (fun r hr => adU_ne hr) (by rw [adU_at]; exact fp) (fun _ z => nomatch z)
  rw [adU_at] at F1
  have s1 := same_new fp (.lst [])
  have hp1 := upd_same (H := H) (a := p) (o := .lst [])
  generalize upd H p (.lst []) = H1 at F1 s1 hp1 ⊢
  have c : Chg (([.h i] : List Ro).map (adU ad (.mk i) p)) H1 (upd H1 (ad (.h i)) (pOb K C (adU ad (.mk i) p) (P.hs i) i)) := by
    show Chg [adU ad (.mk i) p (.h i)] _ _
    rw [eh]; exact chg1
  have F2 := F1.chg hS c fun r hr => by rw [List.mem_singleton.mp hr, eh]; exact dk_ok upd_same pOb_nt
  have nin : ∀ r, Lv C r → r ≠ .h i → adU ad (.mk i) p r ≠ ad (.h i) := fun r hr n z => n (F1.inj r (.h i) hr hi (by rw [eh]; exact z))
  have ee : ∀ r, r ≠ .mk i → adU ad (.mk i) p r = ad r := fun r n => adU_ne n
  have k1 : ∀ r o, Lv C r → r ≠ .h i → r ≠ .mk i → H (ad r) = some o → upd H1 (ad (.h i)) (pOb K C (adU ad (.mk i) p) (P.hs i) i) (ad r) = some o := fun r o hr n1 n2 e => by
    rw [upd_ne (by rw [← ee r n2]; exact nin r hr n1)]; exact s1 _ _ e
  have c' : Chg [ad (.h i)] H1 (upd H1 (ad (.h i)) (pOb K C (adU ad (.mk i) p) (P.hs i) i)) := chg1
  have tp : ∀ q xs, q ∈ [ad (.h i)] → H1 q ≠ some (.tup xs) := fun q xs hq => by
    rw [List.mem_singleton.mp hq, ← eh]; exact (F1.lv (.h i) hi).2 xs
  have n0 : ∀ r, Lv C r → r ≠ .h i → r ≠ .mk i → ad r ∉ [ad (.h i)] := fun r hr n1 n2 z => nin r hr n1 (by rw [ee r n2]; exact List.mem_singleton.mp z)
  have nG : ∀ b u, G b = some u → b ∉ [ad (.h i)] := fun b u e z => by
    rw [List.mem_singleton.mp z, w.pl.og (.h i) hi] at e; cases e
  obtain ⟨⟨_, _, _, _, _, _, _, _, gy⟩, _⟩ := w.yd
  have kp1 := Bel.kp (i := i) (s := P) []
  have e1 : adU ad (.mk i) p .s = ad .s := ee _ (fun z => nomatch z)
  have e2 : adU ad (.mk i) p .l = ad .l := ee _ (fun z => nomatch z)
  have e3 : adU ad (.mk i) p .st = ad .st := ee _ (fun z => nomatch z)
  have e4 : adU ad (.mk i) p .fr = ad .fr := ee _ (fun z => nomatch z)
  have e5 : adU ad (.mk i) p .lt = ad .lt := ee _ (fun z => nomatch z)
  have e6 : adU ad (.mk i) p .lf = ad .lf := ee _ (fun z => nomatch z)
  have e7 : adU ad (.mk i) p .hl = ad .hl := ee _ (fun z => nomatch z)
  have e8 : adU ad (.mk i) p .md = ad .md := ee _ (fun z => nomatch z)
  have e9 : ∀ j, adU ad (.mk i) p (.h j) = ad (.h j) := fun j => ee _ (fun z => nomatch z)
  have e10 : ∀ j, adU ad (.mk i) p (.q j) = ad (.q j) := fun j => ee _ (fun z => nomatch z)
  have e11 : ∀ j, adU ad (.mk i) p (.lk j) = ad (.lk j) := fun j => ee _ (fun z => nomatch z)
  have eH : hRs (adU ad (.mk i) p) C.n = hRs ad C.n := by unfold hRs; simp only [e9]
  have eQ : qRs (adU ad (.mk i) p) C.n = qRs ad C.n := by unfold qRs; simp only [e10]
  refine ⟨F2, ?_, ?_, ?_, ?_, ?_, ?_, ?_, w.st, fun j hj => ?_, fun j hj => ?_, fun j hj hmj => ?_, fun j hj hmj => ?_, ?_, ?_⟩
  · rw [e1, e2]
    obtain ⟨a0, a1, a2, a3, a4, g1, g2, g3⟩ := w.stm
    exact ⟨a0, a1, a2, a3, a4, k1 .s _ trivial (fun z => nomatch z) (fun z => nomatch z) g1, k1 .l _ trivial (fun z => nomatch z) (fun z => nomatch z) g2, g3⟩
  · rw [e8]; exact w.yd
  · rw [e5, e6, e7]; exact w.mm
  · rw [e3, e4]
    exact (w.ys.same s1).chg c' (n0 .st trivial (fun z => nomatch z) (fun z => nomatch z)) (n0 .fr trivial (fun z => nomatch z) (fun z => nomatch z)) (nG _ _ gy) tp
  · rw [e5, e6, e7]
    exact (w.ls.same s1).chg c' (n0 .lt trivial (fun z => nomatch z) (fun z => nomatch z)) (n0 .lf trivial (fun z => nomatch z) (fun z => nomatch z)) (nG _ _ w.mm) tp
  · rw [e8, eH]; exact k1 .md _ trivial (fun z => nomatch z) (fun z => nomatch z) w.hmd
  · rw [e7, eQ]; exact k1 .hl _ trivial (fun z => nomatch z) (fun z => nomatch z) w.hhl
  · rw [e9]
    by_cases e : j = i
    · rw [e, upd_same]
      unfold pOb
      rw [kp1.tg i, kp1.lv i]
    · rw [show (P.kp i []).hs j = _ from set_ne _ e, pOb_ad (h := P.hs j) (i := j) (fun m _ => e9 m) (fun _ => ee _ fun z => e (by cases z; rfl))]
      exact k1 (.h j) _ hj (fun z => e (by cases z; rfl)) (fun z => nomatch z) (w.ob j hj)
  · rw [e10, lOb_ad (h := L.hs j) (i := j) (e9 j) (fun _ => e11 j)]
    exact k1 (.q j) _ hj (fun z => nomatch z) (fun z => nomatch z) (w.qb j hj)
  · by_cases e : j = i
    · rw [e, adU_at, show (P.kp i []).hs i = _ from set_same _, upd_ne (by have := nin (.mk i) lvm (fun z => nomatch z); rw [adU_at] at this; exact this)]
      exact hp1
    · rw [show (P.kp i []).hs j = _ from set_ne _ e, ee _ (fun z => e (by cases z; rfl))]
      exact k1 (.mk j) _ ⟨hj, hmj⟩ (fun z => nomatch z) (fun z => e (by cases z; rfl)) (w.ke j hj hmj)
  · rw [e11]
    exact k1 (.lk j) _ ⟨hj, hmj⟩ (fun z => nomatch z) (fun z => nomatch z) (w.le j hj hmj)
  · rw [show adU ad (.mk i) p .wq = ad .wq from ee _ (fun z => nomatch z)]
    exact k1 .wq _ trivial (fun z => nomatch z) (fun z => nomatch z) w.wq
  · rw [show adU ad (.mk i) p .wl = ad .wl from ee _ (fun z => nomatch z)]
    exact k1 .wl _ trivial (fun z => nomatch z) (fun z => nomatch z) w.wl
theorem Wd.neL (w : Wd K C ad n P L G H) (hi : i < C.n) (hm : (C.kd i).isM) (fp : H p = none) : Wd K C (adU ad (.lk i) p) n P (L.kp i []) G (upd (upd H p (.lst [])) (ad (.q i)) (lOb C (adU ad (.lk i) p) (L.hs i) i)) := by
  have hS : ∀ r ∈ ([.q i] : List Ro), Lv C r := fun r hr => by rw [List.mem_singleton.mp hr]; exact hi
  have lvm : Lv C (.lk i) := ⟨hi, hm⟩
  have eh : adU ad (.lk i) p (.q i) = ad (.q i) := adU_ne (fun z => nomatch z)
  have F1 : Pla C (adU ad (.lk i) p) G (upd H (adU ad (.lk i) p (.lk i)) (.lst [])) := w.pl.new lvm (fun r hr => adU_ne hr) (by rw [adU_at]; exact fp) (fun _ z => nomatch z)
  rw [adU_at] at F1
  have s1 := same_new fp (.lst [])
  have hp1 := upd_same (H := H) (a := p) (o := .lst [])
  generalize upd H p (.lst []) = H1 at F1 s1 hp1 ⊢
  have c : Chg (([.q i] : List Ro).map (adU ad (.lk i) p)) H1 (upd H1 (ad (.q i)) (lOb C (adU ad (.lk i) p) (L.hs i) i)) := by
    show Chg [adU ad (.lk i) p (.q i)] _ _
    rw [eh]; exact chg1
  have F2 := F1.chg hS c fun r hr => by rw [List.mem_singleton.mp hr, eh]; exact dk_ok upd_same lOb_nt
  have nin : ∀ r, Lv C r → r ≠ .q i → adU ad (.lk i) p r ≠ ad (.q i) := fun r hr n z => n (F1.inj r (.q i) hr hi (by rw [eh]; exact z))
  have ee : ∀ r, r ≠ .lk i → adU ad (.lk i) p r = ad r := fun r n => adU_ne n
  have k1 : ∀ r o, Lv C r → r ≠ .q i → r ≠ .lk i → H (ad r) = some o → upd H1 (ad (.q i)) (lOb C (adU ad (.lk i) p) (L.hs i) i) (ad r) = some o := fun r o hr n1 n2 e => by
    rw [upd_ne (by rw [← ee r n2]; exact nin r hr n1)]; exact s1 _ _ e
  have c' : Chg [ad (.q i)] H1 (upd H1 (ad (.q i)) (lOb C (adU ad (.lk i) p) (L.hs i) i)) := chg1
  have tp : ∀ q xs, q ∈ [ad (.q i)] → H1 q ≠ some (.tup xs) := fun q xs hq => by
    rw [List.mem_singleton.mp hq, ← eh]; exact (F1.lv (.q i) hi).2 xs
  have n0 : ∀ r, Lv C r → r ≠ .q i → r ≠ .lk i → ad r ∉ [ad (.q i)] := fun r hr n1 n2 z => nin r hr n1 (by rw [ee r n2]; exact List.mem_singleton.mp z)
  have nG : ∀ b u, G b = some u → b ∉ [ad (.q i)] := fun b u e z => by
    rw [List.mem_singleton.mp z, w.pl.og (.q i) hi] at e; cases e
  obtain ⟨⟨_, _, _, _, _, _, _, _, gy⟩, _⟩ := w.yd
  have kp1 := Bel.kp (i := i) (s := L) []
  have e1 : adU ad (.lk i) p .s = ad .s := ee _ (fun z => nomatch z)
  have e2 : adU ad (.lk i) p .l = ad .l := ee _ (fun z => nomatch z)
  have e3 : adU ad (.lk i) p .st = ad .st := ee _ (fun z => nomatch z)
  have e4 : adU ad (.lk i) p .fr = ad .fr := ee _ (fun z => nomatch z)
  have e5 : adU ad (.lk i) p .lt = ad .lt := ee _ (fun z => nomatch z)
  have e6 : adU ad (.lk i) p .lf = ad .lf := ee _ (fun z => nomatch z)
  have e7 : adU ad (.lk i) p .hl = ad .hl := ee _ (fun z => nomatch z)
  have e8 : adU ad (.lk i) p .md = ad .md := ee _ (fun z => nomatch z)
  have e9 : ∀ j, adU ad (.lk i) p (.h j) = ad (.h j) := fun j => ee _ (fun z => nomatch z)
  have e10 : ∀ j, adU ad (.lk i) p (.q j) = ad (.q j) := fun j => ee _ (fun z => nomatch z)
  have e11 : ∀ j, adU ad (.lk i) p (.mk j) = ad (.mk j) := fun j => ee _ (fun z => nomatch z)
  have eH : hRs (adU ad (.lk i) p) C.n = hRs ad C.n := by unfold hRs; simp only [e9]
  have eQ : qRs (adU ad (.lk i) p) C.n = qRs ad C.n := by unfold qRs; simp only [e10]
  refine ⟨F2, ?_, ?_, ?_, ?_, ?_, ?_, ?_, w.st, fun j hj => ?_, fun j hj => ?_, fun j hj hmj => ?_, fun j hj hmj => ?_, ?_, ?_⟩
  · rw [e1, e2]
    obtain ⟨a0, a1, a2, a3, a4, g1, g2, g3⟩ := w.stm
    exact ⟨a0, a1, a2, a3, a4, k1 .s _ trivial (fun z => nomatch z) (fun z => nomatch z) g1, k1 .l _ trivial (fun z => nomatch z) (fun z => nomatch z) g2, g3⟩
  · rw [e8]; exact w.yd
  · rw [e5, e6, e7]; exact w.mm
  · rw [e3, e4]
    exact (w.ys.same s1).chg c' (n0 .st trivial (fun z => nomatch z) (fun z => nomatch z)) (n0 .fr trivial (fun z => nomatch z) (fun z => nomatch z)) (nG _ _ gy) tp
  · rw [e5, e6, e7]
    exact (w.ls.same s1).chg c' (n0 .lt trivial (fun z => nomatch z) (fun z => nomatch z)) (n0 .lf trivial (fun z => nomatch z) (fun z => nomatch z)) (nG _ _ w.mm) tp
  · rw [e8, eH]; exact k1 .md _ trivial (fun z => nomatch z) (fun z => nomatch z) w.hmd
  · rw [e7, eQ]; exact k1 .hl _ trivial (fun z => nomatch z) (fun z => nomatch z) w.hhl
  · rw [e9, pOb_ad (h := P.hs j) (i := j) (fun m _ => e9 m) (fun _ => e11 j)]
    exact k1 (.h j) _ hj (fun z => nomatch z) (fun z => nomatch z) (w.ob j hj)
  · rw [e10]
    by_cases e : j = i
    · rw [e, upd_same]
      unfold lOb
      rw [kp1.tg i, kp1.lv i]
    · rw [show (L.kp i []).hs j = _ from set_ne _ e, lOb_ad (h := L.hs j) (i := j) (e9 j) (fun _ => ee _ fun z => e (by cases z; rfl))]
      exact k1 (.q j) _ hj (fun z => e (by cases z; rfl)) (fun z => nomatch z) (w.qb j hj)
  · rw [e11]
    exact k1 (.mk j) _ ⟨hj, hmj⟩ (fun z => nomatch z) (fun z => nomatch z) (w.ke j hj hmj)
  · by_cases e : j = i
    · rw [e, adU_at, show (L.kp i []).hs i = _ from set_same _, upd_ne (by have := nin (.lk i) lvm (fun z => nomatch z); rw [adU_at] at this; exact this)]
      exact hp1
    · rw [show (L.kp i []).hs j = _ from set_ne _ e, ee _ (fun z => e (by cases z; rfl))]
      exact k1 (.lk j) _ ⟨hj, hmj⟩ (fun z => nomatch z) (fun z => e (by cases z; rfl)) (w.le j hj hmj)
  · rw [show adU ad (.lk i) p .wq = ad .wq from ee _ (fun z => nomatch z)]
    exact k1 .wq _ trivial (fun z => nomatch z) (fun z => nomatch z) w.wq
  · rw [show adU ad (.lk i) p .wl = ad .wl from ee _ (fun z => nomatch z)]
    exact k1 .wl _ trivial (fun z => nomatch z) (fun z => nomatch z) w.wl
theorem Wd.neV (w : Wd K C ad n P L G H) (x : List Kp) (fp : H p = none) : Wd K C (adU ad .wl p) n P (L.wts x) G (upd H p (.lst (kQ x))) := by
  have F1 : Pla C (adU ad .wl p) G (upd H (adU ad .wl p .wl) (.lst (kQ x))) := w.pl.new (r0 := .wl) trivial (fun r hr => adU_ne hr) (by rw [adU_at]; exact fp) (fun _ z => nomatch z)
  rw [adU_at] at F1
  have s1 := same_new fp (.lst (kQ x))
  have hp1 := upd_same (H := H) (a := p) (o := .lst (kQ x))
  generalize upd H p (.lst (kQ x)) = H1 at F1 s1 hp1 ⊢
  have w1 := w.same s1
  have ee : ∀ r, r ≠ .wl → adU ad .wl p r = ad r := fun r n => adU_ne n
  have e1 : adU ad .wl p .s = ad .s := ee _ (fun z => nomatch z)
  have e2 : adU ad .wl p .l = ad .l := ee _ (fun z => nomatch z)
  have e3 : adU ad .wl p .st = ad .st := ee _ (fun z => nomatch z)
  have e4 : adU ad .wl p .fr = ad .fr := ee _ (fun z => nomatch z)
  have e5 : adU ad .wl p .lt = ad .lt := ee _ (fun z => nomatch z)
  have e6 : adU ad .wl p .lf = ad .lf := ee _ (fun z => nomatch z)
  have e7 : adU ad .wl p .hl = ad .hl := ee _ (fun z => nomatch z)
  have e8 : adU ad .wl p .md = ad .md := ee _ (fun z => nomatch z)
  have e9 : ∀ j, adU ad .wl p (.h j) = ad (.h j) := fun j => ee _ (fun z => nomatch z)
  have e10 : ∀ j, adU ad .wl p (.q j) = ad (.q j) := fun j => ee _ (fun z => nomatch z)
  have e11 : ∀ j, adU ad .wl p (.mk j) = ad (.mk j) := fun j => ee _ (fun z => nomatch z)
  have e12 : ∀ j, adU ad .wl p (.lk j) = ad (.lk j) := fun j => ee _ (fun z => nomatch z)
  have e13 : adU ad .wl p .wq = ad .wq := ee _ (fun z => nomatch z)
  have eH : hRs (adU ad .wl p) C.n = hRs ad C.n := by unfold hRs; simp only [e9]
  have eQ : qRs (adU ad .wl p) C.n = qRs ad C.n := by unfold qRs; simp only [e10]
  refine ⟨F1, ?_, ?_, ?_, ?_, ?_, ?_, ?_, w.st, fun j hj => ?_, fun j hj => ?_, fun j hj hmj => ?_, fun j hj hmj => ?_, ?_, ?_⟩
  · rw [e1, e2]; exact w1.stm
  · rw [e8]; exact w.yd
  · rw [e5, e6, e7]; exact w.mm
  · rw [e3, e4]; exact w1.ys
  · rw [e5, e6, e7]; exact w1.ls
  · rw [e8, eH]; exact w1.hmd
  · rw [e7, eQ]; exact w1.hhl
  · rw [e9, pOb_ad (h := P.hs j) (i := j) (fun m _ => e9 m) (fun _ => e11 j)]; exact w1.ob j hj
  · rw [e10, lOb_ad (h := (L.wts x).hs j) (i := j) (e9 j) (fun _ => e12 j)]; exact w1.qb j hj
  · rw [e11]; exact w1.ke j hj hmj
  · rw [e12]; exact w1.le j hj hmj
  · rw [e13]; exact w1.wq
  · rw [adU_at]; exact hp1
/-- only lists of kept records below i go elsewhere -/
def AdP (i : Nat) (ad ad' : Ro → Addr) : Prop := ∀ r, (∀ j, j ≤ i → r ≠ .mk j) → ad' r = ad r
def AdL (i : Nat) (ad ad' : Ro → Addr) : Prop := ∀ r, (∀ j, j ≤ i → r ≠ .lk j) → ad' r = ad r
theorem AdP.refl : AdP i ad ad := fun _ _ => rfl
theorem AdL.refl : AdL i ad ad := fun _ _ => rfl
theorem AdP.trans {ad'' : Ro → Addr} {j : Nat} (a : AdP j ad ad') (b : AdP i ad' ad'') (h : j ≤ i) : AdP i ad ad'' := fun r n => (b r n).trans (a r fun m hm => n m (Nat.le_trans hm h))
theorem AdL.trans {ad'' : Ro → Addr} {j : Nat} (a : AdL j ad ad') (b : AdL i ad' ad'') (h : j ≤ i) : AdL i ad ad'' := fun r n => (b r n).trans (a r fun m hm => n m (Nat.le_trans hm h))
theorem AdP.upd : AdP i ad (adU ad (.mk i) p) := fun r n => adU_ne (n i (Nat.le_refl _))
theorem AdL.upd : AdL i ad (adU ad (.lk i) p) := fun r n => adU_ne (n i (Nat.le_refl _))
theorem AdP.bs (a : AdP i ad ad') : ad' .s = ad .s ∧ ad' .l = ad .l ∧ ad' .wq = ad .wq ∧ ad' .wl = ad .wl ∧ ad' .md = ad .md ∧ ad' .hl = ad .hl ∧ ad' .lt = ad .lt ∧ ad' .lf = ad .lf := ⟨a .s (fun _ _ z => nomatch z), a .l (fun _ _ z => nomatch z), a .wq (fun _ _ z => nomatch z), a .wl (fun _ _ z => nomatch z), a .md (fun _ _ z => nomatch z), a .hl (fun _ _ z => nomatch z), a .lt (fun _ _ z => nomatch z), a .lf (fun _ _ z => nomatch z)⟩
theorem AdL.bs (a : AdL i ad ad') : ad' .s = ad .s ∧ ad' .l = ad .l ∧ ad' .wq = ad .wq ∧ ad' .wl = ad .wl ∧ ad' .md = ad .md ∧ ad' .hl = ad .hl ∧ ad' .lt = ad .lt ∧ ad' .lf = ad .lf := ⟨a .s (fun _ _ z => nomatch z), a .l (fun _ _ z => nomatch z), a .wq (fun _ _ z => nomatch z), a .wl (fun _ _ z => nomatch z), a .md (fun _ _ z => nomatch z), a .hl (fun _ _ z => nomatch z), a .lt (fun _ _ z => nomatch z), a .lf (fun _ _ z => nomatch z)⟩
theorem AdP.h (a : AdP i ad ad') (j : Nat) : ad' (.h j) = ad (.h j) := a _ fun _ _ z => nomatch z
theorem AdP.q (a : AdP i ad ad') (j : Nat) : ad' (.q j) = ad (.q j) := a _ fun _ _ z => nomatch z
theorem AdP.mk (a : AdP i ad ad') {j : Nat} (h : i < j) : ad' (.mk j) = ad (.mk j) := a _ fun m hm z => by cases z; omega
theorem AdL.h (a : AdL i ad ad') (j : Nat) : ad' (.h j) = ad (.h j) := a _ fun _ _ z => nomatch z
theorem AdL.q (a : AdL i ad ad') (j : Nat) : ad' (.q j) = ad (.q j) := a _ fun _ _ z => nomatch z
theorem AdL.lk (a : AdL i ad ad') {j : Nat} (h : i < j) : ad' (.lk j) = ad (.lk j) := a _ fun m hm z => by cases z; omega
/-- a writer in the world -/
theorem Wd.wrAt (w : Wd K C ad n P L G H) (hi : i < C.n) {x : LWr} (e : C.kd i = .wr x) : WrAt K H (ad (.h i)) C.y (x.wr (P.hs i).lv) := by
  have h1 := w.ob i hi
  obtain ⟨_, ⟨as, k1, k2, k3, k4⟩, _, _, k5⟩ := w.st i hi
  unfold pOb at h1
  rw [e] at h1 k5 k2 k4
  refine ⟨C.dh i, C.fi i, C.fv i, as, h1, FormV.same w.pl.sm k5, w.pl.sm _ _ k1, k2, k3, fun k a hk => ?_⟩
  obtain ⟨n, hn, hf⟩ := k4 k a hk
  exact ⟨n, hn, hf.same w.pl.sm⟩
theorem Wd.flAt (w : Wd K C ad n P L G H) (hi : i < C.n) : FlAt K H (C.fi i) (C.kd i).ns := ((w.st i hi).2.1).same w.pl.sm
/-- a record that both know -/
def KpAt (K : PySem.W.Frag) (G : Hp) (k : Kp) : Prop := RcAt K G k.r k.d ∧ G k.q = some (.dK (rcD k.d k.r)) ∧ LRc k.d
theorem KpAt.same {G G' : Hp} {k : Kp} (s : Same G G') (h : KpAt K G k) : KpAt K G' k := ⟨RecAt.same h.1 s, s _ _ h.2.1, h.2.2⟩
abbrev sa : Str := ("s" : Str) ++ Str.ofString (toString ((0 : Nat) : Int))
abbrev sb : Str := ("s" : Str) ++ Str.ofString (toString ((1 : Nat) : Int))
abbrev SO (K : PySem.W.Frag) (G : Hp) (s : AS) : Prop := SOk (KpAt K G) sa sb s
end
end
end K17

set_option Elab.async false
set_option linter.all false
set_option maxRecDepth 100000
set_option maxHeartbeats 0

namespace K17
open PySem PySem.Spec PyProof.Rows L2 RC
section
variable {P : Program} {w : World} {K : PySem.W.Frag} {mg : Str → Option Value} {base : Heap}
/-! ### memories one behind another: the program -/
theorem tt_succ (s : AS) (i : Nat) : s.tt (i + 1) = s.tt i + (s.hs i).ks.length := by
  show sumN _ i + (s.hs i).ks.length + s.w = sumN _ i + s.w + (s.hs i).ks.length
  omega
theorem tt_le {s : AS} {i j : Nat} (h : i ≤ j) : s.tt i ≤ s.tt j := Nat.add_le_add_right (sumN_le h) _
theorem w_le (s : AS) (i : Nat) : s.w ≤ s.tt i := Nat.le_add_left _ _
theorem hA_lt {D : Nat → Kd} {b i : Nat} (h : i < b) : ∃ c, b = c + 1 := ⟨b - 1, by omega⟩
theorem hA_wr {D : Nat → Kd} {b i : Nat} {x : LWr} {k : Kp} {s : AS} (h : i < b) (e : D i = .wr x) : hA D b i k s = if lets x.ns k.d.name = true then s.wrt (x.f.out k.d) x.sn k.d.name else s := by
  obtain ⟨c, rfl⟩ := hA_lt (D := D) h
  show (if lets (D i).ns k.d.name = true then _ else s) = _
  rw [e]; rfl
theorem hA_mem {D : Nat → Kd} {b i : Nat} {md : Md} {k : Kp} {s : AS} (e : D i = .mem md) : hA D (b + 1) i k s = if lets md.ns k.d.name = true then puA (hA D b) md i k s else s := by
  show (if lets (D i).ns k.d.name = true then _ else s) = _
  rw [e]; rfl
theorem handO_ts {x : LWr} {c : Int} {o : TxO} {nm : Str} {s : AS} : (handO (lets x.ns nm) o (x.wr c) nm s.ts s.fl).1 = (if lets x.ns nm = true then s.wrt o x.sn nm else s).ts ∧ (handO (lets x.ns nm) o (x.wr c) nm s.ts s.fl).2 = (if lets x.ns nm = true then s.wrt o x.sn nm else s).fl ∧ (if lets x.ns nm = true then s.wrt o x.sn nm else s).hs = s.hs ∧ (if lets x.ns nm = true then s.wrt o x.sn nm else s).wt = s.wt := by
  cases lets x.ns nm <;> exact ⟨rfl, rfl, rfl, rfl⟩
section
variable {C : Cfg} {ad : Ro → Addr} {n i : Nat} {U L : AS} {G H : Hp} {md : Md} {x : LWr}
theorem Wd.obM (w : Wd K C ad n U L G H) (hi : i < C.n) (e : C.kd i = .mem md) : H (ad (.h i)) = some (.ins (CM K) (C.dh i) (hdM (C.fi i) C.y (md.clo (U.hs i).lv) (tgR ad (U.hs i).tg) (ad (.mk i)))) := by
  have h := w.ob i hi
  unfold pOb at h
  rw [e] at h
  exact h
theorem Wd.obW (w : Wd K C ad n U L G H) (hi : i < C.n) (e : C.kd i = .wr x) : H (ad (.h i)) = some (.ins (CS K) (C.dh i) (hdS (C.fi i) C.y (U.hs i).lv (C.fv i) "\n" x.sn false)) := by
  have h := w.ob i hi
  unfold pOb at h
  rw [e] at h
  exact h
theorem pOb_mem {h : Hs} (e : C.kd i = .mem md) : pOb K C ad h i = .ins (CM K) (C.dh i) (hdM (C.fi i) C.y (md.clo h.lv) (tgR ad h.tg) (ad (.mk i))) := by
  unfold pOb; rw [e]
theorem pOb_wr {h : Hs} (e : C.kd i = .wr x) : pOb K C ad h i = .ins (CS K) (C.dh i) (hdS (C.fi i) C.y h.lv (C.fv i) "\n" x.sn false) := by
  unfold pOb; rw [e]
theorem Wd.keM (w : Wd K C ad n U L G H) (hi : i < C.n) (e : C.kd i = .mem md) : H (ad (.mk i)) = some (.lst (kR (U.hs i).ks)) := w.ke i hi (by rw [e]; trivial)
/-- what a writer of the world does -/
theorem SOk.fits {A : Kp → Prop} {a b : Str} {s : AS} (h : SOk A a b s) (hw : s.w ≤ 80) {o : TxO} {wr : Wr} (ho : ∀ t, o = .tx t → t.length ≤ 1000) (ht : wr.tm.length ≤ 100) : Fits o wr s.ts ∧ s.fl.length ≤ 1000000 := ⟨fits_cap h.cp (by omega) ho ht, by have := h.fl; omega⟩
end
def spHandleMB (b : Nat) (K : PySem.W.Frag) : Sp := fun vs H Q _ => ∃ (C : Cfg) (ad : Ro → Addr) (n i : Nat) (U L : AS) (G : Hp) (md : Md) (k : Kp), vs = [.ref (ad (.h i)), .ref k.r] ∧ Wd K C ad n U L G H ∧ i < C.n ∧ i < b ∧ C.kd i = .mem md ∧ DOk sa sb C.kd C.n ∧ SO K G U ∧ KpAt K G k ∧ U.tt (i + 1) + 1 ≤ 80 ∧
  ∀ (H' : Hp) (ad' : Ro → Addr), Wd K C ad' n (hA C.kd b i k U) L G H' → AdP i ad ad' → Q (.bl (lets md.ns k.d.name)) H'
def spFlushB (b : Nat) (K : PySem.W.Frag) : Sp := fun vs H Q _ => ∃ (C : Cfg) (ad : Ro → Addr) (n i : Nat) (U L : AS) (G : Hp) (md : Md), vs = [.ref (ad (.h i))] ∧ Wd K C ad n U L G H ∧ i < C.n ∧ i < b + 1 ∧ C.kd i = .mem md ∧ DOk sa sb C.kd C.n ∧ SO K G U ∧ U.tt (i + 1) ≤ 80 ∧
  ∀ (H' : Hp) (ad' : Ro → Addr), Wd K C ad' n (flA (hA C.kd b) i U) L G H' → AdP i ad ad' → Q .non H'
def spEmitB (b : Nat) (K : PySem.W.Frag) : Sp := fun vs H Q _ => ∃ (C : Cfg) (ad : Ro → Addr) (n i : Nat) (U L : AS) (G : Hp) (md : Md) (k : Kp), vs = [.ref (ad (.h i)), .ref k.r] ∧ Wd K C ad n U L G H ∧ i < C.n ∧ i < b + 1 ∧ C.kd i = .mem md ∧ DOk sa sb C.kd C.n ∧ SO K G U ∧ KpAt K G k ∧ U.tt (i + 1) + 1 ≤ 80 ∧
  ∀ (H' : Hp) (ad' : Ro → Addr), Wd K C ad' n (puA (hA C.kd b) md i k U) L G H' → AdP i ad ad' → Q .non H'
structure PFi (K : PySem.W.Frag) (C : Cfg) (ad : Ro → Addr) (n : Nat) (U L : AS) (G : Hp) (b i j t : Nat) (σ : L2.St) (H' : Hp) : Prop where
  w : ∃ ad', Wd K C ad' n (((U.hs i).ks.take t).foldl (fun s k => hA C.kd b j k s) U) L G H' ∧ AdP j ad ad'
  σ : ∃ a, σ = [some (.ref (ad (.h i))), a]
theorem fold_snoc {f : Kp → AS → AS} {ks : List Kp} {k : Kp} {s : AS} : (ks ++ [k]).foldl (fun s k => f k s) s = f k (ks.foldl (fun s k => f k s) s) := by rw [List.foldl_append]; rfl
theorem ok_flushB (b : Nat) {f : Addr} (T : Txt P w K mg) (F : Stands K "flush" "MemoryHandler.flush" s_MemoryHandler_flush [] f) (c_StreamHandler_handle : Callable P w K mg base 12 (He.ma K (He.ga K "StreamHandler") "handle") ["self", "record"] [] (spHandleS K)) {S1 : Sp} (e1 : S1 = spHandleMB b K)
    (c_MemoryHandler_handle : Callable P w K mg base (3 * b + 12) (He.ma K (He.ga K "MemoryHandler") "handle") ["self", "record"] [] S1) : Callable P w K mg base (3 * b + 13) f ["self"] [] (spFlushB b K) := by
  refine F.call0 sc_MemoryHandler_flush (fun vs H Q E h => ?_) (fun cdv A outer s0 H vs Q E hr h => ?_) (fun _ _ _ _ _ _ us hl => match us, hl with | [_], _ => rfl)
  · obtain ⟨C, ad, n, i, U, L, G, md, rfl, _⟩ := h; rfl
  obtain ⟨C, ad, n, i, U, L, G, md, rfl, w0, hi, hib, ek, hD, hU, ht, hQ⟩ := h
  refine ⟨_, (pss_cons (ps_if (pt_cmpR op_isN (pe_fld (pv 0) rfl) pe_non (nomark _)) (pss_one ps_retN) pss_nil)
      (pss_cons (ps_for PassesOwn.never rfl (pi_list (pe_fld (pv 0) rfl)) (pg_name (i := 1) sc_MemoryHandler_flush.nd rfl (by first | exact Or.inl rfl | exact Or.inr rfl)) (pss_one (ps_expr (RA.PE.or (pe_mt T.c_StreamHandler T.m_StreamHandler_handle c_StreamHandler_handle (hr.mono (by first | decide | exact Nat.le_refl _ | omega)) (pe_fld (pv 0) rfl) (pa_cons (pv 1) pa_nil)) (pe_mt T.c_MemoryHandler T.m_MemoryHandler_handle c_MemoryHandler_handle (hr.mono (by first | decide | exact Nat.le_refl _ | omega)) (pe_fld (pv 0) rfl) (pa_cons (pv 1) pa_nil))))))
      (pss_one (ps_fld (pv 0) (pe_lst pa_nil) rfl)))), ?_⟩
  walk_at "in"
  have hh := w0.obM hi ek
  have hmk := w0.keM hi ek
  unfold flA at hQ
  cases et : (U.hs i).tg with
  | none =>
    rw [et] at hQ hh
    have tn : decide (tgR ad none = V.non) = true := rfl
    walk_at "go"
    exact hQ H ad w0 AdP.refl
  | some j =>
    rw [et] at hQ hh
    have tn : decide (tgR ad (some j) = V.non) = false := rfl
    walk_at "go"
    have hj : j < i := hU.lo i j et
    have hjn : j < C.n := Nat.lt_trans hj hi
    have hjb : j < b := by omega
    have hL1 : ∀ k, KpAt K G k → LRc k.d := fun k h => h.2.2
    have ti := tt_succ U i
    have Ft : ∀ t, Stp (KpAt K G) sa sb j ((U.hs i).ks.take t).length U (((U.hs i).ks.take t).foldl (fun s k => hA C.kd b j k s) U) := fun t => fold_ok (fun k s hk hs => hA_ok hD hL1 b j k s hjn hk hs) _ U (fun k hk => hU.kk i k (List.mem_of_mem_take hk)) hU
    have at1 : ∀ {t : Nat} {H' : Hp} {ad' : Ro → Addr}, Wd K C ad' n (((U.hs i).ks.take t).foldl (fun s k => hA C.kd b j k s) U) L G H' → AdP j ad ad' → H' (ad (.h i)) = some (.ins (CM K) (C.dh i) (hdM (C.fi i) C.y (md.clo (U.hs i).lv) (tgR ad (some j)) (ad (.mk i)))) ∧ H' (ad (.mk i)) = some (.lst (kR (U.hs i).ks)) := fun {t H' ad'} w1 a1 => by
      have h1 := w1.obM hi ek
      have h2 := w1.keM hi ek
      have hb := (Ft t).be.up i hj
      rw [hb, a1.h i, a1.mk hj, et] at h1
      rw [hb, a1.mk hj] at h2
      refine ⟨?_, h2⟩
      rw [h1]
      show some (HO.ins _ _ (hdM _ _ _ (.ref (ad' (.h j))) _)) = _
      rw [a1.h j]; rfl
    refine for_it (walk_list (xs := kR (U.hs i).ks)) (PFi K C ad n U L G b i j) ⟨⟨ad, w0, AdP.refl⟩, _, rfl⟩ (fun t σ H' _ hp => ?_) (fun t x σ H0 H1 ht1 hP hy => ?_) (fun σ H1 hP => ?_)
    · obtain ⟨ad', w1, a1⟩ := hp.w
      exact SqL.of (at1 w1 a1).2
    · obtain ⟨rfl, hy⟩ := hy
      obtain ⟨⟨ad', w1, a1⟩, a, rfl⟩ := hP
      obtain ⟨hh1, hmk1⟩ := at1 w1 a1
      unfold kR at hy
      rw [List.getElem?_map] at hy
      obtain ⟨k, hk, rfl⟩ := Option.map_eq_some_iff.mp hy
      have hkm := List.mem_of_getElem? hk
      have hkA := hU.kk i k hkm
      have F1 := Ft t
      have lt1 : ((U.hs i).ks.take t).length = t := by
        rw [List.length_take]
        exact Nat.min_eq_left (Nat.le_of_lt (List.getElem?_eq_some_iff.mp hk).1)
      have lt2 : t < (U.hs i).ks.length := (List.getElem?_eq_some_iff.mp hk).1
      have tt1 : (((U.hs i).ks.take t).foldl (fun s k => hA C.kd b j k s) U).tt i + 1 ≤ 80 := by
        have := F1.tt i hj
        omega
      have tt2 : (((U.hs i).ks.take t).foldl (fun s k => hA C.kd b j k s) U).tt (j + 1) + 1 ≤ 80 := by
        have := tt_le (s := ((U.hs i).ks.take t).foldl (fun s k => hA C.kd b j k s) U) (show j + 1 ≤ i from hj)
        omega
      have next : ∀ (H2 : Hp) (a2 : Option V) (ad2 : Ro → Addr), Wd K C ad2 n (hA C.kd b j k (((U.hs i).ks.take t).foldl (fun s k => hA C.kd b j k s) U)) L G H2 → AdP j ad' ad2 → PFi K C ad n U L G b i j (t + 1) [some (.ref (ad (.h i))), a2] H2 := fun H2 a2 ad2 w2 a2' => ⟨⟨ad2, by rw [take_more hk, fold_snoc (f := fun k s => hA C.kd b j k s)]; exact w2, a1.trans a2' (Nat.le_refl _)⟩, a2, rfl⟩
      have hU1 := F1.ok
      generalize ((U.hs i).ks.take t).foldl (fun s k => hA C.kd b j k s) U = U1 at w1 tt1 tt2 next hU1
      clear F1
      have hR1 : RcAt K H1 k.r k.d := RecAt.same hkA.1 w1.pl.sm
      cases ej : C.kd j with
      | wr x =>
        have hW1 := w1.wrAt hjn ej
        rw [a1.h j] at hW1
        obtain ⟨dt, flt, fvt, ast, hht, _⟩ := hW1.at_
        have hok := hkA.2.2.ok
        have ho1 : HfO k.d (x.wr (U1.hs j).lv).fo (x.f.out k.d) := x.f.out_ok hkA.2.2
        obtain ⟨hfit, hfl1⟩ := hU1.fits (by have := w_le U1 i; omega) (x.f.out_len hkA.2.2) (wr := x.wr (U1.hs j).lv) (by show (Str.ofString "\n").length ≤ 100; decide +kernel)
        have hY1 := w1.ys
        refine Or.inl ?_
        walk_at "go"
        intro H2 c2 hY2
        walk_at "go"
        obtain ⟨q1, q2, q3, q4⟩ := handO_ts (x := x) (c := (U1.hs j).lv) (o := x.f.out k.d) (nm := k.d.name) (s := U1)
        refine next H2 _ ad' ?_ AdP.refl
        rw [hA_wr hjb ej]
        refine w1.wrP c2 ?_ q3 q4
        rw [← q1, ← q2]; exact hY2
      | mem md2 =>
        have ho := w1.obM hjn ej
        rw [a1.h j] at ho
        refine Or.inr ?_
        refine ⟨_, rfl, _, _, _, _, _, rfl, hh1, T.c_MemoryHandler, T.n_MemoryHandler_target, rfl, ?_⟩
        walk_at "go"
        rw [e1]
        refine ⟨C, ad', n, j, U1, L, G, md2, k, by rw [a1.h j]; rfl, w1, hjn, hjb, ej, hD, hU1, hkA, tt2, fun H2 ad2 w2 a2 => ?_⟩
        walk_at "go"
        exact next H2 _ ad2 w2 a2
    · obtain ⟨⟨ad', w1, a1⟩, a, rfl⟩ := hP
      rw [show (kR (U.hs i).ks).length = (U.hs i).ks.length from List.length_map _] at w1
      obtain ⟨hh1, hmk1⟩ := at1 w1 a1
      rw [List.take_length] at w1
      walk_at "go"
      intro p fp
      walk_at "go"
      have W2 := w1.neM hi (by rw [ek]; trivial) fp
      have hb := (Ft (U.hs i).ks.length).be.up i hj
      rw [List.take_length] at hb
      rw [pOb_mem ek, hb, a1.h i, et] at W2
      have eT : tgR (adU ad' (.mk i) p) (some j) = tgR ad (some j) := by
        show V.ref (adU ad' (.mk i) p (.h j)) = V.ref (ad (.h j))
        rw [adU_ne (ad := ad') (r0 := .mk i) (r := .h j) (p := p) (fun z => nomatch z), a1.h j]
      rw [eT, adU_at] at W2
      exact hQ _ _ W2 (a1.trans AdP.upd (Nat.le_of_lt hj))
end
end K17

set_option Elab.async false
set_option linter.all false
set_option maxRecDepth 100000
set_option maxHeartbeats 0

namespace K17
open PySem PySem.Spec PyProof.Rows L2 RC
section
variable {P : Program} {w : World} {K : PySem.W.Frag} {mg : Str → Option Value} {base : Heap}
/-! ### a record handled by a memory -/
theorem ok_emitB (b : Nat) {f : Addr} (T : Txt P w K mg) (F : Stands K "emit" "MemoryHandler.emit" s_MemoryHandler_emit [] f) (c_MemoryHandler_shouldFlush : Callable P w K mg base 1 (He.ma K (He.ga K "MemoryHandler") "shouldFlush") ["self", "record"] [] (spShould K))
    {S1 : Sp} (e1 : S1 = spFlushB b K) (c_MemoryHandler_flush : Callable P w K mg base (3 * b + 13) (He.ma K (He.ga K "MemoryHandler") "flush") ["self"] [] S1) : Callable P w K mg base (3 * b + 14) f ["self", "record"] [] (spEmitB b K) := by
  refine F.call0 sc_MemoryHandler_emit (fun vs H Q E h => ?_) (fun cdv A outer s0 H vs Q E hr h => ?_) (fun _ _ _ _ _ _ us hl => match us, hl with | [_, _], _ => rfl)
  · obtain ⟨C, ad, n, i, U, L, G, md, k, rfl, _⟩ := h; rfl
  obtain ⟨C, ad, n, i, U, L, G, md, k, rfl, w0, hi, hib, ek, hD, hU, hkA, ht, hQ⟩ := h
  refine ⟨_, (pss_cons (ps_expr (pe_bm PySem.F.plainAttrs_list PySem.F.slot_list_append PySem.F.type_list_append mt_append (pe_fld (pv 0) rfl) (pa_cons (pv 1) pa_nil)))
      (pss_one (ps_if (pt_val (pe_mt T.c_MemoryHandler T.m_MemoryHandler_shouldFlush c_MemoryHandler_shouldFlush (hr.mono (by first | decide | exact Nat.le_refl _ | omega)) (pv 0) (pa_cons (pv 1) pa_nil))) (pss_one (ps_expr (pe_mt0 T.c_MemoryHandler T.m_MemoryHandler_flush c_MemoryHandler_flush (hr.mono (by first | decide | exact Nat.le_refl _ | omega)) (pv 0)))) pss_nil))), ?_⟩
  walk_at "in"
  have hh := w0.obM hi ek
  have hmk := w0.keM hi ek
  have ti := tt_succ U i
  have hll : (kR (U.hs i).ks).length < sizeLine := by
    unfold kR
    rw [List.length_map, sizeLine_eq]; omega
  have ekr : kR (U.hs i).ks ++ [V.ref k.r] = kR ((U.hs i).ks ++ [k]) := by unfold kR; rw [List.map_append]; rfl
  refine seq_of (fun σ' H' => σ' = L2.start nm_MemoryHandler_emit [.ref (ad (.h i)), .ref k.r] ∧ H' = upd H (ad (.mk i)) (.lst (kR (U.hs i).ks ++ [V.ref k.r]))) (fun b' kb => ?_) (fun σ' H' hm => ?_)
  · walk_at "go"
    exact kb _ _ ⟨rfl, rfl⟩
  obtain ⟨rfl, rfl⟩ := hm
  rw [ekr]
  have w1 := w0.seM hi (by rw [ek]; trivial) ((U.hs i).ks ++ [k])
  generalize upd H (ad (.mk i)) (.lst (kR ((U.hs i).ks ++ [k]))) = H1 at w1 ⊢
  have hh1 := w1.obM hi ek
  have hmk1 := w1.keM hi ek
  have ks1 : ((U.kp i ((U.hs i).ks ++ [k])).hs i).ks = (U.hs i).ks ++ [k] := by rw [show (U.kp i ((U.hs i).ks ++ [k])).hs i = _ from set_same _]
  rw [ks1] at hmk1
  have hR1 : RcAt K H1 k.r k.d := RecAt.same hkA.1 w1.pl.sm
  have lk : (kR ((U.hs i).ks ++ [k])).length = ((U.hs i).ks ++ [k]).length := List.length_map _
  refine ⟨_, rfl, ad (.h i), C.dh i, _, rfl, hh1, rfl, _, rfl, ?_⟩
  refine ⟨ad (.h i), C.dh i, C.fi i, C.y, ad (.mk i), k.r, _, _, _, k.d, rfl, hh1, hmk1, hR1, ?_⟩
  rw [lk]
  have ed : memDue (md.clo ((U.kp i ((U.hs i).ks ++ [k])).hs i).lv) ((U.hs i).ks ++ [k]).length k.d.lv = memDue md ((U.hs i).ks ++ [k]).length k.d.lv := rfl
  rw [ed]
  unfold puA at hQ
  cases e : memDue md ((U.hs i).ks ++ [k]).length k.d.lv with
  | false =>
    rw [e] at hQ
    walk_at "go"
    exact hQ H1 ad w1 AdP.refl
  | true =>
    rw [e] at hQ
    refine ⟨_, rfl, iteT ?_⟩
    refine ⟨_, rfl, ad (.h i), C.dh i, _, rfl, hh1, rfl, ?_⟩
    rw [e1]
    have hks : ∀ e ∈ (U.hs i).ks ++ [k], KpAt K G e := fun e he => (List.mem_append.mp he).elim (hU.kk i e) fun z => by rw [List.mem_singleton.mp z]; exact hkA
    have hU1 : SO K G (U.kp i ((U.hs i).ks ++ [k])) := hU.kp hks
    have t1 := tt_kp (s := U) (i := i) (ks := (U.hs i).ks ++ [k]) (show i < i + 1 from Nat.lt_succ_self i)
    rw [List.length_append, List.length_singleton] at t1
    refine ⟨C, ad, n, i, _, L, G, md, rfl, w1, hi, hib, ek, hD, hU1, by omega, fun H2 ad2 w2 a2 => ?_⟩
    exact hQ H2 ad2 w2 a2
theorem ok_handleMB (b : Nat) {f : Addr} (T : Txt P w K mg) (F : Stands K "handle" "Handler.handle" s_Handler_handle [] f) (c_MemoryHandler_filtered : Callable P w K mg base 4 (He.ma K (He.ga K "MemoryHandler") "filtered") ["self", "record"] [] (spFiltered K))
    {S1 : Sp} (e1 : S1 = spEmitB b K) (c_MemoryHandler_emit : Callable P w K mg base (3 * b + 14) (He.ma K (He.ga K "MemoryHandler") "emit") ["self", "record"] [] S1) : Callable P w K mg base (3 * b + 15) f ["self", "record"] [] (spHandleMB (b + 1) K) := by
  refine F.call0 sc_Handler_handle (fun vs H Q E h => ?_) (fun cdv A outer s0 H vs Q E hr h => ?_) (fun _ _ _ _ _ _ us hl => match us, hl with | [_, _], _ => rfl)
  · obtain ⟨C, ad, n, i, U, L, G, md, k, rfl, _⟩ := h; rfl
  obtain ⟨C, ad, n, i, U, L, G, md, k, rfl, w0, hi, hib, ek, hD, hU, hkA, ht, hQ⟩ := h
  have hh := w0.obM hi ek
  have hR1 : RcAt K H k.r k.d := RecAt.same hkA.1 w0.pl.sm
  obtain ⟨as, hfi, hal, ha1, hA⟩ := w0.flAt hi
  rw [ek] at hal hA
  refine ⟨_, (pss_cons (ps_set (i := 2) sc_Handler_handle.nd rfl (by first | exact Or.inl rfl | exact Or.inr rfl) (pe_mt T.c_MemoryHandler T.m_MemoryHandler_filtered c_MemoryHandler_filtered (hr.mono (by first | decide | exact Nat.le_refl _ | omega)) (pv 0) (pa_cons (pv 1) pa_nil)))
      (pss_cons (ps_if (pt_cmpR op_isN (pv 2) pe_non (nomark _)) (pss_one (ps_ret pe_bl)) pss_nil)
      (pss_cons (ps_expr (pe_mt T.c_MemoryHandler T.m_MemoryHandler_emit c_MemoryHandler_emit (hr.mono (by first | decide | exact Nat.le_refl _ | omega)) (pv 0) (pa_cons (pv 2) pa_nil)))
      (pss_one (ps_ret pe_bl))))), ?_⟩
  walk_at "in"
  refine ⟨_, rfl, ad (.h i), C.dh i, _, rfl, hh, rfl, _, rfl, ?_⟩
  refine ⟨ad (.h i), CM K, C.dh i, C.fi i, k.r, _, as, md.ns, k.d.name, rfl, ⟨hh, T.c_MemoryHandler, T.n_MemoryHandler_filters, rfl, hfi, ha1, by show 12 < 100; decide⟩, hal, hA, RecAt.name hR1, ?_⟩
  rw [hA_mem ek] at hQ
  cases e : lets md.ns k.d.name with
  | false =>
    rw [e] at hQ
    walk_at "go"
    exact hQ H ad w0 AdP.refl
  | true =>
    rw [e] at hQ
    refine ⟨_, rfl, rfl, _, rfl, iteF' (by rfl) ?_⟩
    refine ⟨_, rfl, ad (.h i), C.dh i, _, rfl, hh, rfl, _, rfl, ?_⟩
    rw [e1]
    refine ⟨C, ad, n, i, U, L, G, md, k, rfl, w0, hi, hib, ek, hD, hU, hkA, ht, fun H2 ad2 w2 a2 => ?_⟩
    exact hQ H2 ad2 w2 a2
theorem ok_handleM0 {f : Addr} (F : Stands K "handle" "Handler.handle" s_Handler_handle [] f) : Callable P w K mg base 12 f ["self", "record"] [] (spHandleMB 0 K) :=
  F.call0 sc_Handler_handle (fun vs H Q E h => by obtain ⟨C, ad, n, i, U, L, G, md, k, _, _, _, hib, _⟩ := h; exact absurd hib (Nat.not_lt_zero _)) (fun cdv A outer s H vs Q E hr h => by obtain ⟨C, ad, n, i, U, L, G, md, k, _, _, _, hib, _⟩ := h; exact absurd hib (Nat.not_lt_zero _)) (fun _ _ _ _ _ _ us hl => match us, hl with | [_, _], _ => rfl)
/-- memories at any depth -/
theorem ok_mems (T : Txt P w K mg) (Fh : Stands K "handle" "Handler.handle" s_Handler_handle [] (He.ma K (He.ga K "MemoryHandler") "handle")) (Ff : Stands K "flush" "MemoryHandler.flush" s_MemoryHandler_flush [] (He.ma K (He.ga K "MemoryHandler") "flush")) (Fe : Stands K "emit" "MemoryHandler.emit" s_MemoryHandler_emit [] (He.ma K (He.ga K "MemoryHandler") "emit"))
    (c_filt : Callable P w K mg base 4 (He.ma K (He.ga K "MemoryHandler") "filtered") ["self", "record"] [] (spFiltered K)) (c_should : Callable P w K mg base 1 (He.ma K (He.ga K "MemoryHandler") "shouldFlush") ["self", "record"] [] (spShould K)) (c_hS : Callable P w K mg base 12 (He.ma K (He.ga K "StreamHandler") "handle") ["self", "record"] [] (spHandleS K)) :
    ∀ b : Nat, Callable P w K mg base (3 * b + 12) (He.ma K (He.ga K "MemoryHandler") "handle") ["self", "record"] [] (spHandleMB b K) ∧ Callable P w K mg base (3 * b + 13) (He.ma K (He.ga K "MemoryHandler") "flush") ["self"] [] (spFlushB b K)
  | 0 => ⟨ok_handleM0 Fh, ok_flushB 0 T Ff c_hS rfl (ok_handleM0 Fh)⟩
  | b + 1 => by
    have h1 := (ok_mems T Fh Ff Fe c_filt c_should c_hS b).2
    have h2 : Callable P w K mg base (3 * (b + 1) + 12) (He.ma K (He.ga K "MemoryHandler") "handle") ["self", "record"] [] (spHandleMB (b + 1) K) := ok_handleMB b T Fh c_filt rfl (ok_emitB b T Fe c_should rfl h1)
    exact ⟨h2, ok_flushB (b + 1) T Ff c_hS rfl h2⟩
end
end K17

set_option Elab.async false
set_option linter.all false
set_option maxRecDepth 100000
set_option maxHeartbeats 0

namespace K17
open PySem PySem.Spec PyProof.Rows L2 RC
section
variable {P : Program} {w : World} {K : PySem.W.Frag} {mg : Str → Option Value} {base : Heap}
/-! ### memories one behind another: the law -/
section
variable {C : Cfg} {ad : Ro → Addr} {n i : Nat} {U L : AS} {G H : Hp} {md : Md} {x : LWr}
theorem Wd.qbM (w : Wd K C ad n U L G H) (hi : i < C.n) (e : C.kd i = .mem md) : H (ad (.q i)) = some (.dK (lmK (C.fl i) (tgI (L.hs i).tg) (ad (.lk i)) (md.clo (L.hs i).lv) (ad (.h i)))) := by
  have h := w.qb i hi
  unfold lOb at h
  rw [e] at h
  exact h
theorem Wd.qbW (w : Wd K C ad n U L G H) (hi : i < C.n) (e : C.kd i = .wr x) : H (ad (.q i)) = some (.dK (wrK (C.fl i) x.f x.sn (ad (.h i)) (L.hs i).lv false)) := by
  have h := w.qb i hi
  unfold lOb at h
  rw [e] at h
  exact h
theorem lOb_mem {h : Hs} (e : C.kd i = .mem md) : lOb C ad h i = .dK (lmK (C.fl i) (tgI h.tg) (ad (.lk i)) (md.clo h.lv) (ad (.h i))) := by
  unfold lOb; rw [e]
theorem lOb_wr {h : Hs} (e : C.kd i = .wr x) : lOb C ad h i = .dK (wrK (C.fl i) x.f x.sn (ad (.h i)) h.lv false) := by
  unfold lOb; rw [e]
theorem Wd.leM (w : Wd K C ad n U L G H) (hi : i < C.n) (e : C.kd i = .mem md) : H (ad (.lk i)) = some (.lst (kQ (L.hs i).ks)) := w.le i hi (by rw [e]; trivial)
theorem q_at (ad : Ro → Addr) {n i : Nat} (h : i < n) : atI ((qRs ad n).map V.ref) ((i : Nat) : Int) = some (.ref (ad (.q i))) := atI_nat (by unfold qRs; rw [List.getElem?_map, List.getElem?_map, List.getElem?_range h]; rfl)
theorem Wd.m1 (w : Wd K C ad n U L G H) : H C.m = some (.dK [(Sum.inr "handlers", .ref (ad .hl)), (Sum.inr "texts", .ref (ad .lt)), (Sum.inr "failures", .ref (ad .lf))]) := w.pl.sm _ _ w.mm
end
def spLFlB (b : Nat) (K : PySem.W.Frag) : Sp := fun vs H Q _ => ∃ (C : Cfg) (ad : Ro → Addr) (n i : Nat) (U L : AS) (G : Hp) (md : Md), vs = [.ref C.m, .int (i : Nat)] ∧ Wd K C ad n U L G H ∧ i < C.n ∧ i < b + 1 ∧ C.kd i = .mem md ∧ DOk sa sb C.kd C.n ∧ SO K G L ∧ L.tt (i + 1) ≤ 80 ∧
  ∀ (H' : Hp) (ad' : Ro → Addr), Wd K C ad' n U (flA (hA C.kd b) i L) G H' → AdL i ad ad' → Q .non H'
def spLHdB (b : Nat) (K : PySem.W.Frag) : Sp := fun vs H Q _ => ∃ (C : Cfg) (ad : Ro → Addr) (n i : Nat) (U L : AS) (G : Hp) (k : Kp), vs = [.ref C.m, .int (i : Nat), .ref k.q] ∧ Wd K C ad n U L G H ∧ i < C.n ∧ i < b ∧ DOk sa sb C.kd C.n ∧ SO K G L ∧ KpAt K G k ∧ L.tt (i + 1) + 1 ≤ 80 ∧
  ∀ (H' : Hp) (ad' : Ro → Addr), Wd K C ad' n U (hA C.kd b i k L) G H' → AdL i ad ad' → Q (.bl (lets (C.kd i).ns k.d.name)) H'
structure LFi (K : PySem.W.Frag) (C : Cfg) (ad : Ro → Addr) (n : Nat) (U L : AS) (G : Hp) (b i j t : Nat) (σ : L2.St) (H' : Hp) : Prop where
  w : ∃ ad', Wd K C ad' n U (((L.hs i).ks.take t).foldl (fun s k => hA C.kd b j k s) L) G H' ∧ AdL j ad ad'
  σ : ∃ a, σ = [some (.ref C.m), some (.int (i : Nat)), some (.ref (ad (.q i))), a]
theorem ok_lflB (b : Nat) {f : Addr} (T : Txt P w K mg) (F : Stands K "_law_flushed" "_law_flushed" s__law_flushed [] f) {S1 : Sp} (e1 : S1 = spLHdB b K) (c__law_handled : Callable P w K mg base (2 * b + 3) (He.ga K "_law_handled") ["_law_m", "_law_at", "_law_record_here"] [] S1) : Callable P w K mg base (2 * b + 4) f ["_law_m", "_law_at"] [] (spLFlB b K) := by
  refine F.call0 sc__law_flushed (fun vs H Q E h => ?_) (fun cdv A outer s H vs Q E hr h => ?_) (fun _ _ _ _ _ _ us hl => match us, hl with | [_, _], _ => rfl)
  · obtain ⟨C, ad, n, i, U, L, G, md, rfl, _⟩ := h; rfl
  obtain ⟨C, ad, n, i, U, L, G, md, rfl, w0, hi, hib, ek, hD, hU, ht, hQ⟩ := h
  refine ⟨_, (pss_cons (ps_set (i := 2) sc__law_flushed.nd rfl (by first | exact Or.inl rfl | exact Or.inr rfl) (pe_ix ix_list (pe_dget (hu_of hr) (pv 0) pe_str (fun _ _ => rfl)) (pv 1) (fun _ _ => rfl)))
      (pss_one (ps_if (pt_cmpR op_notN (pe_dget (hu_of hr) (pv 2) pe_str (fun _ _ => rfl)) pe_non (nomark _)) (pss_cons (ps_for PassesOwn.never rfl (pi_list (pe_dget (hu_of hr) (pv 2) pe_str (fun _ _ => rfl))) (pg_name (i := 3) sc__law_flushed.nd rfl (by first | exact Or.inl rfl | exact Or.inr rfl)) (pss_one (ps_expr (pe_fn T.g__law_handled c__law_handled (hr.mono (by first | decide | exact Nat.le_refl _ | omega)) (by rfl) (pa_cons (pv 0) (pa_cons (pe_dget (hu_of hr) (pv 2) pe_str (fun _ _ => rfl)) (pa_cons (pv 3) pa_nil)))))))
      (pss_one (ps_dput (hu_of hr) (pv 2) pe_str (pe_lst pa_nil) rfl))) pss_nil))), ?_⟩
  walk_at "in"
  have hat := q_at ad hi
  have hm := w0.m1
  have hhl := w0.hhl
  refine seq_of (fun σ' H' => σ' = [some (.ref C.m), some (.int (i : Nat)), some (.ref (ad (.q i))), none] ∧ H = H') (fun b' kb => ?_) (fun σ' H' hm => ?_)
  · walk_at "go"
    exact kb _ _ ⟨rfl, rfl⟩
  obtain ⟨rfl, rfl⟩ := hm
  have hq := w0.qbM hi ek
  have hk := w0.leM hi ek
  unfold flA at hQ
  cases et : (L.hs i).tg with
  | none =>
    rw [et] at hQ hq
    have tn : (!decide (tgI none = V.non)) = false := rfl
    walk_at "go"
    exact hQ H ad w0 AdL.refl
  | some j =>
    rw [et] at hQ hq
    have tn : (!decide (tgI (some j) = V.non)) = true := rfl
    walk_at "go"
    have hj : j < i := hU.lo i j et
    have hjn : j < C.n := Nat.lt_trans hj hi
    have hjb : j < b := by omega
    have hL1 : ∀ k, KpAt K G k → LRc k.d := fun k h => h.2.2
    have ti := tt_succ L i
    have Ft : ∀ t, Stp (KpAt K G) sa sb j ((L.hs i).ks.take t).length L (((L.hs i).ks.take t).foldl (fun s k => hA C.kd b j k s) L) := fun t => fold_ok (fun k s hk hs => hA_ok hD hL1 b j k s hjn hk hs) _ L (fun k hk => hU.kk i k (List.mem_of_mem_take hk)) hU
    have at1 : ∀ {t : Nat} {H' : Hp} {ad' : Ro → Addr}, Wd K C ad' n U (((L.hs i).ks.take t).foldl (fun s k => hA C.kd b j k s) L) G H' → AdL j ad ad' → H' (ad (.q i)) = some (.dK (lmK (C.fl i) (tgI (some j)) (ad (.lk i)) (md.clo (L.hs i).lv) (ad (.h i)))) ∧ H' (ad (.lk i)) = some (.lst (kQ (L.hs i).ks)) := fun {t H' ad'} w1 a1 => by
      have h1 := w1.qbM hi ek
      have h2 := w1.leM hi ek
      have hb := (Ft t).be.up i hj
      rw [hb, a1.q i, a1.lk hj, a1.h i, et] at h1
      rw [hb, a1.lk hj] at h2
      exact ⟨h1, h2⟩
    refine for_it (walk_list (xs := kQ (L.hs i).ks)) (LFi K C ad n U L G b i j) ⟨⟨ad, w0, AdL.refl⟩, _, rfl⟩ (fun t σ H' _ hp => ?_) (fun t x σ H0 H1 ht1 hP hy => ?_) (fun σ H1 hP => ?_)
    · obtain ⟨ad', w1, a1⟩ := hp.w
      exact SqL.of (at1 w1 a1).2
    · obtain ⟨rfl, hy⟩ := hy
      obtain ⟨⟨ad', w1, a1⟩, a, rfl⟩ := hP
      obtain ⟨hq1, hk1⟩ := at1 w1 a1
      unfold kQ at hy
      rw [List.getElem?_map] at hy
      obtain ⟨k, hk0, rfl⟩ := Option.map_eq_some_iff.mp hy
      have hkm := List.mem_of_getElem? hk0
      have hkA := hU.kk i k hkm
      have F1 := Ft t
      have lt2 : t < (L.hs i).ks.length := (List.getElem?_eq_some_iff.mp hk0).1
      have lt1 : ((L.hs i).ks.take t).length = t := by
        rw [List.length_take]
        exact Nat.min_eq_left (Nat.le_of_lt lt2)
      have tt1 : (((L.hs i).ks.take t).foldl (fun s k => hA C.kd b j k s) L).tt i + 1 ≤ 80 := by
        have := F1.tt i hj
        omega
      have tt2 : (((L.hs i).ks.take t).foldl (fun s k => hA C.kd b j k s) L).tt (j + 1) + 1 ≤ 80 := by
        have := tt_le (s := ((L.hs i).ks.take t).foldl (fun s k => hA C.kd b j k s) L) (show j + 1 ≤ i from hj)
        omega
      have next : ∀ (H2 : Hp) (a2 : Option V) (ad2 : Ro → Addr), Wd K C ad2 n U (hA C.kd b j k (((L.hs i).ks.take t).foldl (fun s k => hA C.kd b j k s) L)) G H2 → AdL j ad' ad2 → LFi K C ad n U L G b i j (t + 1) [some (.ref C.m), some (.int (i : Nat)), some (.ref (ad (.q i))), a2] H2 := fun H2 a2 ad2 w2 a2' => ⟨⟨ad2, by rw [take_more hk0, fold_snoc (f := fun k s => hA C.kd b j k s)]; exact w2, a1.trans a2' (Nat.le_refl _)⟩, a2, rfl⟩
      have hU1 := F1.ok
      generalize ((L.hs i).ks.take t).foldl (fun s k => hA C.kd b j k s) L = U1 at w1 tt1 tt2 next hU1
      clear F1
      refine ⟨_, rfl, ?_⟩
      walk_at "go"
      rw [e1]
      refine ⟨C, ad', n, j, U, U1, G, k, rfl, w1, hjn, hjb, hD, hU1, hkA, tt2, fun H2 ad2 w2 a2 => ?_⟩
      exact next H2 _ ad2 w2 a2
    · obtain ⟨⟨ad', w1, a1⟩, a, rfl⟩ := hP
      rw [show (kQ (L.hs i).ks).length = (L.hs i).ks.length from List.length_map _] at w1
      obtain ⟨hq1, hk1⟩ := at1 w1 a1
      rw [List.take_length] at w1
      walk_at "go"
      intro p fp
      walk_at "go"
      have W2 := w1.neL hi (by rw [ek]; trivial) fp
      have hb := (Ft (L.hs i).ks.length).be.up i hj
      rw [List.take_length] at hb
      rw [lOb_mem ek, hb, a1.q i, et, adU_at, adU_ne (ad := ad') (r0 := .lk i) (r := .h i) (p := p) (fun z => nomatch z), a1.h i] at W2
      exact hQ _ _ W2 (a1.trans AdL.upd (Nat.le_of_lt hj))
theorem ok_lhdB (b : Nat) {f : Addr} (T : Txt P w K mg) (F : Stands K "_law_handled" "_law_handled" s__law_handled [] f) (c__law_let_by : Callable P w K mg base 1 (He.ga K "_law_let_by") ["_law_names", "_law_name"] [] spLetByL) (c__law_written : Callable P w K mg base 2 (He.ga K "_law_written") ["_law_m", "_law_one", "_law_record_here"] [] (spWritten2 K))
    {S1 : Sp} (e1 : S1 = spLFlB b K) (c__law_flushed : Callable P w K mg base (2 * b + 4) (He.ga K "_law_flushed") ["_law_m", "_law_at"] [] S1) : Callable P w K mg base (2 * b + 5) f ["_law_m", "_law_at", "_law_record_here"] [] (spLHdB (b + 1) K) := by
  refine F.call0 sc__law_handled (fun vs H Q E h => ?_) (fun cdv A outer s H vs Q E hr h => ?_) (fun _ _ _ _ _ _ us hl => match us, hl with | [_, _, _], _ => rfl)
  · obtain ⟨C, ad, n, i, U, L, G, k, rfl, _⟩ := h; rfl
  obtain ⟨C, ad, n, i, U, L, G, k, rfl, w0, hi, hib, hD, hU, hkA, ht, hQ⟩ := h
  refine ⟨_, (pss_cons (ps_set (i := 3) sc__law_handled.nd rfl (by first | exact Or.inl rfl | exact Or.inr rfl) (pe_ix ix_list (pe_dget (hu_of hr) (pv 0) pe_str (fun _ _ => rfl)) (pv 1) (fun _ _ => rfl)))
      (pss_cons (ps_if (pt_not (pt_val (pe_fn T.g__law_let_by c__law_let_by (hr.mono (by first | decide | exact Nat.le_refl _ | omega)) (by rfl) (pa_cons (pe_dget (hu_of hr) (pv 3) pe_str (fun _ _ => rfl)) (pa_cons (pe_dget (hu_of hr) (pv 2) pe_str (fun _ _ => rfl)) pa_nil))))) (pss_one (ps_ret pe_bl)) pss_nil)
      (pss_cons (ps_if (pt_cmpR op_eq (pe_dget (hu_of hr) (pv 3) pe_str (fun _ _ => rfl)) pe_str (nomark _)) (pss_one (ps_expr pe_never)) pss_nil)
      (pss_cons (ps_if (PW.pt (pw_or (pt_cmpR op_eq (pe_dget (hu_of hr) (pv 3) pe_str (fun _ _ => rfl)) pe_str (nomark _)) (pw_or1 (PW.pt (pw_and (pt_cmpR op_eq (pe_dget (hu_of hr) (pv 3) pe_str (fun _ _ => rfl)) pe_str (nomark _)) (pw_and1 (pt_val (pe_dget (hu_of hr) (pv 3) pe_str (fun _ _ => rfl))))))))) (pss_one (ps_expr (pe_fn T.g__law_written c__law_written (hr.mono (by first | decide | exact Nat.le_refl _ | omega)) (by rfl) (pa_cons (pv 0) (pa_cons (pv 3) (pa_cons (pv 2) pa_nil)))))) pss_nil)
      (pss_cons (ps_if (pt_cmpR op_eq (pe_dget (hu_of hr) (pv 3) pe_str (fun _ _ => rfl)) pe_str (nomark _)) (pss_cons (ps_expr (pe_bm PySem.F.plainAttrs_list PySem.F.slot_list_append PySem.F.type_list_append mt_append (pe_dget (hu_of hr) (pv 3) pe_str (fun _ _ => rfl)) (pa_cons (pv 2) pa_nil)))
      (pss_one (ps_if (PW.pt (pw_or (pt_cmpR op_ge (pe_callB call_len (by rfl) T.b_len (by decide +kernel) (pa_cons (pe_dget (hu_of hr) (pv 3) pe_str (fun _ _ => rfl)) pa_nil)) (pe_dget (hu_of hr) (pv 3) pe_str (fun _ _ => rfl)) (nomark _)) (pw_or1 (pt_cmpR op_ge (pe_dget (hu_of hr) (pv 2) pe_str (fun _ _ => rfl)) (pe_dget (hu_of hr) (pv 3) pe_str (fun _ _ => rfl)) (nomark _))))) (pss_one (ps_expr (pe_fn T.g__law_flushed c__law_flushed (hr.mono (by first | decide | exact Nat.le_refl _ | omega)) (by rfl) (pa_cons (pv 0) (pa_cons (pv 1) pa_nil))))) pss_nil))) pss_nil)
      (pss_one (ps_ret pe_bl))))))), ?_⟩
  walk_at "in"
  have hat := q_at ad hi
  have hm := w0.m1
  have hhl := w0.hhl
  have hkq0 := w0.pl.sm _ _ hkA.2.1
  obtain ⟨hfl, _, hx1, hx2, _⟩ := w0.st i hi
  have hfl0 := w0.pl.sm _ _ hfl
  refine seq_of (fun σ' H' => σ' = [some (.ref C.m), some (.int (i : Nat)), some (.ref k.q), some (.ref (ad (.q i)))] ∧ H = H') (fun b' kb => ?_) (fun σ' H' hm => ?_)
  · walk_at "go"
    exact kb _ _ ⟨rfl, rfl⟩
  obtain ⟨rfl, rfl⟩ := hm
  cases ek : C.kd i with
  | wr x =>
    rw [ek] at hfl0 hx1 hx2 hQ
    rw [hA_wr hib ek] at hQ
    have hq := w0.qbW hi ek
    have hW : LwAt H (ad (.q i)) (ad (.h i)) x := ⟨C.fl i, _, hq, hfl0⟩
    cases el : lets x.ns k.d.name with
    | false =>
      have el2 : lets (Kd.wr x).ns k.d.name = false := el
      rw [el2, el] at hQ
      walk_at "go"
      intro H1 s1
      rw [el2]
      refine ⟨_, rfl, iteT ?_⟩
      walk_at "go"
      exact hQ H1 ad (w0.same s1) AdL.refl
    | true =>
      have el2 : lets (Kd.wr x).ns k.d.name = true := el
      rw [el2, el] at hQ
      walk_at "go"
      intro H1 s1
      rw [el2]
      refine ⟨_, rfl, iteF ?_⟩
      have w1 := w0.same s1
      have hS1 := w1.ls
      have hq1 := s1 _ _ hq
      have hr1 := s1 _ _ hkq0
      have hW1 := hW.same s1
      have hL := hkA.2.2
      have hc := hU.cp
      have hw := w_le L (i + 1)
      have hn : 2000 * L.w ≤ 900000 := by omega
      have hfs : L.fl.length ≤ 1000000 := by have := hU.fl; omega
      walk_at "go"
      intro H2 c2 hS2
      have w2 := w1.wrL (L' := L.wrt (x.f.out k.d) x.sn k.d.name) c2 hS2 rfl rfl
      have hq2 := w2.qbW hi ek
      walk_at "go"
      exact hQ H2 ad w2 AdL.refl
  | mem md =>
    rw [ek] at hfl0 hx1 hx2 hQ
    rw [hA_mem ek] at hQ
    have hq := w0.qbM hi ek
    cases el : lets md.ns k.d.name with
    | false =>
      have el2 : lets (Kd.mem md).ns k.d.name = false := el
      rw [el2, el] at hQ
      walk_at "go"
      intro H1 s1
      rw [el2]
      refine ⟨_, rfl, iteT ?_⟩
      walk_at "go"
      exact hQ H1 ad (w0.same s1) AdL.refl
    | true =>
      have el2 : lets (Kd.mem md).ns k.d.name = true := el
      rw [el2, el] at hQ
      walk_at "go"
      intro H1 s1
      rw [el2]
      refine ⟨_, rfl, iteF ?_⟩
      have w1 := w0.same s1
      have hq1 := w1.qbM hi ek
      have hk1 := w1.leM hi ek
      have hkq1 := s1 _ _ hkq0
      have ti := tt_succ L i
      have hll : (kQ (L.hs i).ks).length < sizeLine := by
        unfold kQ
        rw [List.length_map, sizeLine_eq]; omega
      have ekq : kQ (L.hs i).ks ++ [V.ref k.q] = kQ ((L.hs i).ks ++ [k]) := by unfold kQ; rw [List.map_append]; rfl
      refine seq_of (fun σ' H' => σ' = [some (.ref C.m), some (.int (i : Nat)), some (.ref k.q), some (.ref (ad (.q i)))] ∧ H1 = H') (fun b' kb => ?_) (fun σ' H' hm => ?_)
      · walk_at "go"
        exact kb _ _ ⟨rfl, rfl⟩
      obtain ⟨rfl, rfl⟩ := hm
      refine seq_of (fun σ' H' => σ' = [some (.ref C.m), some (.int (i : Nat)), some (.ref k.q), some (.ref (ad (.q i)))] ∧ H1 = H') (fun b' kb => ?_) (fun σ' H' hm => ?_)
      · walk_at "go"
        exact kb _ _ ⟨rfl, rfl⟩
      obtain ⟨rfl, rfl⟩ := hm
      refine seq_of (fun σ' H' => σ' = [some (.ref C.m), some (.int (i : Nat)), some (.ref k.q), some (.ref (ad (.q i)))] ∧ H1 = H') (fun b' kb => ?_) (fun σ' H' hm => ?_)
      · walk_at "go"
        exact kb _ _ ⟨rfl, rfl⟩
      obtain ⟨rfl, rfl⟩ := hm
      refine seq_of (fun σ' H' => σ' = [some (.ref C.m), some (.int (i : Nat)), some (.ref k.q), some (.ref (ad (.q i)))] ∧ ∃ ad', Wd K C ad' n U (puA (hA C.kd b) md i k L) G H' ∧ AdL i ad ad') (fun b' kb => ?_) (fun σ' H' hm => ?_)
      rotate_left
      · obtain ⟨rfl, ad2, w2, a2⟩ := hm
        walk_at "go"
        exact hQ H' ad2 w2 a2
      have w2 := w1.seL hi (by rw [ek]; trivial) ((L.hs i).ks ++ [k])
      rw [← ekq] at w2
      have hq2 := w2.qbM hi ek
      have kp1 := Bel.kp (i := i) (s := L) ((L.hs i).ks ++ [k])
      rw [kp1.tg i, kp1.lv i] at hq2
      have el3 : (kQ (L.hs i).ks ++ [V.ref k.q]).length = ((L.hs i).ks ++ [k]).length := by unfold kQ; rw [List.length_append, List.length_append, List.length_map]; rfl
      have due : memDue md ((L.hs i).ks ++ [k]).length k.d.lv = (decide ((md.clo (L.hs i).lv).cap ≤ ((kQ (L.hs i).ks ++ [V.ref k.q]).length : Nat)) || decide ((md.clo (L.hs i).lv).least ≤ k.d.lv)) := by rw [el3]; rfl
      have hks : ∀ e ∈ (L.hs i).ks ++ [k], KpAt K G e := fun e he => (List.mem_append.mp he).elim (hU.kk i e) fun z => by rw [List.mem_singleton.mp z]; exact hkA
      have hU1 : SO K G (L.kp i ((L.hs i).ks ++ [k])) := hU.kp hks
      have t1 := tt_kp (s := L) (i := i) (ks := (L.hs i).ks ++ [k]) (show i < i + 1 from Nat.lt_succ_self i)
      rw [List.length_append, List.length_singleton] at t1
      unfold puA at kb
      cases z1 : decide ((md.clo (L.hs i).lv).cap ≤ ((kQ (L.hs i).ks ++ [V.ref k.q]).length : Nat)) with
      | true =>
        rw [z1, Bool.true_or] at due
        rw [if_pos due] at kb
        walk_at "go"
        rw [e1]
        refine ⟨C, ad, n, i, U, _, G, md, rfl, w2, hi, hib, ek, hD, hU1, by omega, fun H2 ad2 w3 a3 => ?_⟩
        exact kb _ _ ⟨rfl, ad2, w3, a3⟩
      | false =>
        cases z2 : decide ((md.clo (L.hs i).lv).least ≤ k.d.lv) with
        | true =>
          rw [z1, z2] at due
          have due2 : memDue md ((L.hs i).ks ++ [k]).length k.d.lv = true := due
          rw [if_pos due2] at kb
          walk_at "go"
          rw [e1]
          refine ⟨C, ad, n, i, U, _, G, md, rfl, w2, hi, hib, ek, hD, hU1, by omega, fun H2 ad2 w3 a3 => ?_⟩
          exact kb _ _ ⟨rfl, ad2, w3, a3⟩
        | false =>
          rw [z1, z2] at due
          rw [if_neg (by rw [due]; decide)] at kb
          walk_at "go"
          exact kb _ _ ⟨rfl, ad, w2, AdL.refl⟩
theorem ok_lhd0 {f : Addr} (F : Stands K "_law_handled" "_law_handled" s__law_handled [] f) : Callable P w K mg base 3 f ["_law_m", "_law_at", "_law_record_here"] [] (spLHdB 0 K) :=
  F.call0 sc__law_handled (fun vs H Q E h => by obtain ⟨C, ad, n, i, U, L, G, k, _, _, _, hib, _⟩ := h; exact absurd hib (Nat.not_lt_zero _)) (fun cdv A outer s H vs Q E hr h => by obtain ⟨C, ad, n, i, U, L, G, k, _, _, _, hib, _⟩ := h; exact absurd hib (Nat.not_lt_zero _)) (fun _ _ _ _ _ _ us hl => match us, hl with | [_, _, _], _ => rfl)
theorem ok_laws (T : Txt P w K mg) (Fh : Stands K "_law_handled" "_law_handled" s__law_handled [] (He.ga K "_law_handled")) (Ff : Stands K "_law_flushed" "_law_flushed" s__law_flushed [] (He.ga K "_law_flushed")) (c_let : Callable P w K mg base 1 (He.ga K "_law_let_by") ["_law_names", "_law_name"] [] spLetByL) (c_wri : Callable P w K mg base 2 (He.ga K "_law_written") ["_law_m", "_law_one", "_law_record_here"] [] (spWritten2 K)) :
    ∀ b : Nat, Callable P w K mg base (2 * b + 3) (He.ga K "_law_handled") ["_law_m", "_law_at", "_law_record_here"] [] (spLHdB b K) ∧ Callable P w K mg base (2 * b + 4) (He.ga K "_law_flushed") ["_law_m", "_law_at"] [] (spLFlB b K)
  | 0 => ⟨ok_lhd0 Fh, ok_lflB 0 T Ff rfl (ok_lhd0 Fh)⟩
  | b + 1 => by
    have h1 := (ok_laws T Fh Ff c_let c_wri b).2
    have h2 : Callable P w K mg base (2 * (b + 1) + 3) (He.ga K "_law_handled") ["_law_m", "_law_at", "_law_record_here"] [] (spLHdB (b + 1) K) := ok_lhdB b T Fh c_let c_wri rfl h1
    exact ⟨h2, ok_lflB (b + 1) T Ff rfl h2⟩
end
end K17

set_option Elab.async false
set_option linter.all false
set_option maxRecDepth 100000
set_option maxHeartbeats 0

namespace K17
open PySem PySem.Spec PyProof.Rows L2 RC
section
variable {P : Program} {w : World} {K : PySem.W.Frag} {mg : Str → Option Value} {base : Heap}
/-! ### all stands as the law has it -/
theorem liveS_all {ts : List (Str × Str)} (h : ∀ e ∈ ts, e.2 ≠ "") : liveS ts = ts.map (·.1) := by
  unfold liveS
  rw [List.filter_eq_self.mpr fun e he => ?_]
  simpa using h e he
theorem strK_key (ts : List (Str × Str)) : (strK ts).map (·.1) = (ts.map (·.1)).map (Sum.inr : Str → Key) := by unfold strK; rw [List.map_map, List.map_map]; rfl
theorem frAt_same {H : Hp} {a b : Addr} {fs : List (Str × Str)} (ha : FrAt H a fs) (hb : FrAt H b fs) (hl : fs.length ≤ 1000000) : SameD H 3 (.ref a) (.ref b) := by
  obtain ⟨ps, h1, h2⟩ := ha
  obtain ⟨qs, h3, h4⟩ := hb
  refine .lst h1 h3 (by rw [List.length_map, List.length_map, h2.len, h4.len]) (by rw [List.length_map, h2.len]; omega) fun i x y hx hy => ?_
  rw [List.getElem?_map] at hx hy
  obtain ⟨p, hp, rfl⟩ := Option.map_eq_some_iff.mp hx
  obtain ⟨q, hq, rfl⟩ := Option.map_eq_some_iff.mp hy
  obtain ⟨f, f1, f2⟩ := h2.get i p hp
  obtain ⟨g, g1, g2⟩ := h4.get i q hq
  rw [f1] at g1; cases g1
  refine .tup f2 g2 rfl (by show 2 ≤ 1000000; decide) fun j u v hu hv => ?_
  rw [hu] at hv; cases hv
  match j, hu with
  | 0, hu => cases hu; exact .str _ _
  | 1, hu => cases hu; exact .str _ _
  | (_ + 2), hu => cases hu
structure SInv (H : Hp) (y m : Addr) (i : Nat) (σ : L2.St) (H' : Hp) : Prop where
  same : Same H H'
  σ : ∃ a b c d e, σ = [some (.ref y), some (.ref m), a, b, c, d, e]
structure SInv2 (H : Hp) (y m q : Addr) (i : Nat) (σ : L2.St) (H' : Hp) : Prop where
  same : Same H H'
  σ : ∃ a c d e, σ = [some (.ref y), some (.ref m), a, some (.ref q), c, d, e]
def spStandsB (K : PySem.W.Frag) : Sp := fun vs H Q _ => ∃ (C : Cfg) (ad : Ro → Addr) (n : Nat) (s : AS) (G : Hp), vs = [.ref C.y, .ref C.m] ∧ Wd K C ad n s s G H ∧ SO K G s ∧ s.tt C.n ≤ 80 ∧ C.n ≤ 1000 ∧ ∀ H', Same H H' → Q (.bl true) H'
theorem ok_standsB {f : Addr} (T : Txt P w K mg) (F : Stands K "_law_stands" "_law_stands" s__law_stands [] f) (c_Yard_streams : Callable P w K mg base 1 (He.ma K (He.ga K "Yard") "streams") ["self"] [] (spStreams K)) (c_Yard_failures : Callable P w K mg base 1 (He.ma K (He.ga K "Yard") "failures") ["self"] [] (spFailures K))
    (c_Yard_text : Callable P w K mg base 1 (He.ma K (He.ga K "Yard") "text") ["self", "stream"] [] (spText K)) (c__law_same : Callable P w K mg base 4 (He.ga K "_law_same") ["_law_found", "_law_due"] [] (spSame 3)) (c_MemoryHandler_buffer : Callable P w K mg base 1 (He.ma K (He.ga K "MemoryHandler") "buffer") ["self"] [] (spBuffer K)) : Callable P w K mg base 5 f ["_law_yard", "_law_m"] [] (spStandsB K) := by
  refine F.call0 sc__law_stands (fun vs H Q E h => ?_) (fun cdv A outer s H vs Q E hr h => ?_) (fun _ _ _ _ _ _ us hl => match us, hl with | [_, _], _ => rfl)
  · obtain ⟨C, ad, n, s, G, rfl, _⟩ := h; rfl
  obtain ⟨C, ad, n, s0, G, rfl, w0, hU, htt, hcn, hQ⟩ := h
  refine ⟨_, (pss_cons (ps_if (PW.pt (pw_or (pt_cmpR (RY.op_neV (Nat.lt_of_succ_lt (hu_of hr))) (pe_mt0 T.c_Yard T.m_Yard_streams c_Yard_streams (hr.mono (by first | decide | exact Nat.le_refl _ | omega)) (pv 0)) (pe_callB (call_sortedD rfl) (by rfl) T.b_sorted (by decide +kernel) (pa_cons (pe_dget (hu_of hr) (pv 1) pe_str (fun _ _ => rfl)) pa_nil)) (nomark _)) (pw_or1 (pt_not (pt_val (pe_fn T.g__law_same c__law_same (hr.mono (by first | decide | exact Nat.le_refl _ | omega)) (by rfl) (pa_cons (pe_mt0 T.c_Yard T.m_Yard_failures c_Yard_failures (hr.mono (by first | decide | exact Nat.le_refl _ | omega)) (pv 0)) (pa_cons (pe_dget (hu_of hr) (pv 1) pe_str (fun _ _ => rfl)) pa_nil)))))))) (pss_one (ps_ret pe_bl)) pss_nil)
      (pss_cons (ps_if (pt_cmpR (RY.op_neV (Nat.lt_of_succ_lt (hu_of hr))) (pe_lc (own := [("_law_name", 2)]) (by rfl) sc__law_stands.nd (pi_list (pe_callB (call_sortedD rfl) (by rfl) T.b_sorted (by decide +kernel) (pa_cons (pe_dget (hu_of hr) (pv 1) pe_str (fun _ _ => rfl)) pa_nil))) (blkOk_by (own := [("_law_name", 2)]) (N := nm__law_stands) (sc := defScope s__law_stands) (by decide +kernel)) (fun _ _ _ _ _ => (pg_name (i := 2) sc__law_stands.nd rfl (by first | exact Or.inl rfl | exact Or.inr rfl))) (fun _ _ _ _ _ => pts_nil) (fun _ _ _ _ _ => (pe_mt T.c_Yard T.m_Yard_text c_Yard_text (hr.mono (by first | decide | exact Nat.le_refl _ | omega)) (pv 0) (pa_cons (pv 2) pa_nil)))) (pe_lc (own := [("_law_name", 2)]) (by rfl) sc__law_stands.nd (pi_list (pe_callB (call_sortedD rfl) (by rfl) T.b_sorted (by decide +kernel) (pa_cons (pe_dget (hu_of hr) (pv 1) pe_str (fun _ _ => rfl)) pa_nil))) (blkOk_by (own := [("_law_name", 2)]) (N := nm__law_stands) (sc := defScope s__law_stands) (by decide +kernel)) (fun _ _ _ _ _ => (pg_name (i := 2) sc__law_stands.nd rfl (by first | exact Or.inl rfl | exact Or.inr rfl))) (fun _ _ _ _ _ => pts_nil) (fun _ _ _ _ _ => (pe_dget (hu_of hr) (pe_dget (hu_of hr) (pv 1) pe_str (fun _ _ => rfl)) (pv 2) (fun _ _ => rfl)))) (nomark _)) (pss_one (ps_ret pe_bl)) pss_nil)
      (pss_cons (ps_for PassesOwn.never rfl (pi_list (pe_dget (hu_of hr) (pv 1) pe_str (fun _ _ => rfl))) (pg_name (i := 3) sc__law_stands.nd rfl (by first | exact Or.inl rfl | exact Or.inr rfl)) (pss_one (ps_if (pt_cmpR op_eq (pe_dget (hu_of hr) (pv 3) pe_str (fun _ _ => rfl)) pe_str (nomark _)) (pss_one (ps_for PassesOwn.never rfl (pi_range1 (by rfl) T.b_range (pa_cons pe_int pa_nil)) (pg_name (i := 4) sc__law_stands.nd rfl (by first | exact Or.inl rfl | exact Or.inr rfl)) (pss_cons (ps_set (i := 5) sc__law_stands.nd rfl (by first | exact Or.inl rfl | exact Or.inr rfl) (pe_mt0 T.c_MemoryHandler T.m_MemoryHandler_buffer c_MemoryHandler_buffer (hr.mono (by first | decide | exact Nat.le_refl _ | omega)) (pe_dget (hu_of hr) (pv 3) pe_str (fun _ _ => rfl))))
      (pss_cons (ps_if (PW.pt (pw_or (pt_not (pt_val (pe_callB call_isi (by rfl) T.b_isinstance (by decide +kernel) (pa_cons (pv 5) (pa_cons (pe_bltn (v := .ty "list") (u := .type "list") (by rfl) T.b_list (by decide +kernel) rfl) pa_nil))))) (pw_or1 (pt_cmpR (RD.op_neRefs (Nat.lt_of_succ_lt (hu_of hr))) (pv 5) (pe_lc (own := [("_law_record_here", 6)]) (by rfl) sc__law_stands.nd (pi_list (pe_dget (hu_of hr) (pv 3) pe_str (fun _ _ => rfl))) (blkOk_by (own := [("_law_record_here", 6)]) (N := nm__law_stands) (sc := defScope s__law_stands) (by decide +kernel)) (fun _ _ _ _ _ => (pg_name (i := 6) sc__law_stands.nd rfl (by first | exact Or.inl rfl | exact Or.inr rfl))) (fun _ _ _ _ _ => pts_nil) (fun _ _ _ _ _ => (pe_dget (hu_of hr) (pv 6) pe_str (fun _ _ => rfl)))) (nomark _))))) (pss_one (ps_ret pe_bl)) pss_nil)
      (pss_one (ps_expr (pe_bm PySem.F.plainAttrs_list PySem.F.slot_list_append PySem.F.type_list_append mt_append (pv 5) (pa_cons pe_str pa_nil)))))))) pss_nil)))
      (pss_one (ps_ret pe_bl))))), ?_⟩
  walk_at "in"
  have nd := hU.ts.nd
  have l64 := hU.ts.l64
  have ne := hU.ts.ne
  have hkk := strK_key s0.ts
  have hkl : (s0.ts.map (·.1)).length < 64 := by rw [List.length_map]; exact l64
  have fl_ : s0.fl.length ≤ 1000000 := by have h1 := hU.fl; have h2 := w_le s0 C.n; omega
  have flat : ∀ ys : List Str, (ys.map V.str).all RY.flatW = true := fun ys => by rw [List.all_map]; exact List.all_eq_true.mpr fun _ _ => rfl
  refine seq_of (fun σ' H' => σ' = L2.start nm__law_stands [.ref C.y, .ref C.m] ∧ Same H H') (fun b' kb => ?_) (fun σ' H1 hm => ?_)
  · have hys := w0.ys
    have hls := w0.ls
    obtain ⟨⟨dy, fi2, na, nu, lm, md2, hn2, rt, lr, clk, hy⟩, hst, _⟩ := id hys
    obtain ⟨hm1, hlt1, _, hne⟩ := id hls
    walk_at "go"
    intro H1 p1 ys s1 f1 d1 pm1 so1
    rw [liveS_all ne] at pm1
    have hm2 := s1 _ _ hm1
    have hlt2 := s1 _ _ hlt1
    walk_at "go"
    intro zs p2 pm2 so2 fp2
    obtain rfl : ys = zs := RE.uniq (pm1.trans pm2.symm) (RE.sorted_pw so1) (RE.sorted_pw so2)
    have s2 := same_new fp2 (.lst (ys.map V.str))
    have d2 := s2 _ _ d1
    have d3 := upd_same (H := H1) (a := p2) (o := .lst (ys.map V.str))
    generalize upd H1 p2 (.lst (ys.map V.str)) = H2 at s2 d2 d3 ⊢
    refine ⟨p1, p2, _, rfl, rfl, SqL.of d2, SqL.of d3, flat ys, _, rfl, iteF ?_⟩
    have s02 := s1.trans s2
    have hys2 := hys.same s02
    have hy2 := s02 _ _ hy
    have hm3 := s02 _ _ hm1
    walk_at "go"
    intro p4 H3 s3 f4 hfr
    have hm4 := s3 _ _ hm3
    have hlf := (hls.same (s02.trans s3)).lf_
    have hsd := frAt_same hfr hlf fl_
    walk_at "go"
    intro H4 s4
    walk_at "go"
    exact kb _ _ ⟨rfl, (s02.trans s3).trans s4⟩
  obtain ⟨rfl, s1⟩ := hm
  have w1 := w0.same s1
  refine seq_of (fun σ' H' => σ' = L2.start nm__law_stands [.ref C.y, .ref C.m] ∧ Same H1 H') (fun b' kb => ?_) (fun σ' H2 hm => ?_)
  · have hys := w1.ys
    have hls := w1.ls
    obtain ⟨⟨dy, fi2, na, nu, lm, md2, hn2, rt, lr, clk, hy⟩, hst, _⟩ := id hys
    obtain ⟨hm1, hlt1, _, hne⟩ := id hls
    walk_at "go"
    intro zs p2 pm2 so2 fp2
    have s2 := same_new fp2 (.lst (zs.map V.str))
    have d2 := upd_same (H := H1) (a := p2) (o := .lst (zs.map V.str))
    generalize upd H1 p2 (.lst (zs.map V.str)) = H2 at s2 d2 ⊢
    walk_at "go"
    have look : ∀ z ∈ zs, s0.ts.lookup z = some (txt s0.ts z) := fun z hz => by
      obtain ⟨e, he, rfl⟩ := List.mem_map.mp (pm2.mem_iff.mp hz)
      have h1 := lookup_ts he nd
      rw [h1]; unfold txt; rw [h1]; rfl
    have zl : zs.length < 64 := by rw [pm2.length_eq]; exact hkl
    intro D hD
    refine lc_it (walk_list (xs := zs.map V.str)) (fun i H' => Same H2 H' ∧ H' D = some (.lst ((zs.take i).map fun z => V.str (txt s0.ts z)))) ⟨same_new hD _, upd_same⟩ (fun i H' _ h => SqL.of (h.1 _ _ d2)) (fun i x H0 H3 hi hP hy0 => ?_) (fun H3 hP => ?_)
    · obtain ⟨rfl, hy0⟩ := hy0
      obtain ⟨s3, d3⟩ := hP
      rw [List.getElem?_map] at hy0
      obtain ⟨z, hz, rfl⟩ := Option.map_eq_some_iff.mp hy0
      have hys3 := hys.same (s2.trans s3)
      have hy3 := s3 _ _ (s2 _ _ hy)
      have hll : ((zs.take i).map fun z => V.str (txt s0.ts z)).length < sizeLine := by rw [List.length_map, List.length_take, sizeLine_eq]; omega
      walk_at "go"
      rw [upd_same, take_more hz, List.map_append]; rfl
    obtain ⟨s3, d3⟩ := hP
    rw [List.length_map, List.take_length] at d3
    have s23 := s2.trans s3
    have hm3 := s23 _ _ hm1
    have hlt3 := s23 _ _ hlt1
    walk_at "go"
    intro zs2 p3 pm3 so3 fp3
    obtain rfl : zs = zs2 := RE.uniq (pm2.trans pm3.symm) (RE.sorted_pw so2) (RE.sorted_pw so3)
    have s4 := same_new fp3 (.lst (zs.map V.str))
    have d4 := upd_same (H := H3) (a := p3) (o := .lst (zs.map V.str))
    generalize upd H3 p3 (.lst (zs.map V.str)) = H4 at s4 d4 ⊢
    have d34 := s4 _ _ d3
    walk_at "go"
    intro D2 hD2
    refine lc_it (walk_list (xs := zs.map V.str)) (fun i H' => Same H4 H' ∧ H' D2 = some (.lst ((zs.take i).map fun z => V.str (txt s0.ts z)))) ⟨same_new hD2 _, upd_same⟩ (fun i H' _ h => SqL.of (h.1 _ _ d4)) (fun i x H0 H5 hi hP hy0 => ?_) (fun H5 hP => ?_)
    · obtain ⟨rfl, hy0⟩ := hy0
      obtain ⟨s5, d5⟩ := hP
      rw [List.getElem?_map] at hy0
      obtain ⟨z, hz, rfl⟩ := Option.map_eq_some_iff.mp hy0
      have hm5 := s5 _ _ (s4 _ _ hm3)
      have hlt5 := s5 _ _ (s4 _ _ hlt3)
      have hv := valV_strK z s0.ts
      rw [look z (List.mem_of_getElem? hz)] at hv
      have hv2 : valV (strK s0.ts) (Sum.inr z) = some (V.str (txt s0.ts z)) := hv
      have hll : ((zs.take i).map fun z => V.str (txt s0.ts z)).length < sizeLine := by rw [List.length_map, List.length_take, sizeLine_eq]; omega
      walk_at "go"
      rw [upd_same, take_more hz, List.map_append]; rfl
    obtain ⟨s5, d5⟩ := hP
    rw [List.length_map, List.take_length] at d5
    have fl2 : (zs.map fun z => V.str (txt s0.ts z)).all RY.flatW = true := by rw [List.all_map]; exact List.all_eq_true.mpr fun _ _ => rfl
    refine ⟨D, D2, _, rfl, rfl, SqL.of (s5 _ _ d34), SqL.of d5, fl2, _, rfl, iteF ?_⟩
    exact kb _ _ ⟨rfl, (s23.trans s4).trans s5⟩
  obtain ⟨rfl, s2⟩ := hm
  have w2 := w1.same s2
  have hm1 := w2.m1
  have hhl := w2.hhl
  have hql : ((qRs ad C.n).map V.ref).length = C.n := by unfold qRs; simp
  refine seq_of (fun σ' H' => (∃ a b c d e, σ' = [some (.ref C.y), some (.ref C.m), a, b, c, d, e]) ∧ Same H2 H') (fun b' kb => ?_) (fun σ' H3 hm => ?_)
  · walk_at "go"
    refine for_it (walk_list (xs := (qRs ad C.n).map V.ref)) (SInv H2 C.y C.m) ⟨Same.refl _, _, _, _, _, _, rfl⟩ (fun i σ H' _ h => SqL.of (h.same _ _ hhl)) (fun i x σ H0 H3 hi hP hx => ?_) (fun σ H3 hP => kb _ _ ⟨hP.σ, hP.same⟩)
    obtain ⟨rfl, hx⟩ := hx
    obtain ⟨s3, a, b, c, d, e, rfl⟩ := hP
    rw [hql] at hi
    have hx2 : ((qRs ad C.n).map V.ref)[i]? = some (.ref (ad (.q i))) := by unfold qRs; rw [List.getElem?_map, List.getElem?_map, List.getElem?_range hi]; rfl
    obtain rfl : V.ref (ad (.q i)) = x := Option.some.inj (hx2.symm.trans hx)
    have w3 := w2.same s3
    cases ek : C.kd i with
    | wr x =>
      have hq3 := w3.qbW hi ek
      walk_at "go"
      exact ⟨s3, _, _, _, _, _, rfl⟩
    | mem md =>
      have hq3 := w3.qbM hi ek
      have hkl : (s0.hs i).ks.length ≤ 80 := by
        have h1 := tt_succ s0 i
        have h2 := tt_le (s := s0) (show i + 1 ≤ C.n from hi)
        omega
      walk_at "go"
      refine for_it walk_range (SInv2 H2 C.y C.m (ad (.q i))) ⟨s3, _, _, _, _, rfl⟩ (fun _ _ _ _ _ => trivial) (fun t x σ H0 H4 ht hP hx => ?_) (fun σ H4 hP => ?_)
      · obtain ⟨rfl, rfl⟩ := hx
        obtain ⟨s4, a, c, d, e, rfl⟩ := hP
        have w4 := w2.same s4
        have hq4 := w4.qbM hi ek
        have hh4 := w4.obM hi ek
        have hmk4 := w4.keM hi ek
        walk_at "go"
        intro p fp
        have s5 := same_new fp (.lst (kR (s0.hs i).ks))
        have d5 := upd_same (H := H4) (a := p) (o := .lst (kR (s0.hs i).ks))
        generalize upd H4 p (.lst (kR (s0.hs i).ks)) = H5 at s5 d5 ⊢
        have s45 := s4.trans s5
        have w5 := w4.same s5
        have hq5 := w5.qbM hi ek
        have hk5 := w5.leM hi ek
        walk_at "go"
        intro D hD
        refine lc_it (walk_list (xs := kQ (s0.hs i).ks)) (fun t H' => Same H5 H' ∧ H' D = some (.lst (kR ((s0.hs i).ks.take t)))) ⟨same_new hD _, upd_same⟩ (fun t H' _ h => SqL.of (h.1 _ _ hk5)) (fun t x H0 H6 ht hP hy0 => ?_) (fun H6 hP => ?_)
        · obtain ⟨rfl, hy0⟩ := hy0
          obtain ⟨s6, d6⟩ := hP
          unfold kQ at hy0
          rw [List.getElem?_map] at hy0
          obtain ⟨k, hk0, rfl⟩ := Option.map_eq_some_iff.mp hy0
          have hkq6 := s6 _ _ (w5.pl.sm _ _ (hU.kk i k (List.mem_of_getElem? hk0)).2.1)
          have hll : (kR ((s0.hs i).ks.take t)).length < sizeLine := by unfold kR; rw [List.length_map, List.length_take, sizeLine_eq]; omega
          walk_at "go"
          rw [upd_same, take_more hk0]; unfold kR; rw [List.map_append]; rfl
        obtain ⟨s6, d6⟩ := hP
        rw [show (kQ (s0.hs i).ks).length = (s0.hs i).ks.length from List.length_map _, List.take_length] at d6
        have ekr : kR (s0.hs i).ks = ((s0.hs i).ks.map (·.r)).map V.ref := by unfold kR; rw [List.map_map]; rfl
        have d56 := s6 _ _ d5
        have hll2 : (kR (s0.hs i).ks).length < sizeLine := by unfold kR; rw [List.length_map, sizeLine_eq]; omega
        refine ⟨p, D, (s0.hs i).ks.map (·.r), rfl, rfl, SqL.of (by rw [← ekr]; exact d56), SqL.of (by rw [← ekr]; exact d6), ?_⟩
        refine ⟨_, rfl, iteF ?_⟩
        walk_at "go"
        exact ⟨fun b u hb => by
          have fp2 := s4.free fp
          rw [upd_ne (ne_of_none hb fp2)]; exact s6 _ _ (s45 _ _ hb), _, _, _, _, rfl⟩
      · obtain ⟨s4, a, c, d, e, rfl⟩ := hP
        exact ⟨s4, _, _, _, _, _, rfl⟩
  obtain ⟨⟨a, b, c, d, e, rfl⟩, s3⟩ := hm
  walk_at "go"
  exact hQ _ ((s1.trans s2).trans s3)
end
end K17

set_option Elab.async false
set_option linter.all false
set_option maxRecDepth 100000
set_option maxHeartbeats 0
namespace K17
open PySem PySem.Spec PyProof.Rows L2 RC
section
variable {P : Program} {w : World} {K : PySem.W.Frag} {mg : Str → Option Value} {base : Heap}
/-! ### a handler more -/
theorem nodup_inj {α β : Type} {f : α → β} : ∀ {l : List α}, (l.map f).Nodup → ∀ x ∈ l, ∀ y ∈ l, f x = f y → x = y
  | [], _, _, h, _, _, _ => nomatch h
  | a :: l, nd, x, hx, y, hy, e => by
    rw [List.map_cons, List.nodup_cons] at nd
    rcases List.mem_cons.mp hx with e1 | hx'
    · rcases List.mem_cons.mp hy with e2 | hy'
      · rw [e1, e2]
      · exact absurd (by rw [← e1, e]; exact List.mem_map_of_mem hy') nd.1
    · rcases List.mem_cons.mp hy with e2 | hy'
      · exact absurd (by rw [← e2, ← e]; exact List.mem_map_of_mem hx') nd.1
      · exact nodup_inj nd.2 x hx' y hy' e
def Cfg.push (C : Cfg) (k : Kd) (dh fi fl : Addr) (fv : V) : Cfg := ⟨C.n + 1, fun i => if i = C.n then k else C.kd i, C.y, C.m, C.na, C.nu, fun i => if i = C.n then dh else C.dh i, fun i => if i = C.n then fi else C.fi i, fun i => if i = C.n then fl else C.fl i, fun i => if i = C.n then fv else C.fv i⟩
def adN (ad : Ro → Addr) (n : Nat) (ph pq pm pl : Addr) : Ro → Addr
  | .h i => if i = n then ph else ad (.h i)
  | .q i => if i = n then pq else ad (.q i)
  | .mk i => if i = n then pm else ad (.mk i)
  | .lk i => if i = n then pl else ad (.lk i)
  | .s => ad .s
  | .l => ad .l
  | .st => ad .st
  | .fr => ad .fr
  | .lt => ad .lt
  | .lf => ad .lf
  | .hl => ad .hl
  | .md => ad .md
  | .wq => ad .wq
  | .wl => ad .wl
section
variable {C : Cfg} {ad : Ro → Addr} {n n' i : Nat} {s : AS} {G H H' : Hp} {k : Kd} {dh fi fl ph pq pm pl : Addr} {fv : V} {tg : Option Nat} {lv0 : Int}
theorem push_old (h : i < C.n) : (C.push k dh fi fl fv).kd i = C.kd i ∧ (C.push k dh fi fl fv).dh i = C.dh i ∧ (C.push k dh fi fl fv).fi i = C.fi i ∧ (C.push k dh fi fl fv).fl i = C.fl i ∧ (C.push k dh fi fl fv).fv i = C.fv i :=
  ⟨if_neg (Nat.ne_of_lt h), if_neg (Nat.ne_of_lt h), if_neg (Nat.ne_of_lt h), if_neg (Nat.ne_of_lt h), if_neg (Nat.ne_of_lt h)⟩
theorem push_new : (C.push k dh fi fl fv).kd C.n = k ∧ (C.push k dh fi fl fv).dh C.n = dh ∧ (C.push k dh fi fl fv).fi C.n = fi ∧ (C.push k dh fi fl fv).fl C.n = fl ∧ (C.push k dh fi fl fv).fv C.n = fv := ⟨if_pos rfl, if_pos rfl, if_pos rfl, if_pos rfl, if_pos rfl⟩
theorem lv_cases (r : Ro) (h : Lv (C.push k dh fi fl fv) r) : (Lv C r ∧ adN ad C.n ph pq pm pl r = ad r) ∨ (r = .h C.n ∧ adN ad C.n ph pq pm pl r = ph) ∨ (r = .q C.n ∧ adN ad C.n ph pq pm pl r = pq) ∨ (r = .mk C.n ∧ k.isM ∧ adN ad C.n ph pq pm pl r = pm) ∨ (r = .lk C.n ∧ k.isM ∧ adN ad C.n ph pq pm pl r = pl) := by
  have old : ∀ i, i < C.n + 1 → i ≠ C.n → i < C.n := fun i h1 h2 => by omega
  cases r with
  | h i =>
    by_cases e : i = C.n
    · exact .inr (.inl ⟨by rw [e], if_pos e⟩)
    · exact .inl ⟨old i h e, if_neg e⟩
  | q i =>
    by_cases e : i = C.n
    · exact .inr (.inr (.inl ⟨by rw [e], if_pos e⟩))
    · exact .inl ⟨old i h e, if_neg e⟩
  | mk i =>
    by_cases e : i = C.n
    · exact .inr (.inr (.inr (.inl ⟨by rw [e], by have h2 := h.2; rw [e, push_new.1] at h2; exact h2, if_pos e⟩)))
    · have h3 := old i h.1 e
      exact .inl ⟨⟨h3, by have h2 := h.2; rw [(push_old h3).1] at h2; exact h2⟩, if_neg e⟩
  | lk i =>
    by_cases e : i = C.n
    · exact .inr (.inr (.inr (.inr ⟨by rw [e], by have h2 := h.2; rw [e, push_new.1] at h2; exact h2, if_pos e⟩)))
    · have h3 := old i h.1 e
      exact .inl ⟨⟨h3, by have h2 := h.2; rw [(push_old h3).1] at h2; exact h2⟩, if_neg e⟩
  | s => exact .inl ⟨trivial, rfl⟩
  | l => exact .inl ⟨trivial, rfl⟩
  | st => exact .inl ⟨trivial, rfl⟩
  | fr => exact .inl ⟨trivial, rfl⟩
  | lt => exact .inl ⟨trivial, rfl⟩
  | lf => exact .inl ⟨trivial, rfl⟩
  | hl => exact .inl ⟨trivial, rfl⟩
  | md => exact .inl ⟨trivial, rfl⟩
  | wq => exact .inl ⟨trivial, rfl⟩
  | wl => exact .inl ⟨trivial, rfl⟩
theorem hRs_push : hRs (adN ad n ph pq pm pl) (n + 1) = hRs ad n ++ [ph] := by
  unfold hRs
  rw [List.range_succ, List.map_append]
  congr 1
  · exact List.map_congr_left fun i hi => if_neg (Nat.ne_of_lt (List.mem_range.mp hi))
  · show [if n = n then ph else _] = _; rw [if_pos rfl]
theorem qRs_push : qRs (adN ad n ph pq pm pl) (n + 1) = qRs ad n ++ [pq] := by
  unfold qRs
  rw [List.range_succ, List.map_append]
  congr 1
  · exact List.map_congr_left fun i hi => if_neg (Nat.ne_of_lt (List.mem_range.mp hi))
  · show [if n = n then pq else _] = _; rw [if_pos rfl]
theorem Wd.add (w : Wd K C ad n s s G H) (lo : ∀ i j, (s.hs i).tg = some j → j < i) (c : Chg [ad .s, ad .l, ad .md] H H') (st' : Stm H' (ad .s) (ad .l) n') (hmd : H' (ad .md) = some (.lst ((hRs ad C.n).map V.ref ++ [.ref ph]))) (fh : H ph = none) (fq : H pq = none) (fm : k.isM → H pm = none) (fl_ : k.isM → H pl = none)
    (d0 : ph ≠ pq) (dd : k.isM → ph ≠ pm ∧ ph ≠ pl ∧ pq ≠ pm ∧ pq ≠ pl ∧ pm ≠ pl) (oh : H' ph = some (pOb K (C.push k dh fi fl fv) (adN ad C.n ph pq pm pl) ⟨tg, lv0, []⟩ C.n)) (oq : H' pq = some (lOb (C.push k dh fi fl fv) (adN ad C.n ph pq pm pl) ⟨tg, lv0, []⟩ C.n)) (om : k.isM → H' pm = some (.lst [])) (ol : k.isM → H' pl = some (.lst []))
    (sta : StA K (C.push k dh fi fl fv) (rst (fun b => H b ≠ none ∨ b = ph ∨ b = pq ∨ (k.isM ∧ (b = pm ∨ b = pl))) H') C.n) :
    Wd K (C.push k dh fi fl fv) (adN ad C.n ph pq pm pl) n' (s.set C.n ⟨tg, lv0, []⟩) (s.set C.n ⟨tg, lv0, []⟩) (Gs (C.push k dh fi fl fv) (adN ad C.n ph pq pm pl) (upd H' (ad .hl) (.lst ((qRs ad C.n).map V.ref ++ [.ref pq])))) (upd H' (ad .hl) (.lst ((qRs ad C.n).map V.ref ++ [.ref pq]))) ∧ Same G (Gs (C.push k dh fi fl fv) (adN ad C.n ph pq pm pl) (upd H' (ad .hl) (.lst ((qRs ad C.n).map V.ref ++ [.ref pq])))) := by
  have lvl := w.pl.lv
  have hS : ∀ r ∈ ([.s, .l, .md, .hl] : List Ro), Lv C r := fun r hr => by
    simp only [List.mem_cons, List.not_mem_nil, or_false] at hr
    rcases hr with rfl | rfl | rfl | rfl <;> trivial
  have nin : ∀ r, Lv C r → r ∉ ([.s, .l, .md, .hl] : List Ro) → ad r ∉ ([.s, .l, .md, .hl] : List Ro).map ad := fun r => w.pl.nin hS
  have nhl : ∀ {p}, H p = none → p ≠ ad .hl := fun f z => (lvl .hl trivial).1 (by rw [← z]; exact f)
  have nhs : ad .hl ≠ ad .s := fun z => nomatch w.pl.inj .hl .s trivial trivial z
  have nhl2 : ad .hl ≠ ad .l := fun z => nomatch w.pl.inj .hl .l trivial trivial z
  have nhm : ad .md ≠ ad .hl := fun z => nomatch w.pl.inj .md .hl trivial trivial z
  have hhl0 : H' (ad .hl) ≠ none := by
    rw [c (ad .hl) _ (by simp only [List.mem_cons, List.not_mem_nil, or_false, not_or]; exact ⟨nhs, nhl2, Ne.symm nhm⟩) w.hhl]; exact fun z => nomatch z
  have c4 : Chg (([.s, .l, .md, .hl] : List Ro).map ad) H (upd H' (ad .hl) (.lst ((qRs ad C.n).map V.ref ++ [.ref pq]))) := (c.mono fun b hb => by
    simp only [List.mem_cons, List.not_mem_nil, or_false, List.map_cons, List.map_nil] at hb ⊢; rcases hb with rfl | rfl | rfl <;> simp).set (by simp)
  have up : ∀ {p o}, H' p = some o → p ≠ ad .hl → upd H' (ad .hl) (.lst ((qRs ad C.n).map V.ref ++ [.ref pq])) p = some o := fun e z => by rw [upd_ne z]; exact e
  have hX := upd_same (H := H') (a := ad .hl) (o := .lst ((qRs ad C.n).map V.ref ++ [.ref pq]))
  have oh' := up oh (nhl fh)
  have oq' := up oq (nhl fq)
  have om' := fun z => up (om z) (nhl (fm z))
  have ol' := fun z => up (ol z) (nhl (fl_ z))
  have hmd' := up hmd nhm
  have st2 : Stm (upd H' (ad .hl) (.lst ((qRs ad C.n).map V.ref ++ [.ref pq]))) (ad .s) (ad .l) n' := st'.put nhs nhl2
  have sR : Same (rst (fun b => H b ≠ none ∨ b = ph ∨ b = pq ∨ (k.isM ∧ (b = pm ∨ b = pl))) H') (Gs (C.push k dh fi fl fv) (adN ad C.n ph pq pm pl) (upd H' (ad .hl) (.lst ((qRs ad C.n).map V.ref ++ [.ref pq])))) := fun b u e => by
    have e2 := rst_same _ _ e
    have nS : ¬ (H b ≠ none ∨ b = ph ∨ b = pq ∨ (k.isM ∧ (b = pm ∨ b = pl))) := fun z => by rw [rst_none (S := fun b => H b ≠ none ∨ b = ph ∨ b = pq ∨ (k.isM ∧ (b = pm ∨ b = pl))) z] at e; cases e
    refine rst_at (up e2 fun z => nS (.inl (by rw [z]; exact (lvl .hl trivial).1))) fun ⟨r, h1, h2⟩ => nS ?_
    rcases lv_cases (ad := ad) (ph := ph) (pq := pq) (pm := pm) (pl := pl) r h1 with ⟨a, b'⟩ | ⟨_, b'⟩ | ⟨_, b'⟩ | ⟨_, a, b'⟩ | ⟨_, a, b'⟩
    · exact .inl (by rw [h2, b']; exact (lvl r a).1)
    · exact .inr (.inl (by rw [h2, b']))
    · exact .inr (.inr (.inl (by rw [h2, b'])))
    · exact .inr (.inr (.inr ⟨a, .inl (by rw [h2, b'])⟩))
    · exact .inr (.inr (.inr ⟨a, .inr (by rw [h2, b'])⟩))
  have sG : Same G (Gs (C.push k dh fi fl fv) (adN ad C.n ph pq pm pl) (upd H' (ad .hl) (.lst ((qRs ad C.n).map V.ref ++ [.ref pq])))) := fun b u e => by
    have e1 := w.pl.sm _ _ e
    refine rst_at (c4 _ _ (w.pl.out hS e) e1) fun ⟨r, h1, h2⟩ => ?_
    rcases lv_cases (ad := ad) (ph := ph) (pq := pq) (pm := pm) (pl := pl) r h1 with ⟨a, b'⟩ | ⟨_, b'⟩ | ⟨_, b'⟩ | ⟨_, a, b'⟩ | ⟨_, a, b'⟩
    · rw [h2, b', w.pl.og r a] at e; cases e
    · rw [h2, b', fh] at e1; cases e1
    · rw [h2, b', fq] at e1; cases e1
    · rw [h2, b', fm a] at e1; cases e1
    · rw [h2, b', fl_ a] at e1; cases e1
  generalize upd H' (ad .hl) (.lst ((qRs ad C.n).map V.ref ++ [.ref pq])) = H2 at c4 hX oh' oq' om' ol' hmd' st2 sR sG ⊢
  have tp := w.pl.tp hS
  obtain ⟨⟨_, _, _, _, _, _, _, _, gy⟩, _⟩ := w.yd
  have fr : ∀ r, Lv C r → ∀ {p}, H p = none → ad r ≠ p := fun r hr p f z => (lvl r hr).1 (by rw [z]; exact f)
  have adh : ∀ j, j < C.n → adN ad C.n ph pq pm pl (.h j) = ad (.h j) := fun j h => if_neg (Nat.ne_of_lt h)
  have adq : ∀ j, j < C.n → adN ad C.n ph pq pm pl (.q j) = ad (.q j) := fun j h => if_neg (Nat.ne_of_lt h)
  have adm : ∀ j, j < C.n → adN ad C.n ph pq pm pl (.mk j) = ad (.mk j) := fun j h => if_neg (Nat.ne_of_lt h)
  have adl : ∀ j, j < C.n → adN ad C.n ph pq pm pl (.lk j) = ad (.lk j) := fun j h => if_neg (Nat.ne_of_lt h)
  have ch : adN ad C.n ph pq pm pl (.h C.n) = ph := if_pos rfl
  have cq : adN ad C.n ph pq pm pl (.q C.n) = pq := if_pos rfl
  have cm : adN ad C.n ph pq pm pl (.mk C.n) = pm := if_pos rfl
  have cl : adN ad C.n ph pq pm pl (.lk C.n) = pl := if_pos rfl
  have pO : ∀ j, j < C.n → pOb K (C.push k dh fi fl fv) (adN ad C.n ph pq pm pl) (s.hs j) j = pOb K C ad (s.hs j) j := fun j hj => by
    obtain ⟨e1, e2, e3, e4, e5⟩ := push_old (k := k) (dh := dh) (fi := fi) (fl := fl) (fv := fv) hj
    rw [← pOb_ad (ad' := adN ad C.n ph pq pm pl) (C := C) (h := s.hs j) (i := j) (fun m hm => adh m (Nat.lt_trans (lo j m hm) hj)) (fun _ => adm j hj)]
    unfold pOb
    rw [e1, e2, e3, e5]; rfl
  have lO : ∀ j, j < C.n → lOb (C.push k dh fi fl fv) (adN ad C.n ph pq pm pl) (s.hs j) j = lOb C ad (s.hs j) j := fun j hj => by
    obtain ⟨e1, e2, e3, e4, e5⟩ := push_old (k := k) (dh := dh) (fi := fi) (fl := fl) (fv := fv) hj
    rw [← lOb_ad (ad' := adN ad C.n ph pq pm pl) (C := C) (h := s.hs j) (i := j) (adh j hj) (fun _ => adl j hj)]
    unfold lOb
    rw [e1, e4]
  have lt_or : ∀ j, j < C.n + 1 → j < C.n ∨ j = C.n := fun j h => by omega
  refine ⟨⟨⟨rst_same, fun r hr => rst_none ⟨r, hr, rfl⟩, fun r r' hr hr' e => ?_, fun r hr => ?_⟩, st2, w.yd.same sG, sG _ _ w.mm, ?_, ?_, ?_, ?_, fun j hj => ?_, fun j hj => ?_, fun j hj => ?_, fun j hj hm => ?_, fun j hj hm => ?_, c4 _ _ (nin .wq trivial (by simp)) w.wq, c4 _ _ (nin .wl trivial (by simp)) w.wl⟩, sG⟩
  · rcases lv_cases (ad := ad) (ph := ph) (pq := pq) (pm := pm) (pl := pl) r hr with ⟨a, b'⟩ | ⟨a, b'⟩ | ⟨a, b'⟩ | ⟨a, a2, b'⟩ | ⟨a, a2, b'⟩ <;>
      rcases lv_cases (ad := ad) (ph := ph) (pq := pq) (pm := pm) (pl := pl) r' hr' with ⟨x, y'⟩ | ⟨x, y'⟩ | ⟨x, y'⟩ | ⟨x, x2, y'⟩ | ⟨x, x2, y'⟩ <;> rw [b', y'] at e
    · exact w.pl.inj r r' a x e
    · exact absurd e (fr r a fh)
    · exact absurd e (fr r a fq)
    · exact absurd e (fr r a (fm x2))
    · exact absurd e (fr r a (fl_ x2))
    · exact absurd e.symm (fr r' x fh)
    · rw [a, x]
    · exact absurd e d0
    · exact absurd e (dd x2).1
    · exact absurd e (dd x2).2.1
    · exact absurd e.symm (fr r' x fq)
    · exact absurd e.symm d0
    · rw [a, x]
    · exact absurd e (dd x2).2.2.1
    · exact absurd e (dd x2).2.2.2.1
    · exact absurd e.symm (fr r' x (fm a2))
    · exact absurd e.symm (dd a2).1
    · exact absurd e.symm (dd a2).2.2.1
    · rw [a, x]
    · exact absurd e (dd a2).2.2.2.2
    · exact absurd e.symm (fr r' x (fl_ a2))
    · exact absurd e.symm (dd a2).2.1
    · exact absurd e.symm (dd a2).2.2.2.1
    · exact absurd e.symm (dd a2).2.2.2.2
    · rw [a, x]
  · rcases lv_cases (ad := ad) (ph := ph) (pq := pq) (pm := pm) (pl := pl) r hr with ⟨a, b'⟩ | ⟨a, b'⟩ | ⟨a, b'⟩ | ⟨a, a2, b'⟩ | ⟨a, a2, b'⟩
    · rw [b']
      by_cases z : r ∈ ([.s, .l, .md, .hl] : List Ro)
      · obtain ⟨_, _, _, _, _, g1, g2, _⟩ := st2
        simp only [List.mem_cons, List.not_mem_nil, or_false] at z
        rcases z with rfl | rfl | rfl | rfl
        · exact dk_ok g1 (fun _ z => nomatch z)
        · exact dk_ok g2 (fun _ z => nomatch z)
        · exact dk_ok hmd' (fun _ z => nomatch z)
        · exact dk_ok hX (fun _ z => nomatch z)
      · have h1 := lvl r a
        cases e : H (ad r) with
        | none => exact absurd e h1.1
        | some o => exact dk_ok (c4 _ _ (nin r a z) e) fun xs z => h1.2 xs (by rw [e, z])
    · rw [b']; exact dk_ok oh' pOb_nt
    · rw [b']; exact dk_ok oq' lOb_nt
    · rw [b']; exact dk_ok (om' a2) (fun _ z => nomatch z)
    · rw [b']; exact dk_ok (ol' a2) (fun _ z => nomatch z)
  · exact w.ys.chg c4 (nin .st trivial (by simp)) (nin .fr trivial (by simp)) (w.pl.out hS gy) tp
  · exact w.ls.chg c4 (nin .lt trivial (by simp)) (nin .lf trivial (by simp)) (w.pl.out hS w.mm) tp
  · show H2 (ad .md) = some (.lst ((hRs _ (C.n + 1)).map V.ref))
    rw [hmd', hRs_push, List.map_append]; rfl
  · show H2 (ad .hl) = some (.lst ((qRs _ (C.n + 1)).map V.ref))
    rw [hX, qRs_push, List.map_append]; rfl
  · rcases lt_or j hj with h | rfl
    · have h1 := (w.st j h).same sG
      obtain ⟨e1, e2, e3, e4, e5⟩ := push_old (k := k) (dh := dh) (fi := fi) (fl := fl) (fv := fv) h
      unfold StA at h1 ⊢
      rw [e1, e3, e4, e5]; exact h1
    · exact sta.same sR
  · rcases lt_or j hj with h | rfl
    · rw [set_ne _ (Nat.ne_of_lt h), pO j h, adh j h]
      exact c4 _ _ (nin (.h j) h (by simp)) (w.ob j h)
    · rw [set_same, ch]; exact oh'
  · rcases lt_or j hj with h | rfl
    · rw [set_ne _ (Nat.ne_of_lt h), lO j h, adq j h]
      exact c4 _ _ (nin (.q j) h (by simp)) (w.qb j h)
    · rw [set_same, cq]; exact oq'
  · rcases lt_or j hj with h | rfl
    · rw [(push_old h).1] at hm
      rw [set_ne _ (Nat.ne_of_lt h), adm j h]
      exact c4 _ _ (nin (.mk j) ⟨h, hm⟩ (by simp)) (w.ke j h hm)
    · rw [push_new.1] at hm
      rw [set_same, cm]; exact om' hm
  · rcases lt_or j hj with h | rfl
    · rw [(push_old h).1] at hm
      rw [set_ne _ (Nat.ne_of_lt h), adl j h]
      exact c4 _ _ (nin (.lk j) ⟨h, hm⟩ (by simp)) (w.le j h hm)
    · rw [push_new.1] at hm
      rw [set_same, cl]; exact ol' hm
end
end
end K17

set_option Elab.async false
set_option linter.all false
set_option maxRecDepth 100000
set_option maxHeartbeats 0

namespace K17
open PySem PySem.Spec PyProof.Rows L2 RC
section
variable {P : Program} {w : World} {K : PySem.W.Frag} {mg : Str → Option Value} {base : Heap}
/-! ### the handlers of a turn -/
def bodyFor : Stmt → List Stmt
  | .For _ _ b _ _ => b
  | _ => []
abbrev b_turn : List Stmt := bodyFor ((defBody s_law).getD 1 (.Pass ⟨0, 0, 0, 0⟩))
abbrev b_wrs : List Stmt := bodyFor (b_turn.getD 1 (.Pass ⟨0, 0, 0, 0⟩))
abbrev b_lst : List Stmt := bodyFor (b_turn.getD 4 (.Pass ⟨0, 0, 0, 0⟩))
abbrev b_deed : List Stmt := bodyFor (b_turn.getD 5 (.Pass ⟨0, 0, 0, 0⟩))
abbrev CQ (K : PySem.W.Frag) : Addr := He.ga K "Queue"
abbrev sg (sc s : Addr) (o2 : Option V) (y m qp wl : Addr) (o7 o8 o9 o10 o11 o12 o13 o14 o15 o16 o17 o18 o19 : Option V) : L2.St := [some (.ref sc), some (.ref s), o2, some (.ref y), some (.ref m), some (.ref qp), some (.ref wl), o7, o8, o9, o10, o11, o12, o13, o14, o15, o16, o17, o18, o19]
theorem tt_zero {s : AS} (h : ∀ i, (s.hs i).ks = []) (h2 : s.w = 0) : ∀ m, s.tt m = 0 := fun m => by
  have : sumN (fun i => (s.hs i).ks.length) m = 0 := by
    induction m with
    | zero => rfl
    | succ m ih => show sumN _ m + (s.hs m).ks.length = 0; rw [ih, h m]; rfl
  show sumN _ m + s.w = 0
  rw [this, h2]
/-- j handlers are made -/
structure CI (K : PySem.W.Frag) (s l y m qp wl : Addr) (j n : Nat) (H : Hp) : Prop where
  w : ∃ (C : Cfg) (ad : Ro → Addr) (z : AS), Wd K C ad n z z (Gs C ad H) H ∧ C.n = j ∧ ad .s = s ∧ ad .l = l ∧ C.y = y ∧ C.m = m ∧ SO K (Gs C ad H) z ∧ (∀ i, (z.hs i).ks = []) ∧ z.w = 0 ∧ DOk sa sb C.kd C.n ∧ (∀ i, i < C.n → i < 2 → ¬ (C.kd i).isM) ∧ ad .wl = wl ∧ z.wt = [] ∧ ∃ dq, Gs C ad H qp = some (.ins (CQ K) dq [("waiting", .ref (ad .wq))])
theorem set_so {A A' : Kp → Prop} {a b : Str} {s : AS} (h : SOk A a b s) (m : ∀ k, A k → A' k) {n : Nat} {tg : Option Nat} {lv0 : Int} (ht : ∀ j, tg = some j → j < n) : SOk A' a b (s.set n ⟨tg, lv0, []⟩) := by
  refine ⟨fun i j e => ?_, fun i k hk => ?_, h.ts, h.cp, h.fl, fun k hk => m k (h.wk k hk)⟩
  · by_cases z : i = n
    · rw [z, set_same] at e; rw [z]; exact ht j e
    · rw [set_ne _ z] at e; exact h.lo i j e
  · by_cases z : i = n
    · rw [z, set_same] at hk; exact nomatch hk
    · rw [set_ne _ z] at hk; exact m k (h.kk i k hk)
theorem set_ks {s : AS} (h : ∀ i, (s.hs i).ks = []) {n : Nat} {tg : Option Nat} {lv0 : Int} : ∀ i, ((s.set n ⟨tg, lv0, []⟩).hs i).ks = [] := fun i => by
  by_cases z : i = n
  · rw [z, set_same]
  · rw [set_ne _ z]; exact h i
theorem push_dok {C : Cfg} {k : Kd} {dh fi fl : Addr} {fv : V} (h : DOk sa sb C.kd C.n) (hk : ∀ x, k = .wr x → x.sn = sa ∨ x.sn = sb) : DOk sa sb (C.push k dh fi fl fv).kd (C.push k dh fi fl fv).n := by
  refine ⟨fun i x hi e => ?_⟩
  by_cases z : i = C.n
  · rw [z, push_new.1] at e; exact hk x e
  · have h2 : i < C.n := by have h3 : i < C.n + 1 := hi; omega
    rw [(push_old h2).1] at e; exact h.sn i x h2 e
/-- a row tells its handler -/
theorem Wd.it {C : Cfg} {ad : Ro → Addr} {n i : Nat} {U L : AS} {G H : Hp} (w : Wd K C ad n U L G H) (hi : i < C.n) : ∃ kvs, H (ad (.q i)) = some (.dK kvs) ∧ valV kvs (Sum.inr "it") = some (.ref (ad (.h i))) := by
  cases e : C.kd i with
  | wr x => exact ⟨_, w.qbW hi e, rfl⟩
  | mem md => exact ⟨_, w.qbM hi e, rfl⟩
theorem wrs (T : Txt P w K mg) {f : Addr} {cdv : Value} {A : Around} {outer : List Env} {st0 : Shared} {E : XK} {H : Hp} (hr : Room 36 (A.deeper (envOfC "law" (defScope s_law) st0.heap.objs.size f cdv)))
    {SW : Sp} (eW : SW = spWriterMk K) (c__law_writer : Callable P w K mg base 7 (He.ga K "_law_writer") ["_law_stream", "_law_yard", "_law_nth"] [] SW) :
    ∃ t, PSs (cxOf CX0 P w K mg base nm_law "law" (defScope s_law) f cdv A outer st0 H E).nox b_wrs t ∧ ∀ {s l y m qp wl sc : Addr} {n : Nat} (i : Nat) (H0 : Hp) (D' : Ends), CI K s l y m qp wl i n H0 → i < 2 → n ≤ 900000 → ∀ o2 o8 o9 o10 o11 o12 o13 o14 o15 o16 o17 o18 o19,
      (∀ H', CI K s l y m qp wl (i + 1) (n + 4) H' → D'.nx (sg sc s o2 y m qp wl (some (.int (i : Nat))) o8 o9 o10 o11 o12 o13 o14 o15 o16 o17 o18 o19) H') → t D' (sg sc s o2 y m qp wl (some (.int (i : Nat))) o8 o9 o10 o11 o12 o13 o14 o15 o16 o17 o18 o19) H0 := by
  refine ⟨_, (pss_one (ps_expr (pe_bm PySem.F.plainAttrs_list PySem.F.slot_list_append PySem.F.type_list_append mt_append (pe_dget (hu_of hr) (pv 4) pe_str (fun _ _ => rfl)) (pa_cons (pe_fn T.g__law_writer c__law_writer (hr.mono (by first | decide | exact Nat.le_refl _ | omega)) (by rfl) (pa_cons (pv 1) (pa_cons (pv 3) (pa_cons (pv 7) pa_nil)))) pa_nil)))), ?_⟩
  walk_at "in"
  intro s l y m qp wl sc n i H0 D' hW hi hn o2 o8 o9 o10 o11 o12 o13 o14 o15 o16 o17 o18 o19 k'
  obtain ⟨C, ad, z, W0, rfl, rfl, rfl, rfl, rfl, hU, hks, hw, hD, mw, rfl, hwt, dq, hqp⟩ := hW.w
  have hm := W0.m1
  have hhl := W0.hhl
  have hql : (hRs ad C.n).length = C.n := by unfold hRs; simp
  have hql2 : (qRs ad C.n).length = C.n := by unfold qRs; simp
  walk_at "go"
  rw [eW]
  have n1 : ad .md ≠ ad .s := fun z => nomatch W0.pl.inj .md .s trivial trivial z
  have n2 : ad .md ≠ ad .l := fun z => nomatch W0.pl.inj .md .l trivial trivial z
  have n3 : ad .hl ∉ [ad .s, ad .l, ad .md] := fun z => by
    simp only [List.mem_cons, List.not_mem_nil, or_false] at z
    rcases z with z | z | z
    · exact nomatch W0.pl.inj .hl .s trivial trivial z
    · exact nomatch W0.pl.inj .hl .l trivial trivial z
    · exact nomatch W0.pl.inj .hl .md trivial trivial z
  refine ⟨ad .s, ad .l, C.y, ad .md, C.na, C.nu, n, C.n, (hRs ad C.n).map V.ref, rfl, W0.stm, by omega, by omega, W0.yd.same W0.pl.sm, W0.hmd, by rw [List.length_map, hql]; omega, n1, n2, fun H1 q it dh fi fl fv x c st1 hmd1 ok hsn oit oq fit fq nqi hF hFl hfl => ?_⟩
  have hhl1 := c _ _ n3 hhl
  have hll : ((qRs ad C.n).map V.ref).length < sizeLine := by rw [List.length_map, hql2, sizeLine_eq]; omega
  have sub : Same (rst (fun b => H0 b ≠ none ∨ b = q ∨ b = it) H1) (rst (fun b => H0 b ≠ none ∨ b = it ∨ b = q ∨ ((Kd.wr x).isM ∧ (b = 0 ∨ b = 0))) H1) := fun b u e => by
    have e2 := rst_same _ _ e
    refine rst_at e2 fun z => ?_
    rw [rst_none (show (H0 b ≠ none ∨ b = q ∨ b = it) from z.elim .inl fun z => z.elim (fun z => .inr (.inr z)) fun z => z.elim (fun z => .inr (.inl z)) fun z => z.1.elim)] at e; cases e
  have W1 := W0.add (k := .wr x) (dh := dh) (fi := fi) (fl := fl) (fv := fv) (ph := it) (pq := q) (pm := 0) (pl := 0) (tg := none) (lv0 := x.lv) hU.lo c st1 hmd1 fit fq (fun z => z.elim) (fun z => z.elim) (Ne.symm nqi) (fun z => z.elim)
    (by rw [pOb_wr push_new.1, push_new.2.1, push_new.2.2.1, push_new.2.2.2.2]; exact oit) (by rw [lOb_wr push_new.1, push_new.2.2.2.1]; show H1 q = some (.dK (wrK fl x.f x.sn (if C.n = C.n then it else _) x.lv false)); rw [if_pos rfl]; exact oq) (fun z => z.elim) (fun z => z.elim)
    (by
      unfold StA
      rw [push_new.1, push_new.2.2.1, push_new.2.2.2.1, push_new.2.2.2.2]
      exact ⟨sub _ _ hfl, hFl.same sub, ok.l, ok.n, hF.same sub⟩)
  walk_at "go"
  refine k' _ ⟨_, _, _, W1.1, rfl, rfl, rfl, rfl, rfl, set_so hU (fun k hk => hk.same W1.2) (fun _ z => nomatch z), set_ks hks, hw, push_dok hD fun x' e => ?_, fun j hj hj2 => ?_, rfl, hwt, dq, W1.2 _ _ hqp⟩
  · cases e
    have hi2 : C.n = 0 ∨ C.n = 1 := by omega
    rcases hi2 with e | e
    · rw [e] at hsn; exact .inl hsn
    · rw [e] at hsn; exact .inr hsn
  · by_cases z : j = C.n
    · rw [z, push_new.1]; exact fun z => z
    · have h2 : j < C.n := by have h3 : j < C.n + 1 := hj; omega
      rw [(push_old h2).1]; exact mw j h2 hj2
end
end K17

set_option Elab.async false
set_option linter.all false
set_option maxRecDepth 100000
set_option maxHeartbeats 0
namespace K17
open PySem PySem.Spec PyProof.Rows L2 RC
section
variable {P : Program} {w : World} {K : PySem.W.Frag} {mg : Str → Option Value} {base : Heap}
/-! ### the memory of a turn -/
/-- a memory is put behind the handlers -/
theorem mem_step (T : Txt P w K mg) {C : Cfg} {ad : Ro → Addr} {n : Nat} {z : AS} {H1 : Hp} (W2 : Wd K C ad n z z (Gs C ad H1) H1) (hlo : ∀ i j, (z.hs i).tg = some j → j < i) {tg : Option Nat} (htg : ∀ j, tg = some j → j < C.n) :
    ∃ lt : LTg, lt.v = tgI tg ∧ LTgAt H1 (ad .hl) lt ∧ ∀ (H2 : Hp) (n2 : Nat) (q mh dh fi fl lk mk : Addr) (mm : Md), (mm.nm = none ∧ mm.lv = 0) → Chg [ad .s, ad .l, ad .md] H1 H2 → Stm H2 (ad .s) (ad .l) n2 → H2 (ad .md) = some (.lst ((hRs ad C.n).map V.ref ++ [.ref mh])) → H2 q = some (.dK (lmK fl lt.v lk mm mh)) → H2 mh = some (.ins (CM K) dh (hdM fi C.y mm lt.pv mk)) → H2 lk = some (.lst []) → H2 mk = some (.lst []) → (H1 q = none ∧ H1 mh = none ∧ H1 lk = none ∧ H1 mk = none ∧ lk ≠ mk) →
      FlAt K (rst (fun b => H1 b ≠ none ∨ b = q ∨ b = mh ∨ b = lk ∨ b = mk) H2) fi mm.ns → rst (fun b => H1 b ≠ none ∨ b = q ∨ b = mh ∨ b = lk ∨ b = mk) H2 fl = some (.lst (mm.ns.map V.str)) → mm.ns.length ≤ 100 → (∀ n ∈ mm.ns, n.length ≤ 1000) →
      Wd K (C.push (.mem mm) dh fi fl .non) (adN ad C.n mh q mk lk) n2 (z.set C.n ⟨tg, 0, []⟩) (z.set C.n ⟨tg, 0, []⟩) (Gs (C.push (.mem mm) dh fi fl .non) (adN ad C.n mh q mk lk) (upd H2 (ad .hl) (.lst ((qRs ad C.n).map V.ref ++ [.ref q])))) (upd H2 (ad .hl) (.lst ((qRs ad C.n).map V.ref ++ [.ref q]))) ∧ Same (Gs C ad H1) (Gs (C.push (.mem mm) dh fi fl .non) (adN ad C.n mh q mk lk) (upd H2 (ad .hl) (.lst ((qRs ad C.n).map V.ref ++ [.ref q])))) := by
  have W1 := W2
  obtain ⟨lt, ltv, ltp, hlt⟩ : ∃ lt : LTg, lt.v = tgI tg ∧ lt.pv = tgR ad tg ∧ LTgAt H1 (ad .hl) lt := by
    cases tg with
    | none => exact ⟨none, rfl, rfl, trivial⟩
    | some j =>
      obtain ⟨kvs, k1, k2⟩ := W1.it (htg j rfl)
      exact ⟨some (j, ad (.q j), ad (.h j), kvs), rfl, rfl, ⟨_, W1.hhl, by unfold qRs; rw [List.getElem?_map, List.getElem?_range (htg j rfl)]; rfl⟩, k1, k2⟩
  refine ⟨lt, ltv, hlt, fun H2 n2 q mh dh fi fl lk mk mm hmm c st2 hmd2 oq oh ol om ff hFl hfl hns1 hns2 => ?_⟩
  obtain ⟨f1, f2, f3, f4, f5⟩ := ff
  have emm : mm.clo 0 = mm := by
    obtain ⟨cap, least, fc, ns, nm, cl⟩ := mm
    obtain ⟨h1, h2⟩ := hmm
    cases h2; rfl
  have nhq : mh ≠ q := fun z => by rw [z, oq] at oh; cases oh
  have nhk : mh ≠ mk := fun z => by rw [z, om] at oh; cases oh
  have nhl : mh ≠ lk := fun z => by rw [z, ol] at oh; cases oh
  have nqk : q ≠ mk := fun z => by rw [z, om] at oq; cases oq
  have nql : q ≠ lk := fun z => by rw [z, ol] at oq; cases oq
  have sub : Same (rst (fun b => H1 b ≠ none ∨ b = q ∨ b = mh ∨ b = lk ∨ b = mk) H2) (rst (fun b => H1 b ≠ none ∨ b = mh ∨ b = q ∨ ((Kd.mem mm).isM ∧ (b = mk ∨ b = lk))) H2) := fun b u e => by
    have e2 := rst_same _ _ e
    refine rst_at e2 fun z => ?_
    rw [rst_none (show (H1 b ≠ none ∨ b = q ∨ b = mh ∨ b = lk ∨ b = mk) from z.elim .inl fun z => z.elim (fun z => .inr (.inr (.inl z))) fun z => z.elim (fun z => .inr (.inl z)) fun z => z.2.elim (fun z => .inr (.inr (.inr (.inr z)))) fun z => .inr (.inr (.inr (.inl z)))) ] at e; cases e
  have eT : tgR (adN ad C.n mh q mk lk) tg = tgR ad tg := by
    cases tg with
    | none => rfl
    | some j => show V.ref (if j = C.n then mh else ad (.h j)) = _; rw [if_neg (Nat.ne_of_lt (htg j rfl))]; rfl
  exact W2.add (k := .mem mm) (dh := dh) (fi := fi) (fl := fl) (fv := .non) (ph := mh) (pq := q) (pm := mk) (pl := lk) (tg := tg) (lv0 := 0) hlo c st2 hmd2 f2 f1 (fun _ => f4) (fun _ => f3) nhq (fun _ => ⟨nhk, nhl, nqk, nql, Ne.symm f5⟩)
    (by rw [pOb_mem push_new.1, push_new.2.1, push_new.2.2.1, eT, ← ltp, emm]; show H2 mh = some (.ins (CM K) dh (hdM fi C.y mm lt.pv (if C.n = C.n then mk else _))); rw [if_pos rfl]; exact oh)
    (by rw [lOb_mem push_new.1, push_new.2.2.2.1, emm, ← ltv]; show H2 q = some (.dK (lmK fl lt.v (if C.n = C.n then lk else _) mm (if C.n = C.n then mh else _))); rw [if_pos rfl, if_pos rfl]; exact oq)
    (fun _ => om) (fun _ => ol)
    (by
      unfold StA
      rw [push_new.1, push_new.2.2.1, push_new.2.2.2.1]
      exact ⟨sub _ _ hfl, hFl.same sub, hns1, hns2, hmm.1⟩)
end
end K17

set_option Elab.async false
set_option linter.all false
set_option maxRecDepth 100000
set_option maxHeartbeats 4000000
/-! len of an instance, by its own __len__ -/
namespace RLn
open PySem PySem.Spec PyProof.Rows L2 RC
def rLenOwn (C : Addr) (sp : Sp) : List V → Hp → VK → Prop := fun xs H Q => ∃ (p dx : Addr) (fs : List (Str × V)), xs = [.ref p] ∧ H p = some (.ins C dx fs) ∧ sp [.ref p] H (fun v H' => ∃ n : Nat, v = .int (n : Nat) ∧ n ≤ 1000000 ∧ Q (.int (n : Nat)) H') E0
theorem call_lenOwn {X : Cx} {C f : Addr} {k : Nat} {sp : Sp} {ps : List Str} (c : Callable X.prog X.w X.K X.mg X.base k f ps [] sp) (m : Meth X.K C "__len__" f) (hr : Room (k + 1) X.A) : CallR X (.builtin "len") (rLenOwn C sp) := by
  intro pins s σ H xs us Q I r h
  obtain ⟨p, dx, fs, rfl, hp, hsp⟩ := h
  cases r with
  | cons r1 r2 =>
    cases r2
    cases r1
    obtain ⟨mA, J, _⟩ := ins_get I.hok hp
    obtain ⟨od, J, _⟩ := J.look
    obtain ⟨mm, hF⟩ := I.fr
    obtain ⟨fd, ds, F, hd, hb, hk⟩ := c
    cases hd
    refine PySem.W.len_K hF I.ok.mod.kin J m.at_ m.fn ?_
    have e0 : Env0 X.prog X.w X.K X.mg X.base X.A.in1 X.stack s H := by
      have e := I.env0
      exact ⟨e.frames, e.mod, e.bs, e.bsz, e.funs, e.frf, e.hok, e.bare⟩
    have hl := F.len _ _ _ _ hsp
    have rr : Vals [V.ref p] [Value.ref p] := .cons rfl .nil
    refine wpAny_call (codeAny_mono (F.run X.A.in1 X.stack s H ⟨[.ref p], []⟩ [.ref p] [.ref p] _ E0 hr.in1 e0 (by
      have := hb s [.ref p] I.kIn (by simpa using hl)
      simpa using this) rr hsp) fun r s' hq => ?_)
    cases r with
    | error e => exact pass0 pins σ H s e s' I hq
    | ok fl =>
      cases fl with
      | ret w =>
        obtain ⟨z, H', I', rz, n, ez, hn, q⟩ := I.after hq
        subst ez
        obtain ⟨tk, rfl⟩ := rz
        exact ⟨⟨by omega, by omega⟩, .int (n : Nat), H', I'.tok _, ⟨_, rfl⟩, q⟩
      | next => exact False.elim hq
      | brk => exact False.elim hq
      | cont => exact False.elim hq
end RLn

set_option Elab.async false
set_option linter.all false
set_option maxRecDepth 100000
set_option maxHeartbeats 0

namespace K17
open PySem PySem.Spec PyProof.Rows L2 RC
section
variable {P : Program} {w : World} {K : PySem.W.Frag} {mg : Str → Option Value} {base : Heap}
/-! ### queues -/
abbrev CLs (K : PySem.W.Frag) : Addr := He.ga K "QueueListener"
def spQInit (K : PySem.W.Frag) : Sp := fun vs H Q _ => ∃ (p dx : Addr), vs = [.ref p] ∧ H p = some (.ins (CQ K) dx []) ∧ ∀ l, H l = none → Q .non (upd (upd H l (.lst [])) p (.ins (CQ K) dx [("waiting", .ref l)]))
theorem ok_qinit {f : Addr} (T : Txt P w K mg) (F : Stands K "__init__" "Queue.__init__" s_Queue_init [] f) : Callable P w K mg base 1 f ["self"] [] (spQInit K) := by
  refine F.call0 sc_Queue_init (fun vs H Q E h => ?_) (fun cdv A outer s0 H vs Q E hr h => ?_) (fun _ _ _ _ _ _ us hl => match us, hl with | [_], _ => rfl)
  · obtain ⟨p, dx, rfl, _⟩ := h; rfl
  obtain ⟨p, dx, rfl, hp, hQ⟩ := h
  refine ⟨_, (pss_one (ps_fld (pv 0) (pe_lst pa_nil) rfl)), ?_⟩
  walk_at "in"
  walk_at "go"
  intro l fl
  walk_at "go"
  exact hQ l fl
def spQLen (K : PySem.W.Frag) : Sp := fun vs H Q _ => ∃ (p dx wq : Addr) (xs : List V), vs = [.ref p] ∧ H p = some (.ins (CQ K) dx [("waiting", .ref wq)]) ∧ H wq = some (.lst xs) ∧ Q (.int (xs.length : Nat)) H
theorem ok_qlen {f : Addr} (T : Txt P w K mg) (F : Stands K "__len__" "Queue.__len__" s_Queue___len__ [] f) : Callable P w K mg base 1 f ["self"] [] (spQLen K) := by
  refine F.call0 sc_Queue___len__ (fun vs H Q E h => ?_) (fun cdv A outer s0 H vs Q E hr h => ?_) (fun _ _ _ _ _ _ us hl => match us, hl with | [_], _ => rfl)
  · obtain ⟨p, dx, wq, xs, rfl, _⟩ := h; rfl
  obtain ⟨p, dx, wq, xs, rfl, hp, hw, hQ⟩ := h
  refine ⟨_, (pss_one (ps_ret (pe_callB call_len (by rfl) T.b_len (by decide +kernel) (pa_cons (pe_fld (pv 0) rfl) pa_nil)))), ?_⟩
  walk_at "in"
  walk_at "go"
  exact hQ
def spQPut (K : PySem.W.Frag) : Sp := fun vs H Q _ => ∃ (p dx wq : Addr) (xs : List V) (v : V), vs = [.ref p, v] ∧ H p = some (.ins (CQ K) dx [("waiting", .ref wq)]) ∧ H wq = some (.lst xs) ∧ xs.length ≤ 1000 ∧ Q .non (upd H wq (.lst (xs ++ [v])))
theorem ok_qput {f : Addr} (T : Txt P w K mg) (F : Stands K "put" "Queue.put" s_Queue_put [] f) : Callable P w K mg base 1 f ["self", "record"] [] (spQPut K) := by
  refine F.call0 sc_Queue_put (fun vs H Q E h => ?_) (fun cdv A outer s0 H vs Q E hr h => ?_) (fun _ _ _ _ _ _ us hl => match us, hl with | [_, _], _ => rfl)
  · obtain ⟨p, dx, wq, xs, v, rfl, _⟩ := h; rfl
  obtain ⟨p, dx, wq, xs, v, rfl, hp, hw, hx, hQ⟩ := h
  refine ⟨_, (pss_one (ps_expr (pe_bm PySem.F.plainAttrs_list PySem.F.slot_list_append PySem.F.type_list_append mt_append (pe_fld (pv 0) rfl) (pa_cons (pv 1) pa_nil)))), ?_⟩
  walk_at "in"
  have hll : xs.length < sizeLine := by rw [sizeLine_eq]; omega
  walk_at "go"
  exact hQ
def spQGet (K : PySem.W.Frag) : Sp := fun vs H Q _ => ∃ (p dx wq : Addr) (x : V) (xs : List V), vs = [.ref p] ∧ H p = some (.ins (CQ K) dx [("waiting", .ref wq)]) ∧ H wq = some (.lst (x :: xs)) ∧ Q x (upd H wq (.lst xs))
theorem ok_qget {f : Addr} (T : Txt P w K mg) (F : Stands K "get" "Queue.get" s_Queue_get [] f) : Callable P w K mg base 1 f ["self"] [] (spQGet K) := by
  refine F.call0 sc_Queue_get (fun vs H Q E h => ?_) (fun cdv A outer s0 H vs Q E hr h => ?_) (fun _ _ _ _ _ _ us hl => match us, hl with | [_], _ => rfl)
  · obtain ⟨p, dx, wq, x, xs, rfl, _⟩ := h; rfl
  obtain ⟨p, dx, wq, x, xs, rfl, hp, hw, hQ⟩ := h
  refine ⟨_, (pss_one (ps_ret (pe_ifExp (pt_cmpR op_gt (pe_callB call_len (by rfl) T.b_len (by decide +kernel) (pa_cons (pe_fld (pv 0) rfl) pa_nil)) pe_int (nomark _)) (pe_bm PySem.F.plainAttrs_list PySem.F.slot_list_pop PySem.F.type_list_pop mt_popAt (pe_fld (pv 0) rfl) (pa_cons pe_int pa_nil)) pe_non))), ?_⟩
  walk_at "in"
  have tp : decide (((x :: xs).length : Nat) > (0 : Int)) = true := decide_eq_true (by rw [List.length_cons]; omega)
  have hsi : seqIndex? 0 (x :: xs).length = some 0 := by unfold seqIndex?; simp
  walk_at "go"
  exact hQ
def lsF (qp hl : Addr) (rs : Bool) : List (Str × V) := [("queue", .ref qp), ("handler_list", .ref hl), ("respects", .bl rs)]
def spLsInit (K : PySem.W.Frag) : Sp := fun vs H Q _ => ∃ (p dx qp a : Addr) (rs : Bool) (xs : List V), vs = [.ref p, .ref qp, .ref a, .bl rs] ∧ H p = some (.ins (CLs K) dx []) ∧ (H a = some (.lst xs) ∨ H a = some (.tup xs)) ∧ ∀ (H' : Hp) (hl : Addr), (∀ b o, b ≠ p → H b = some o → H' b = some o) → H hl = none → hl ≠ p → H' hl = some (.lst xs) → H' p = some (.ins (CLs K) dx (lsF qp hl rs)) → Q .non H'
theorem ok_lsinit {f : Addr} (T : Txt P w K mg) (F : Stands K "__init__" "QueueListener.__init__" s_QueueListener_init [.bl false] f) : Callable P w K mg base 1 f ["self", "queue", "handlers", "respect_handler_level"] [] (spLsInit K) := by
  refine F.call sc_QueueListener_init 4 1 (fun vs H Q E h => ?_) (fun cdv A outer s0 H vs Q E hr h => ?_) (fun z => nomatch z) fun _ => ⟨rfl, fun _ _ _ _ _ _ _ us its hl hi => match us, hl, its, hi with | [_, _, _, _], _, [_], _ => ⟨_, rfl, rfl⟩⟩
  · obtain ⟨p, dx, qp, a, rs, xs, rfl, _⟩ := h; rfl
  obtain ⟨p, dx, qp, a, rs, xs, rfl, hp, ha, hQ⟩ := h
  refine ⟨_, (pss_cons (ps_fld (pv 0) (pv 1) rfl)
      (pss_cons (ps_fld (pv 0) (pe_callTy call_list_of (by rfl) T.b_list (by decide +kernel) (pa_cons (pv 2) pa_nil)) rfl)
      (pss_one (ps_fld (pv 0) (pv 3) rfl)))), ?_⟩
  walk_at "in"
  have nap : a ≠ p := fun z => by rw [z, hp] at ha; rcases ha with h | h <;> cases h
  refine seq_of (fun σ' H' => σ' = L2.start nm_QueueListener_init [.ref p, .ref qp, .ref a, .bl rs] ∧ H' = upd H p (.ins (CLs K) dx [("queue", .ref qp)])) (fun b' kb => ?_) (fun σ' H' hm => ?_)
  · walk_at "go"
    exact kb _ _ ⟨rfl, rfl⟩
  obtain ⟨rfl, rfl⟩ := hm
  have ha1 : upd H p (.ins (CLs K) dx [("queue", .ref qp)]) a = some (.lst xs) ∨ upd H p (.ins (CLs K) dx [("queue", .ref qp)]) a = some (.tup xs) := by rw [upd_ne nap]; exact ha
  have hp1 := upd_same (H := H) (a := p) (o := .ins (CLs K) dx [("queue", .ref qp)])
  have bk : ∀ b, upd H p (.ins (CLs K) dx [("queue", .ref qp)]) b = none → H b = none ∧ b ≠ p := fun b e => ⟨(upd_none e).2, (upd_none e).1⟩
  have kp : ∀ b o, b ≠ p → H b = some o → upd H p (.ins (CLs K) dx [("queue", .ref qp)]) b = some o := fun b o n e => by rw [upd_ne n]; exact e
  generalize upd H p (.ins (CLs K) dx [("queue", .ref qp)]) = H1 at ha1 hp1 bk kp ⊢
  refine ⟨_, rfl, a, xs, rfl, ha1.imp SqL.of SqT.of, fun hl fh => ?_⟩
  obtain ⟨f1, f2⟩ := bk hl fh
  walk_at "go"
  refine hQ _ hl (fun b o n e => ?_) f1 f2 ?_ ?_
  · rw [upd_ne n, upd_ne n, upd_ne (ne_of_none (kp b o n e) fh)]; exact kp b o n e
  · rw [upd_ne f2, upd_ne f2]; exact upd_same
  · exact upd_same
end
end K17

set_option Elab.async false
set_option linter.all false
set_option maxRecDepth 100000
set_option maxHeartbeats 0

namespace K17
open PySem PySem.Spec PyProof.Rows L2 RC
section
variable {P : Program} {w : World} {K : PySem.W.Frag} {mg : Str → Option Value} {base : Heap}
/-! ### listeners at work -/
/-- a listener that stays -/
structure LsA (K : PySem.W.Frag) (C : Cfg) (ad : Ro → Addr) (G : Hp) (lp qp : Addr) (rs : Bool) (row : List Nat) : Prop where
  ls : ∃ dl hl, G lp = some (.ins (CLs K) dl (lsF qp hl rs)) ∧ G hl = some (.lst (row.map fun i => V.ref (ad (.h i))))
  rw_ : ∀ i ∈ row, i < C.n
  ln : row.length ≤ 4
theorem foldl_take {α β : Type} {f : β → α → β} {xs : List α} {b : β} {t : Nat} {x : α} (h : xs[t]? = some x) : (xs.take (t + 1)).foldl f b = f ((xs.take t).foldl f b) x := by rw [take_more h, List.foldl_append]; rfl
structure LdI (K : PySem.W.Frag) (C : Cfg) (ad : Ro → Addr) (n : Nat) (U L : AS) (G : Hp) (b : Nat) (rs : Bool) (row : List Nat) (k : Kp) (lp : Addr) (t : Nat) (σ : L2.St) (H' : Hp) : Prop where
  w : ∃ ad', Wd K C ad' n (ldA C.kd b rs (row.take t) k U) L G H' ∧ AdP C.n ad ad'
  σ : ∃ a, σ = [some (.ref lp), some (.ref k.r), a]
def spLead (b : Nat) (K : PySem.W.Frag) : Sp := fun vs H Q _ => ∃ (C : Cfg) (ad : Ro → Addr) (n : Nat) (U L : AS) (G : Hp) (k : Kp) (lp qp : Addr) (rs : Bool) (row : List Nat), vs = [.ref lp, .ref k.r] ∧ Wd K C ad n U L G H ∧ LsA K C ad G lp qp rs row ∧ C.n ≤ b ∧ DOk sa sb C.kd C.n ∧ SO K G U ∧ KpAt K G k ∧ U.tt C.n + row.length ≤ 80 ∧
  ∀ (H' : Hp) (ad' : Ro → Addr), Wd K C ad' n (ldA C.kd b rs row k U) L G H' → AdP C.n ad ad' → Q .non H'
theorem ok_lead (b : Nat) {f : Addr} (T : Txt P w K mg) (F : Stands K "lead" "QueueListener.lead" s_QueueListener_lead [] f) (c_StreamHandler_handle : Callable P w K mg base 12 (He.ma K (He.ga K "StreamHandler") "handle") ["self", "record"] [] (spHandleS K)) {S1 : Sp} (e1 : S1 = spHandleMB b K)
    (c_MemoryHandler_handle : Callable P w K mg base (3 * b + 12) (He.ma K (He.ga K "MemoryHandler") "handle") ["self", "record"] [] S1) : Callable P w K mg base (3 * b + 13) f ["self", "record"] [] (spLead b K) := by
  refine F.call0 sc_QueueListener_lead (fun vs H Q E h => ?_) (fun cdv A outer s0 H vs Q E hr h => ?_) (fun _ _ _ _ _ _ us hl => match us, hl with | [_, _], _ => rfl)
  · obtain ⟨C, ad, n, U, L, G, k, lp, qp, rs, row, rfl, _⟩ := h; rfl
  obtain ⟨C, ad, n, U, L, G, k, lp, qp, rs, row, rfl, w0, A0, hCb, hD, hU, hkA, ht, hQ⟩ := h
  obtain ⟨⟨dl, hl, g1, g2⟩, hrow, hln⟩ := A0
  refine ⟨_, (pss_one (ps_for PassesOwn.never rfl (pi_list (pe_fld (pv 0) rfl)) (pg_name (i := 2) sc_QueueListener_lead.nd rfl (by first | exact Or.inl rfl | exact Or.inr rfl)) (pss_one (ps_if (PW.pt (pw_or (pt_not (pt_val (pe_fld (pv 0) rfl))) (pw_or1 (pt_cmpR op_le (pe_fld (pv 2) rfl) (pe_fld (pv 1) rfl) (nomark _))))) (pss_one (ps_expr (RA.PE.or (pe_mt T.c_StreamHandler T.m_StreamHandler_handle c_StreamHandler_handle (hr.mono (by first | decide | exact Nat.le_refl _ | omega)) (pv 2) (pa_cons (pv 1) pa_nil)) (pe_mt T.c_MemoryHandler T.m_MemoryHandler_handle c_MemoryHandler_handle (hr.mono (by first | decide | exact Nat.le_refl _ | omega)) (pv 2) (pa_cons (pv 1) pa_nil))))) pss_nil)))), ?_⟩
  walk_at "in"
  have hlp := w0.pl.sm _ _ g1
  have hhl := w0.pl.sm _ _ g2
  have hL1 : ∀ k, KpAt K G k → LRc k.d := fun k h => h.2.2
  walk_at "go"
  refine for_it (walk_list (xs := row.map fun i => V.ref (ad (.h i)))) (LdI K C ad n U L G b rs row k lp) ⟨⟨ad, w0, AdP.refl⟩, _, rfl⟩ (fun t σ H' _ hp => ?_) (fun t x σ H0 H1 ht1 hP hy => ?_) (fun σ H1 hP => ?_)
  · obtain ⟨ad', w1, a1⟩ := hp.w
    exact SqL.of (w1.pl.sm _ _ g2)
  · obtain ⟨rfl, hy⟩ := hy
    obtain ⟨⟨ad', w1, a1⟩, a, rfl⟩ := hP
    rw [List.getElem?_map] at hy
    obtain ⟨i, hi, rfl⟩ := Option.map_eq_some_iff.mp hy
    have him := List.mem_of_getElem? hi
    have hin := hrow i him
    have lt1 : (row.take t).length = t := by
      rw [List.length_take]
      exact Nat.min_eq_left (Nat.le_of_lt (List.getElem?_eq_some_iff.mp hi).1)
    have lt2 : t < row.length := (List.getElem?_eq_some_iff.mp hi).1
    have F1 := ldA_ok (a := sa) (b := sb) hD hL1 (c := b) (rs := rs) hkA (row.take t) U (fun i h => hrow i (List.mem_of_mem_take h)) hU
    have tt2 : (ldA C.kd b rs (row.take t) k U).tt (i + 1) + 1 ≤ 80 := by
      have h1 := F1.tt
      have h2 := tt_le (s := ldA C.kd b rs (row.take t) k U) (show i + 1 ≤ C.n from hin)
      omega
    have next : ∀ (H2 : Hp) (a2 : Option V) (ad2 : Ro → Addr), Wd K C ad2 n (l1A C.kd b rs k i (ldA C.kd b rs (row.take t) k U)) L G H2 → AdP C.n ad' ad2 → LdI K C ad n U L G b rs row k lp (t + 1) [some (.ref lp), some (.ref k.r), a2] H2 := fun H2 a2 ad2 w2 a2' => ⟨⟨ad2, by unfold ldA at w2 ⊢; rw [foldl_take hi]; exact w2, a1.trans a2' (Nat.le_refl _)⟩, a2, rfl⟩
    have hU1 := F1.ok
    generalize ldA C.kd b rs (row.take t) k U = U1 at w1 tt2 next hU1
    clear F1
    have hR1 : RcAt K H1 k.r k.d := RecAt.same hkA.1 w1.pl.sm
    obtain ⟨dx, g, e, hr1, hg, he⟩ := id hR1
    have hlp1 := w1.pl.sm _ _ g1
    unfold l1A at next
    have wrs : ∀ x, C.kd i = .wr x → okL rs (U1.hs i).lv k = true → LdI K C ad n U L G b rs row k lp (t + 1) [some (.ref lp), some (.ref k.r), some (.ref (ad (.h i)))] H1 → True := fun _ _ _ _ => trivial
    cases ei : C.kd i with
    | wr x =>
      have hW1 := w1.wrAt hin ei
      have hh1 := w1.obW hin ei
      rw [a1.h i] at hW1 hh1
      have hok := hkA.2.2.ok
      have ho1 : HfO k.d (x.wr (U1.hs i).lv).fo (x.f.out k.d) := x.f.out_ok hkA.2.2
      obtain ⟨hfit, hfl1⟩ := hU1.fits (by have := w_le U1 (i + 1); omega) (x.f.out_len hkA.2.2) (wr := x.wr (U1.hs i).lv) (by show (Str.ofString "\n").length ≤ 100; decide +kernel)
      have hY1 := w1.ys
      have fin : okL rs (U1.hs i).lv k = true → ∀ H2, Chg [ad' .st, ad' .fr] H1 H2 → YSt K H2 C.y (ad' .st) (ad' .fr) (handO (lets (x.wr (U1.hs i).lv).ns k.d.name) (x.f.out k.d) (x.wr (U1.hs i).lv) k.d.name U1.ts U1.fl).1 (handO (lets (x.wr (U1.hs i).lv).ns k.d.name) (x.f.out k.d) (x.wr (U1.hs i).lv) k.d.name U1.ts U1.fl).2 → LdI K C ad n U L G b rs row k lp (t + 1) [some (.ref lp), some (.ref k.r), some (.ref (ad (.h i)))] H2 := fun eo H2 c2 hY2 => by
        obtain ⟨q1, q2, q3, q4⟩ := handO_ts (x := x) (c := (U1.hs i).lv) (o := x.f.out k.d) (nm := k.d.name) (s := U1)
        refine next H2 _ ad' ?_ AdP.refl
        rw [if_pos eo, hA_wr (show i < b by omega) ei]
        refine w1.wrP c2 ?_ q3 q4
        rw [← q1, ← q2]; exact hY2
      cases rs with
      | false =>
        walk_at "go"
        refine Or.inl ?_
        walk_at "go"
        intro H2 c2 hY2
        walk_at "go"
        exact fin rfl H2 c2 hY2
      | true =>
        cases el : decide ((U1.hs i).lv ≤ k.d.lv) with
        | true =>
          walk_at "go"
          refine Or.inl ?_
          walk_at "go"
          intro H2 c2 hY2
          walk_at "go"
          exact fin el H2 c2 hY2
        | false =>
          have eo : okL true (U1.hs i).lv k = false := el
          rw [eo, if_neg (fun z => nomatch z)] at next
          walk_at "go"
          exact next H1 _ ad' w1 AdP.refl
    | mem md =>
      have hh1 := w1.obM hin ei
      rw [a1.h i] at hh1
      have call : okL rs (U1.hs i).lv k = true → spHandleMB b K [.ref (ad (.h i)), .ref k.r] H1 (fun v H2 => LdI K C ad n U L G b rs row k lp (t + 1) [some (.ref lp), some (.ref k.r), some (.ref (ad (.h i)))] H2) E0 := fun eo => ⟨C, ad', n, i, U1, L, G, md, k, by rw [a1.h i], w1, hin, by omega, ei, hD, hU1, hkA, tt2, fun H2 ad2 w2 a2 => next H2 _ ad2 (by rw [if_pos eo]; exact w2) (a2.trans (AdP.refl (i := C.n)) (Nat.le_of_lt hin))⟩
      cases rs with
      | false =>
        walk_at "go"
        refine Or.inr ?_
        walk_at "go"
        rw [e1]
        obtain ⟨C', ad'', n', i', U', L', G', md', k', e, w', b1, b2, b3, b4, b5, b6, b7, hq⟩ := call rfl
        exact ⟨C', ad'', n', i', U', L', G', md', k', e, w', b1, b2, b3, b4, b5, b6, b7, hq⟩
      | true =>
        cases el : decide ((U1.hs i).lv ≤ k.d.lv) with
        | true =>
          have el2 : decide ((md.clo (U1.hs i).lv).lv ≤ k.d.lv) = true := el
          walk_at "go"
          refine Or.inr ?_
          walk_at "go"
          rw [e1]
          obtain ⟨C', ad'', n', i', U', L', G', md', k', e, w', b1, b2, b3, b4, b5, b6, b7, hq⟩ := call el
          exact ⟨C', ad'', n', i', U', L', G', md', k', e, w', b1, b2, b3, b4, b5, b6, b7, hq⟩
        | false =>
          have el2 : decide ((md.clo (U1.hs i).lv).lv ≤ k.d.lv) = false := el
          have eo : okL true (U1.hs i).lv k = false := el
          rw [eo, if_neg (fun z => nomatch z)] at next
          walk_at "go"
          exact next H1 _ ad' w1 AdP.refl
  · obtain ⟨⟨ad', w1, a1⟩, a, rfl⟩ := hP
    rw [List.length_map, List.take_length] at w1
    exact hQ H1 ad' w1 a1
end
end K17

set_option Elab.async false
set_option linter.all false
set_option maxRecDepth 100000
set_option maxHeartbeats 0

namespace K17
open PySem PySem.Spec PyProof.Rows L2 RC
section
variable {P : Program} {w : World} {K : PySem.W.Frag} {mg : Str → Option Value} {base : Heap}
/-! ### listeners run -/
def mV : Option Nat → V
  | none => .non
  | some m => .int (m : Nat)
def dueN : Option Nat → Nat → Nat
  | none, l => l
  | some m, l => min m l
def spRun (b : Nat) (K : PySem.W.Frag) : Sp := fun vs H Q _ => ∃ (C : Cfg) (ad : Ro → Addr) (n : Nat) (U L : AS) (G : Hp) (lp qp dq : Addr) (rs : Bool) (row : List Nat) (many : Option Nat), vs = [.ref lp, mV many] ∧ Wd K C ad n U L G H ∧ LsA K C ad G lp qp rs row ∧ G qp = some (.ins (CQ K) dq [("waiting", .ref (ad .wq))]) ∧ C.n ≤ b ∧ DOk sa sb C.kd C.n ∧ SO K G U ∧ U.tt C.n + row.length * U.wt.length ≤ 80 ∧ U.wt.length ≤ 100 ∧
  ∀ (H' : Hp) (ad' : Ro → Addr), Wd K C ad' n ((rnA C.kd b rs row (U.wt.take (dueN many U.wt.length)) U).wts (U.wt.drop (dueN many U.wt.length))) L G H' → AdP C.n ad ad' → Q (.int (dueN many U.wt.length : Nat)) H'
theorem dueN_le (many : Option Nat) (l : Nat) : dueN many l ≤ l := by
  cases many with
  | none => exact Nat.le_refl _
  | some m => exact Nat.min_le_right _ _
theorem LsA.ad {C : Cfg} {ad ad' : Ro → Addr} {G : Hp} {lp qp : Addr} {rs : Bool} {row : List Nat} (h : LsA K C ad G lp qp rs row) (e : ∀ j, ad' (.h j) = ad (.h j)) : LsA K C ad' G lp qp rs row := by
  obtain ⟨⟨dl, hl, g1, g2⟩, h2, h3⟩ := h
  exact ⟨⟨dl, hl, g1, by rw [g2]; congr 2; exact List.map_congr_left fun i _ => by rw [e i]⟩, h2, h3⟩
structure RnI (K : PySem.W.Frag) (C : Cfg) (ad : Ro → Addr) (n : Nat) (U L : AS) (G : Hp) (b : Nat) (rs : Bool) (row : List Nat) (lp : Addr) (many : Option Nat) (due : Nat) (m : Nat) (σ : L2.St) (H' : Hp) : Prop where
  w : ∃ t ad', t ≤ due ∧ m = due - t ∧ σ = [some (.ref lp), some (mV many), some (.int (t : Nat))] ∧ Wd K C ad' n ((rnA C.kd b rs row (U.wt.take t) U).wts (U.wt.drop t)) L G H' ∧ AdP C.n ad ad'
theorem ok_run (b : Nat) {f : Addr} (T : Txt P w K mg) (F : Stands K "run" "QueueListener.run" s_QueueListener_run [.non] f) {S1 : Sp} (e1 : S1 = spLead b K) (c_QueueListener_lead : Callable P w K mg base (3 * b + 13) (He.ma K (He.ga K "QueueListener") "lead") ["self", "record"] [] S1)
    (c_Queue___len__ : Callable P w K mg base 1 (He.ma K (He.ga K "Queue") "__len__") ["self"] [] (spQLen K)) (c_Queue_get : Callable P w K mg base 1 (He.ma K (He.ga K "Queue") "get") ["self"] [] (spQGet K)) :
    Callable P w K mg base (3 * b + 14) f ["self", "many"] [] (spRun b K) ∧ Callable P w K mg base (3 * b + 14) f ["self", "many"] [.non] (spRun b K) := by
  have body : ∀ (cdv : Value) (A : Around) (outer : List Env) (s : Shared) (H : Hp) (vs : List V) (Q : VK) (E : XK), Room (3 * b + 13) (A.deeper (envOfC "QueueListener.run" (defScope s_QueueListener_run) s.heap.objs.size f cdv)) → spRun b K vs H Q E →
      ∃ t, PSs (cxOf CX0 P w K mg base nm_QueueListener_run "QueueListener.run" (defScope s_QueueListener_run) f cdv A outer s H E).nox (defBody s_QueueListener_run) t ∧ t { nx := fun _ H' => Q .non H', rt := Q } (start nm_QueueListener_run vs) H := fun cdv A outer s H vs Q E hr h => by
    obtain ⟨C, ad, n, U, L, G, lp, qp, dq, rs, row, many, rfl, w0, A0, hqp, hCb, hD, hU, ht, hl, hQ⟩ := h
    refine ⟨_, (pss_cons (ps_set (i := 2) sc_QueueListener_run.nd rfl (by first | exact Or.inl rfl | exact Or.inr rfl) pe_int)
      (pss_cons (ps_while PassesOwn.never (PW.pt (pw_and (pt_cmpR op_gt (pe_callB (RLn.call_lenOwn c_Queue___len__ T.m_Queue___len__ (hr.mono (by first | decide | exact Nat.le_refl _ | omega))) (by rfl) T.b_len (by decide +kernel) (pa_cons (pe_fld (pv 0) rfl) pa_nil)) pe_int (nomark _)) (pw_and1 (PW.pt (pw_or (pt_cmpR op_isN (pv 1) pe_non (nomark _)) (pw_or1 (pt_cmpR op_lt (pv 2) (pv 1) (nomark _)))))))) (pss_cons (ps_expr (pe_mt T.c_QueueListener T.m_QueueListener_lead c_QueueListener_lead (hr.mono (by first | decide | exact Nat.le_refl _ | omega)) (pv 0) (pa_cons (pe_mt0 T.c_Queue T.m_Queue_get c_Queue_get (hr.mono (by first | decide | exact Nat.le_refl _ | omega)) (pe_fld (pv 0) rfl)) pa_nil)))
      (pss_one (ps_aug (i := 2) sc_QueueListener_run.nd rfl (by first | exact Or.inl rfl | exact Or.inr rfl) pe_int ip_add))))
      (pss_one (ps_ret (pv 2))))), ?_⟩
    walk_at "in"
    have hL1 : ∀ k, KpAt K G k → LRc k.d := fun k h => h.2.2
    obtain ⟨⟨dl, hl1, g1, g2⟩, hrow, hln⟩ := id A0
    have hdl := dueN_le many U.wt.length
    walk_at "go"
    refine ⟨RnI K C ad n U L G b rs row lp many (dueN many U.wt.length), ⟨_, ⟨0, ad, Nat.zero_le _, rfl, rfl, by rw [List.take_zero, List.drop_zero]; exact w0, AdP.refl⟩⟩, ?_⟩
    rintro m σ H1 ⟨t, ad', htd, rfl, rfl, w1, a1⟩
    have hlp1 := w1.pl.sm _ _ g1
    have hqp1 := w1.pl.sm _ _ hqp
    have hwq := w1.wq
    rw [a1.bs.2.2.1] at hwq
    have F1 := rnA_ok (a := sa) (b := sb) hD hL1 (c := b) (rs := rs) hrow (U.wt.take t) U (fun k hk => hU.wk k (List.mem_of_mem_take hk)) hU
    have ltk : (U.wt.take t).length = t := by rw [List.length_take]; exact Nat.min_eq_left (by omega)
    have ekr : (kR (((rnA C.kd b rs row (U.wt.take t) U).wts (U.wt.drop t)).wt)).length = U.wt.length - t := by
      show (kR (U.wt.drop t)).length = _
      unfold kR; rw [List.length_map, List.length_drop]
    have hlen : (kR (((rnA C.kd b rs row (U.wt.take t) U).wts (U.wt.drop t)).wt)).length ≤ 1000000 := by rw [ekr]; omega
    by_cases c : t < dueN many U.wt.length
    · have lt2 : t < U.wt.length := by omega
      obtain ⟨k, hk⟩ : ∃ k, U.wt[t]? = some k := ⟨_, List.getElem?_eq_getElem lt2⟩
      have hkA := hU.wk k (List.mem_of_getElem? hk)
      have edr : U.wt.drop t = k :: U.wt.drop (t + 1) := by
        rw [List.drop_eq_getElem_cons lt2]
        congr 1
        exact Option.some.inj ((List.getElem?_eq_getElem lt2).symm.trans hk)
      have ekc : kR (((rnA C.kd b rs row (U.wt.take t) U).wts (U.wt.drop t)).wt) = V.ref k.r :: kR (U.wt.drop (t + 1)) := by
        show kR (U.wt.drop t) = _
        rw [edr]; rfl
      rw [ekc] at hwq hlen
      have pos : decide ((0 : Int) < ((V.ref k.r :: kR (U.wt.drop (t + 1))).length : Nat)) = true := decide_eq_true (by rw [List.length_cons]; omega)
      have w2 := w1.seW (U.wt.drop (t + 1))
      rw [a1.bs.2.2.1] at w2
      have hU1 : SO K G (((rnA C.kd b rs row (U.wt.take t) U).wts (U.wt.drop t)).wts (U.wt.drop (t + 1))) := F1.ok.wts fun k hk => hU.wk k (List.mem_of_mem_drop hk)
      have tt1 : (((rnA C.kd b rs row (U.wt.take t) U).wts (U.wt.drop t)).wts (U.wt.drop (t + 1))).tt C.n + row.length ≤ 80 := by
        have h1 := F1.tt
        rw [ltk] at h1
        have h2 : row.length * (t + 1) ≤ row.length * U.wt.length := Nat.mul_le_mul_left _ lt2
        rw [Nat.mul_succ] at h2
        show (rnA C.kd b rs row (U.wt.take t) U).tt C.n + row.length ≤ 80
        omega
      have est : ldA C.kd b rs row k (((rnA C.kd b rs row (U.wt.take t) U).wts (U.wt.drop t)).wts (U.wt.drop (t + 1))) = (rnA C.kd b rs row (U.wt.take (t + 1)) U).wts (U.wt.drop (t + 1)) := by
        show ldA C.kd b rs row k ((rnA C.kd b rs row (U.wt.take t) U).wts (U.wt.drop (t + 1))) = _
        rw [ldA_wts]
        congr 1
        unfold rnA
        rw [foldl_take hk]
      have ccal : spLead b K [.ref lp, .ref k.r] (upd H1 (ad .wq) (.lst (kR (U.wt.drop (t + 1))))) (fun v H2 => ∃ m', m' < dueN many U.wt.length - t ∧ RnI K C ad n U L G b rs row lp many (dueN many U.wt.length) m' [some (.ref lp), some (mV many), some (.int ((t : Nat) + 1))] H2) E0 := ⟨C, ad', n, _, L, G, k, lp, qp, rs, row, rfl, w2, A0.ad a1.h, hCb, hD, hU1, hkA, tt1, fun H2 ad2 w3 a3 => ⟨dueN many U.wt.length - (t + 1), by omega, ⟨t + 1, ad2, by omega, rfl, rfl, by rw [est] at w3; exact w3, a1.trans a3 (Nat.le_refl _)⟩⟩⟩
      have obtN : ∃ N : L2.St → Hp → Prop, N = fun σ' H' => ∃ m', m' < dueN many U.wt.length - t ∧ RnI K C ad n U L G b rs row lp many (dueN many U.wt.length) m' σ' H' := ⟨_, rfl⟩
      obtain ⟨N, hN⟩ := obtN
      cases many with
      | none =>
        have tn : decide (mV none = V.non) = true := rfl
        walk_at "go"
        refine ⟨N, fun σ' H' h => by rw [hN] at h; exact h, ?_⟩
        walk_at "go"
        rw [e1]
        obtain ⟨C', ad'', n', U', L', G', k', lp', qp', rs', row', e, w', b1, b2, b3, b4, b5, b6, hq⟩ := ccal
        refine ⟨C', ad'', n', U', L', G', k', lp', qp', rs', row', e, w', b1, b2, b3, b4, b5, b6, fun H2 ad2 w3 a3 => ?_⟩
        have h9 := hq H2 ad2 w3 a3
        walk_at "go"
        rw [hN]; exact h9
      | some m =>
        have tn : decide (mV (some m) = V.non) = false := rfl
        have tm : decide (((t : Nat) : Int) < (m : Nat)) = true := decide_eq_true (by have h1 : t < min m U.wt.length := c; omega)
        walk_at "go"
        refine ⟨N, fun σ' H' h => by rw [hN] at h; exact h, ?_⟩
        walk_at "go"
        rw [e1]
        obtain ⟨C', ad'', n', U', L', G', k', lp', qp', rs', row', e, w', b1, b2, b3, b4, b5, b6, hq⟩ := ccal
        refine ⟨C', ad'', n', U', L', G', k', lp', qp', rs', row', e, w', b1, b2, b3, b4, b5, b6, fun H2 ad2 w3 a3 => ?_⟩
        have h9 := hq H2 ad2 w3 a3
        walk_at "go"
        rw [hN]; exact h9
    · have et : t = dueN many U.wt.length := by omega
      have fin := hQ H1 ad' (by rw [← et]; exact w1) a1
      rw [← et] at fin
      by_cases c2 : t < U.wt.length
      · cases many with
        | none => exact absurd (show t < dueN none U.wt.length from c2) c
        | some m =>
          have hm : ¬ (t < m) := fun z => c (show t < min m U.wt.length by omega)
          have pos : decide ((0 : Int) < ((kR (((rnA C.kd b rs row (U.wt.take t) U).wts (U.wt.drop t)).wt)).length : Nat)) = true := decide_eq_true (by rw [ekr]; omega)
          have tn : decide (mV (some m) = V.non) = false := rfl
          have tm : decide (((t : Nat) : Int) < (m : Nat)) = false := decide_eq_false (by omega)
          walk_at "go"
          exact fin
      · have neg : decide ((0 : Int) < ((kR (((rnA C.kd b rs row (U.wt.take t) U).wts (U.wt.drop t)).wt)).length : Nat)) = false := decide_eq_false (by rw [ekr]; omega)
        walk_at "go"
        exact fin
  have len : ∀ vs H Q E, spRun b K vs H Q E → vs.length = 2 := fun vs H Q E h => by
    obtain ⟨C, ad, n, U, L, G, lp, qp, dq, rs, row, many, rfl, _⟩ := h; rfl
  exact ⟨F.call sc_QueueListener_run 2 1 len body (fun z => nomatch z) fun _ => ⟨rfl, fun _ _ _ _ _ _ _ us its hl hi => match us, hl, its, hi with | [_, _], _, [_], _ => ⟨_, rfl, rfl⟩⟩,
    F.call sc_QueueListener_run 1 0 len body (fun z => nomatch z) fun _ => ⟨rfl, fun _ _ _ _ _ _ _ us its hl hi => match us, hl, its, hi with | [_], _, [_], _ => ⟨_, rfl, rfl⟩⟩⟩
end
end K17

set_option Elab.async false
set_option linter.all false
set_option maxRecDepth 100000
set_option maxHeartbeats 0
namespace K17
open PySem PySem.Spec PyProof.Rows L2 RC
section
variable {P : Program} {w : World} {K : PySem.W.Frag} {mg : Str → Option Value} {base : Heap}
/-! ### a deed -/
/-- listeners, rows, respects, as they stay -/
structure LG (K : PySem.W.Frag) (C : Cfg) (ad : Ro → Addr) (G : Hp) (qp rw ls re : Addr) (rp lp : Nat → Addr) (rows : Nat → List Nat) (rs : Nat → Bool) : Prop where
  q : ∃ dq, G qp = some (.ins (CQ K) dq [("waiting", .ref (ad .wq))])
  rw_ : G rw = some (.lst [.ref (rp 0), .ref (rp 1)])
  ls_ : G ls = some (.lst [.ref (lp 0), .ref (lp 1)])
  re_ : G re = some (.lst [.bl (rs 0), .bl (rs 1)])
  r : ∀ j, j < 2 → G (rp j) = some (.lst ((rows j).map fun i => V.int (i : Nat)))
  l : ∀ j, j < 2 → LsA K C ad G (lp j) qp (rs j) (rows j)
theorem LsA.same {C : Cfg} {ad : Ro → Addr} {G G' : Hp} {lp qp : Addr} {rs : Bool} {row : List Nat} (s : Same G G') (h : LsA K C ad G lp qp rs row) : LsA K C ad G' lp qp rs row := by
  obtain ⟨⟨dl, hl, g1, g2⟩, h2, h3⟩ := h
  exact ⟨⟨dl, hl, s _ _ g1, s _ _ g2⟩, h2, h3⟩
theorem LG.same {C : Cfg} {ad : Ro → Addr} {G G' : Hp} {qp rw ls re : Addr} {rp lp : Nat → Addr} {rows : Nat → List Nat} {rs : Nat → Bool} (s : Same G G') (h : LG K C ad G qp rw ls re rp lp rows rs) : LG K C ad G' qp rw ls re rp lp rows rs := by
  obtain ⟨⟨dq, h1⟩, h2, h3, h4, h5, h6⟩ := h
  exact ⟨⟨dq, s _ _ h1⟩, s _ _ h2, s _ _ h3, s _ _ h4, fun j hj => s _ _ (h5 j hj), fun j hj => (h6 j hj).same s⟩
theorem LG.ad {C : Cfg} {ad ad' : Ro → Addr} {G : Hp} {qp rw ls re : Addr} {rp lp : Nat → Addr} {rows : Nat → List Nat} {rs : Nat → Bool} (h : LG K C ad G qp rw ls re rp lp rows rs) (e : ∀ j, ad' (.h j) = ad (.h j)) (e2 : ad' .wq = ad .wq) : LG K C ad' G qp rw ls re rp lp rows rs := by
  obtain ⟨⟨dq, h1⟩, h2, h3, h4, h5, h6⟩ := h
  exact ⟨⟨dq, by rw [e2]; exact h1⟩, h2, h3, h4, h5, fun j hj => (h6 j hj).ad e⟩
/-- ahead of deed i -/
inductive TI (K : PySem.W.Frag) (s l y m qp rw ls re wl : Addr) (n i : Nat) (H : Hp) : Prop
  | mk (C : Cfg) (ad : Ro → Addr) (z : AS) (rp lp : Nat → Addr) (rows : Nat → List Nat) (rs : Nat → Bool) (w : Wd K C ad n z z (Gs C ad H) H) (h3 : C.n = 3) (es : ad .s = s) (el : ad .l = l) (ey : C.y = y) (em : C.m = m) (ew : ad .wl = wl) (so : SO K (Gs C ad H) z) (tt : z.tt C.n + 4 * z.wt.length ≤ 4 * i) (dk : DOk sa sb C.kd C.n) (lg : LG K C ad (Gs C ad H) qp rw ls re rp lp rows rs)
abbrev sD (sc s : Addr) (o2 : Option V) (y m qp rw ls re wl : Addr) (o7 o11 o12 o13 o14 o15 o16 o17 o18 o19 : Option V) : L2.St := sg sc s o2 y m qp wl o7 (some (.ref rw)) (some (.ref ls)) (some (.ref re)) o11 o12 o13 o14 o15 o16 o17 o18 o19
theorem TI.same {s l y m qp rw ls re wl : Addr} {n i : Nat} {H H' : Hp} (t : TI K s l y m qp rw ls re wl n i H) (e : Same H H') : TI K s l y m qp rw ls re wl n i H' := by
  obtain ⟨C, ad, z, rp, lp, rows, rs, w, h3, es, el, ey, em, ew, so, tt, dk, lg⟩ := t
  have w1 := w.same e
  exact ⟨C, ad, z, rp, lp, rows, rs, w1.re, h3, es, el, ey, em, ew, so.mono fun k hk => hk.same w1.up, tt, dk, lg.same w1.up⟩
theorem TI.old {s l y m qp rw ls re wl : Addr} {n n' i : Nat} {H H' : Hp} (t : TI K s l y m qp rw ls re wl n i H) (o : Old s l H H') (st : Stm H' s l n') : TI K s l y m qp rw ls re wl n' i H' := by
  obtain ⟨C, ad, z, rp, lp, rows, rs, w, h3, es, el, ey, em, ew, so, tt, dk, lg⟩ := t
  rw [← es, ← el] at o st
  have w1 := w.old o st
  exact ⟨C, ad, z, rp, lp, rows, rs, w1.re, h3, es, el, ey, em, ew, so.mono fun k hk => hk.same w1.up, tt, dk, lg.same w1.up⟩
theorem TI.stm {s l y m qp rw ls re wl : Addr} {n i : Nat} {H : Hp} (t : TI K s l y m qp rw ls re wl n i H) : Stm H s l n := by
  obtain ⟨C, ad, z, rp, lp, rows, rs, w, h3, es, el, ey, em, ew, so, tt, dk, lg⟩ := t
  rw [← es, ← el]; exact w.stm
theorem TI.mono {s l y m qp rw ls re wl : Addr} {n n' i i' : Nat} {H : Hp} (t : TI K s l y m qp rw ls re wl n i H) (h : n ≤ n') (h' : i ≤ i') : TI K s l y m qp rw ls re wl n' i' H := by
  obtain ⟨C, ad, z, rp, lp, rows, rs, w, h3, es, el, ey, em, ew, so, tt, dk, lg⟩ := t
  exact ⟨C, ad, z, rp, lp, rows, rs, w.mono h, h3, es, el, ey, em, ew, so, by omega, dk, lg⟩
theorem yd_lv {H : Hp} {y md na nu : Addr} (h : YdAt K H y md na nu) : ∃ dy ys, H y = some (.ins (CY K) dy ys) ∧ ys.lookup ("numbers_of" : Str) = some (.ref nu) ∧ ys.lookup ("level_of" : Str) = none ∧ H nu = some (.dK (kv_FIRST_NUMBERS.map fun q => (q.1, q.2.v K))) := by
  obtain ⟨⟨dy, st, fi, lm, hn, fr, rt, lr, h1⟩, h2, h3⟩ := h
  exact ⟨dy, _, h1, rfl, rfl, h3⟩
theorem hc7S (T : Txt P w K mg) : HCls K (CS K) := ⟨T.c_StreamHandler, T.n_StreamHandler_filters, T.n_StreamHandler_yard, T.n_StreamHandler_level, T.n_StreamHandler_formatter, T.n_StreamHandler_name, T.n_StreamHandler_terminator, T.n_StreamHandler_closed⟩
theorem hc7M (T : Txt P w K mg) : HCls K (CM K) := ⟨T.c_MemoryHandler, T.n_MemoryHandler_filters, T.n_MemoryHandler_yard, T.n_MemoryHandler_level, T.n_MemoryHandler_formatter, T.n_MemoryHandler_name, T.n_MemoryHandler_terminator, T.n_MemoryHandler_closed⟩
end
end K17

set_option Elab.async false
set_option linter.all false
set_option maxRecDepth 100000
set_option maxHeartbeats 0
namespace K17
open PySem PySem.Spec PyProof.Rows L2 RC
section
variable {P : Program} {w : World} {K : PySem.W.Frag} {mg : Str → Option Value} {base : Heap}
/-! ### the law's own run -/
structure RnL (K : PySem.W.Frag) (C : Cfg) (ad : Ro → Addr) (n : Nat) (U L : AS) (G : Hp) (b : Nat) (rs : Bool) (row : List Nat) (ks : List Kp) (f : Option V → Option V → L2.St) (t : Nat) (σ : L2.St) (H' : Hp) : Prop where
  w : ∃ ad' o13 o19, Wd K C ad' n U (rnA C.kd b rs row (ks.take t) L) G H' ∧ AdL C.n ad ad' ∧ σ = f o13 o19
structure LdL (K : PySem.W.Frag) (C : Cfg) (ad : Ro → Addr) (n : Nat) (U L : AS) (G : Hp) (b : Nat) (rs : Bool) (row : List Nat) (k : Kp) (f : Option V → L2.St) (t : Nat) (σ : L2.St) (H' : Hp) : Prop where
  w : ∃ ad' o13, Wd K C ad' n U (ldA C.kd b rs (row.take t) k L) G H' ∧ AdL C.n ad ad' ∧ σ = f o13
theorem cut_take (xs : List V) {d : Nat} (h : d ≤ xs.length) : cutV xs none (some (d : Int)) = xs.take d := by
  unfold cutV
  rw [HT.sIx_none, HT.sIx_nat, Nat.min_eq_left h]; rfl
theorem cut_drop (xs : List V) {d : Nat} (h : d ≤ xs.length) : cutV xs (some (d : Int)) none = xs.drop d := by
  unfold cutV
  rw [HT.sIx_none, HT.sIx_nat, Nat.min_eq_left h]
  exact List.take_of_length_le (Nat.le_of_eq (by rw [List.length_drop]))
theorem at2 {α : Type} (a : Nat → α) {n : Nat} (h : n < 2) : atI [a 0, a 1] ((n : Nat) : Int) = some (a n) := by
  match n, h with
  | 0, _ => rfl
  | 1, _ => rfl
end
end K17

set_option Elab.async false
set_option linter.all false
set_option maxRecDepth 100000
set_option maxHeartbeats 0

namespace K17
open PySem PySem.Spec PyProof.Rows L2 RC
section
variable {P : Program} {w : World} {K : PySem.W.Frag} {mg : Str → Option Value} {base : Heap}
/-! ### a deed, whole -/
theorem deed (T : Txt P w K mg) {S1 S1d S2 S2m S3 S4 S5 : Sp} (e1 : S1 = spRun 3 K) (e1d : S1d = spRun 3 K) (e2 : S2 = spSetLevel K) (e2m : S2m = spSetLevel K) (e3 : S3 = spLHdB 3 K) (e4 : S4 = spSame 3) (e5 : S5 = spStandsB K) {f : Addr} {cdv : Value} {A : Around} {outer : List Env} {st0 : Shared} {E : XK} {H : Hp} (hr : Room 24 (A.deeper (envOfC "law" (defScope s_law) st0.heap.objs.size f cdv)))
    (c__law_draw : Callable P w K mg base 1 (He.ga K "_law_draw") ["_law_stream", "_law_many"] [] spDraw)
    (c__law_pick : Callable P w K mg base 2 (He.ga K "_law_pick") ["_law_stream", "_law_some"] [] (spPick K))
    (c__law_record : Callable P w K mg base 7 (He.ga K "_law_record") ["_law_stream", "_law_yard", "_law_number"] [] (spRecord K))
    (c_QueueListener_run : Callable P w K mg base 23 (He.ma K (He.ga K "QueueListener") "run") ["self", "many"] [] S1)
    (c_QueueListener_run_d1 : Callable P w K mg base 23 (He.ma K (He.ga K "QueueListener") "run") ["self", "many"] [.non] S1d)
    (c_StreamHandler_setLevel : Callable P w K mg base 3 (He.ma K (He.ga K "StreamHandler") "setLevel") ["self", "level"] [] S2)
    (c_MemoryHandler_setLevel : Callable P w K mg base 3 (He.ma K (He.ga K "MemoryHandler") "setLevel") ["self", "level"] [] S2m)
    (c__law_handled : Callable P w K mg base 9 (He.ga K "_law_handled") ["_law_m", "_law_at", "_law_record_here"] [] S3)
    (c__law_same : Callable P w K mg base 4 (He.ga K "_law_same") ["_law_found", "_law_due"] [] S4)
    (c__law_stands : Callable P w K mg base 5 (He.ga K "_law_stands") ["_law_yard", "_law_m"] [] S5)
    (c_Queue_put : Callable P w K mg base 1 (He.ma K (He.ga K "Queue") "put") ["self", "record"] [] (spQPut K))
    (c_Queue___len__ : Callable P w K mg base 1 (He.ma K (He.ga K "Queue") "__len__") ["self"] [] (spQLen K)) :
    ∃ t, PSs (cxOf CX0 P w K mg base nm_law "law" (defScope s_law) f cdv A outer st0 H E).nox b_deed t ∧ ∀ {s l y m qp rw ls re wl sc : Addr} {n : Nat} (i : Nat) (H0 : Hp) (D' : Ends), TI K s l y m qp rw ls re wl n i H0 → i < 20 → n ≤ 900000 → ∀ o2 o11 o12 o13 o14 o15 o16 o17 o18 o19,
      (∀ σ H' wl', TI K s l y m qp rw ls re wl' (n + 8) (i + 1) H' → (∃ o7 o11 o12 o13 o14 o15 o16 o17 o18 o19, σ = sD sc s o2 y m qp rw ls re wl' o7 o11 o12 o13 o14 o15 o16 o17 o18 o19) → D'.nx σ H') → t D' (sD sc s o2 y m qp rw ls re wl (some (.int (i : Nat))) o11 o12 o13 o14 o15 o16 o17 o18 o19) H0 := by
  refine ⟨_, (pss_cons (ps_if (pt_cmpR op_eq (pe_fn T.g__law_draw c__law_draw (hr.mono (by first | decide | exact Nat.le_refl _ | omega)) (by rfl) (pa_cons (pv 1) (pa_cons pe_int pa_nil))) pe_int (nomark _)) (pss_cons (ps_set (i := 15) sc_law.nd rfl (by first | exact Or.inl rfl | exact Or.inr rfl) (pe_ix ix_list (pe_dget (hu_of hr) (pv 4) pe_str (fun _ _ => rfl)) (pe_fn T.g__law_draw c__law_draw (hr.mono (by first | decide | exact Nat.le_refl _ | omega)) (by rfl) (pa_cons (pv 1) (pa_cons pe_int pa_nil))) (fun _ _ => rfl)))
      (pss_cons (ps_dput (hu_of hr) (pv 15) pe_str (pe_fn T.g__law_pick c__law_pick (hr.mono (by first | decide | exact Nat.le_refl _ | omega)) (by rfl) (pa_cons (pv 1) (pa_cons (pe_lst (pa_cons pe_int (pa_cons pe_int (pa_cons pe_int (pa_cons pe_int pa_nil))))) pa_nil))) rfl)
      (pss_one (ps_expr (RA.PE.or (pe_mt T.c_StreamHandler T.m_StreamHandler_setLevel c_StreamHandler_setLevel (hr.mono (by first | decide | exact Nat.le_refl _ | omega)) (pe_dget (hu_of hr) (pv 15) pe_str (fun _ _ => rfl)) (pa_cons (pe_dget (hu_of hr) (pv 15) pe_str (fun _ _ => rfl)) pa_nil)) (pe_mt T.c_MemoryHandler T.m_MemoryHandler_setLevel c_MemoryHandler_setLevel (hr.mono (by first | decide | exact Nat.le_refl _ | omega)) (pe_dget (hu_of hr) (pv 15) pe_str (fun _ _ => rfl)) (pa_cons (pe_dget (hu_of hr) (pv 15) pe_str (fun _ _ => rfl)) pa_nil))))))) pss_nil)
      (pss_cons (ps_if (pt_cmpR op_gt (pe_fn T.g__law_draw c__law_draw (hr.mono (by first | decide | exact Nat.le_refl _ | omega)) (by rfl) (pa_cons (pv 1) (pa_cons pe_int pa_nil))) pe_int (nomark _)) (pss_cons (ps_expr (pe_bm PySem.F.plainAttrs_list PySem.F.slot_list_append PySem.F.type_list_append mt_append (pv 6) (pa_cons (pe_fn T.g__law_record c__law_record (hr.mono (by first | decide | exact Nat.le_refl _ | omega)) (by rfl) (pa_cons (pv 1) (pa_cons (pv 3) (pa_cons (pv 7) pa_nil)))) pa_nil)))
      (pss_one (ps_expr (pe_mt T.c_Queue T.m_Queue_put c_Queue_put (hr.mono (by first | decide | exact Nat.le_refl _ | omega)) (pv 5) (pa_cons (pe_dget (hu_of hr) (pe_ix ix_list (pv 6) (pe_un un_neg pe_int) (fun _ _ => rfl)) pe_str (fun _ _ => rfl)) pa_nil))))) (pss_cons (ps_par (by rfl) sc_law.nd (i := 16) (j := 17) rfl rfl (by decide) rfl rfl (pa_cons (pe_fn T.g__law_draw c__law_draw (hr.mono (by first | decide | exact Nat.le_refl _ | omega)) (by rfl) (pa_cons (pv 1) (pa_cons pe_int pa_nil))) (pa_cons (pe_fn T.g__law_pick c__law_pick (hr.mono (by first | decide | exact Nat.le_refl _ | omega)) (by rfl) (pa_cons (pv 1) (pa_cons (pe_lst (pa_cons pe_non (pa_cons pe_int (pa_cons pe_int (pa_cons pe_int (pa_cons pe_int (pa_cons pe_non pa_nil))))))) pa_nil))) pa_nil)) (by rfl))
      (pss_cons (ps_set (i := 18) sc_law.nd rfl (by first | exact Or.inl rfl | exact Or.inr rfl) (pe_ifExp (pt_cmpR op_isN (pv 17) pe_non (nomark _)) (pe_callB call_len (by rfl) T.b_len (by decide +kernel) (pa_cons (pv 6) pa_nil)) (pe_callB (call_min2 rfl) (by rfl) T.b_min (by decide +kernel) (pa_cons (pv 17) (pa_cons (pe_callB call_len (by rfl) T.b_len (by decide +kernel) (pa_cons (pv 6) pa_nil)) pa_nil)))))
      (pss_cons (ps_if (pt_not (pt_val (pe_fn T.g__law_same c__law_same (hr.mono (by first | decide | exact Nat.le_refl _ | omega)) (by rfl) (pa_cons (pe_ifExp (pt_cmpR op_notN (pv 17) pe_non (nomark _)) (pe_mt T.c_QueueListener T.m_QueueListener_run c_QueueListener_run (hr.mono (by first | decide | exact Nat.le_refl _ | omega)) (pe_ix ix_list (pv 9) (pv 16) (fun _ _ => rfl)) (pa_cons (pv 17) pa_nil)) (pe_mt0 T.c_QueueListener T.m_QueueListener_run c_QueueListener_run_d1 (hr.mono (by first | decide | exact Nat.le_refl _ | omega)) (pe_ix ix_list (pv 9) (pv 16) (fun _ _ => rfl)))) (pa_cons (pv 18) pa_nil))))) (pss_one (ps_ret pe_bl)) pss_nil)
      (pss_cons (ps_for PassesOwn.never rfl (pi_list (pe_slice sl_list (pv 6) po_none (po_some (pv 18)))) (pg_name (i := 19) sc_law.nd rfl (by first | exact Or.inl rfl | exact Or.inr rfl)) (pss_one (ps_for PassesOwn.never rfl (pi_list (pe_ix ix_list (pv 8) (pv 16) (fun _ _ => rfl))) (pg_name (i := 13) sc_law.nd rfl (by first | exact Or.inl rfl | exact Or.inr rfl)) (pss_one (ps_if (PW.pt (pw_or (pt_not (pt_val (pe_ix ix_list (pv 10) (pv 16) (fun _ _ => rfl)))) (pw_or1 (pt_cmpR op_le (pe_dget (hu_of hr) (pe_ix ix_list (pe_dget (hu_of hr) (pv 4) pe_str (fun _ _ => rfl)) (pv 13) (fun _ _ => rfl)) pe_str (fun _ _ => rfl)) (pe_dget (hu_of hr) (pv 19) pe_str (fun _ _ => rfl)) (nomark _))))) (pss_one (ps_expr (pe_fn T.g__law_handled c__law_handled (hr.mono (by first | decide | exact Nat.le_refl _ | omega)) (by rfl) (pa_cons (pv 4) (pa_cons (pv 13) (pa_cons (pv 19) pa_nil)))))) pss_nil)))))
      (pss_one (ps_set (i := 6) sc_law.nd rfl (by first | exact Or.inl rfl | exact Or.inr rfl) (pe_slice sl_list (pv 6) (po_some (pv 18)) po_none))))))))
      (pss_one (ps_if (PW.pt (pw_or (pt_not (pt_val (pe_fn T.g__law_same c__law_same (hr.mono (by first | decide | exact Nat.le_refl _ | omega)) (by rfl) (pa_cons (pe_callB (RLn.call_lenOwn c_Queue___len__ T.m_Queue___len__ (hr.mono (by first | decide | exact Nat.le_refl _ | omega))) (by rfl) T.b_len (by decide +kernel) (pa_cons (pv 5) pa_nil)) (pa_cons (pe_callB call_len (by rfl) T.b_len (by decide +kernel) (pa_cons (pv 6) pa_nil)) pa_nil))))) (pw_or1 (pt_not (pt_val (pe_fn T.g__law_stands c__law_stands (hr.mono (by first | decide | exact Nat.le_refl _ | omega)) (by rfl) (pa_cons (pv 3) (pa_cons (pv 4) pa_nil)))))))) (pss_one (ps_ret pe_bl)) pss_nil)))), ?_⟩
  walk_at "in"
  intro s_ l_ y_ m_ qp rw ls re wl sc n i H0 D' hW hi hn o2 o11 o12 o13 o14 o15 o16 o17 o18 o19 k'
  have n0 : n ≤ 1000000 := by omega
  have n1 : n + 1 ≤ 1000000 := by omega
  have n2 : n + 1 + 1 ≤ 1000000 := by omega
  have n3 : n + 3 ≤ 1000000 := by omega
  have n4 : n + 3 + 1 ≤ 1000000 := by omega
  have n5 : n + 3 + 1 + 3 ≤ 1000000 := by omega
  have n6 : n + 3 + 1 + 1 ≤ 1000000 := by omega
  -- the level
  refine seq_of (fun σ' H' => ∃ o15, σ' = sD sc s_ o2 y_ m_ qp rw ls re wl (some (.int (i : Nat))) o11 o12 o13 o14 o15 o16 o17 o18 o19 ∧ TI K s_ l_ y_ m_ qp rw ls re wl (n + 3) i H') (fun b' kb => ?_) (fun σ' H1 hm => ?_)
  · have st0 := hW.stm
    have stw : Stm H0 s_ l_ n := st0
    clear st0
    walk_at "go"
    intro H1 d p1 st1 d1 d2
    have T1 := hW.old p1 st1
    obtain ⟨C, ad, z, rp, lp, rows, rs, W1, h3, rfl, rfl, rfl, rfl, rfl, so, tt, dk, lg⟩ := T1
    have hm1 := W1.m1
    have hhl1 := W1.hhl
    by_cases c0 : d = 0
    · have td : decide (V.int d = V.int 0) = true := decide_eq_true (congrArg V.int c0)
      walk_at "go"
      intro H2 d' p2 st2 d3 d4
      obtain ⟨a, rfl⟩ := Int.eq_ofNat_of_zero_le d3
      have ha : a < C.n := by omega
      have W2 := W1.old p2 st2
      have hat := q_at ad ha
      have hm2 := W2.m1
      have hhl2 := W2.hhl
      have st2' := W2.stm
      clear stw st1
      walk_at "go"
      intro p fp
      generalize hX : upd H2 p _ = Ha
      have hp := (congrFun hX p).symm
      rw [upd_same] at hp
      have sa : Same H2 Ha := by rw [← hX]; exact same_new fp _
      obtain ⟨np1, np2⟩ := stm_new W2.stm fp
      clear hX st2'
      have Wa := W2.same sa
      have sta := Wa.stm
      walk_at "go"
      intro Hb v ob stb hv
      obtain ⟨lv, rfl⟩ : ∃ i : Int, v = .int i := by
        have e : ([.int 0, .int 10, .int 30, .int 41] : List V) = ([0, 10, 30, 41] : List Int).map V.int := rfl
        rw [e] at hv
        obtain ⟨i, hi, rfl⟩ := List.mem_map.mp hv
        exact ⟨i, rfl⟩
      have Wb := Wa.old ob stb
      have fin : ∀ (H5 : Hp) (n5 : Nat), Wd K C ad n5 (z.set a ⟨(z.hs a).tg, lv, (z.hs a).ks⟩) (z.set a ⟨(z.hs a).tg, lv, (z.hs a).ks⟩) (Gs C ad H1) H5 → n5 ≤ n + 3 → TI K (ad .s) (ad .l) C.y C.m qp rw ls re (ad .wl) (n + 3) i H5 := fun H5 n5 w5 h5 => ⟨C, ad, _, rp, lp, rows, rs, w5.re.mono h5, h3, rfl, rfl, rfl, rfl, rfl, (set_ok so (so.lo a)).mono fun k hk => hk.same w5.up, by rw [set_tt]; exact tt, dk, lg.same w5.up⟩
      cases ek : C.kd a with
      | wr x =>
        have hqb := Wb.qbW ha ek
        have W3 := Wb.seQ ha ⟨(z.hs a).tg, lv, (z.hs a).ks⟩ rfl
        rw [lOb_wr ek] at W3
        have W3' : Wd K C ad _ z (z.set a ⟨(z.hs a).tg, lv, (z.hs a).ks⟩) (Gs C ad H1) (upd Hb (ad (.q a)) (.dK (putK (wrK (C.fl a) x.f x.sn (ad (.h a)) (z.hs a).lv false) (Sum.inr "level") (.int lv)))) := W3
        refine ⟨_, rfl, _, _, rfl, RW.dput_s hqb (by rw [sizeLine_eq]; show 6 < _; decide), ?_⟩
        clear W3 hqb stb
        generalize upd Hb (ad (.q a)) (.dK (putK (wrK (C.fl a) x.f x.sn (ad (.h a)) (z.hs a).lv false) (Sum.inr "level") (.int lv))) = Hc at W3' ⊢
        have hqc := W3'.qbW ha ek
        rw [set_same] at hqc
        have hhc := W3'.obW ha ek
        have W4 := W3'.seH ha ⟨(z.hs a).tg, lv, (z.hs a).ks⟩ rfl
        rw [pOb_wr ek] at W4
        obtain ⟨dy, ys, gy, gn, glo, gnu⟩ := yd_lv (W3'.yd.same W3'.pl.sm)
        refine .inl ?_
        walk_at "go"
        rw [e2]
        refine ⟨ad (.h a), CS K, C.dh a, 0, C.y, dy, C.nu, _, ys, _, lv, rfl, hhc, hc7S T, rfl, (by show 8 < 1000; decide), gy, gn, glo, gnu, ?_⟩
        exact kb _ _ ⟨_, rfl, fin _ _ W4 (by omega)⟩
      | mem md =>
        have hqb := Wb.qbM ha ek
        have W3 := Wb.seQ ha ⟨(z.hs a).tg, lv, (z.hs a).ks⟩ rfl
        rw [lOb_mem ek] at W3
        have W3' : Wd K C ad _ z (z.set a ⟨(z.hs a).tg, lv, (z.hs a).ks⟩) (Gs C ad H1) (upd Hb (ad (.q a)) (.dK (putK (lmK (C.fl a) (tgI (z.hs a).tg) (ad (.lk a)) (md.clo (z.hs a).lv) (ad (.h a))) (Sum.inr "level") (.int lv)))) := W3
        refine ⟨_, rfl, _, _, rfl, RW.dput_s hqb (by rw [sizeLine_eq]; show 10 < _; decide), ?_⟩
        clear W3 hqb stb
        generalize upd Hb (ad (.q a)) (.dK (putK (lmK (C.fl a) (tgI (z.hs a).tg) (ad (.lk a)) (md.clo (z.hs a).lv) (ad (.h a))) (Sum.inr "level") (.int lv))) = Hc at W3' ⊢
        have hqc := W3'.qbM ha ek
        rw [set_same] at hqc
        have hhc := W3'.obM ha ek
        have W4 := W3'.seH ha ⟨(z.hs a).tg, lv, (z.hs a).ks⟩ rfl
        rw [pOb_mem ek] at W4
        obtain ⟨dy, ys, gy, gn, glo, gnu⟩ := yd_lv (W3'.yd.same W3'.pl.sm)
        refine .inr ?_
        walk_at "go"
        rw [e2m]
        refine ⟨ad (.h a), CM K, C.dh a, 0, C.y, dy, C.nu, _, ys, _, lv, rfl, hhc, hc7M T, rfl, (by show 12 < 1000; decide), gy, gn, glo, gnu, ?_⟩
        exact kb _ _ ⟨_, rfl, fin _ _ W4 (by omega)⟩
    · have td : decide (V.int d = V.int 0) = false := decide_eq_false fun z => c0 (V.int.inj z)
      walk_at "go"
      exact kb _ _ ⟨_, rfl, ⟨C, ad, z, rp, lp, rows, rs, W1.mono (by omega), h3, rfl, rfl, rfl, rfl, rfl, so, tt, dk, lg⟩⟩
  obtain ⟨o15', rfl, T1⟩ := hm
  clear hW
  -- a record, or a run
  refine seq_of (fun σ' H' => ∃ wl' o7 o11 o12 o13 o14 o15 o16 o17 o18 o19, σ' = sD sc s_ o2 y_ m_ qp rw ls re wl' o7 o11 o12 o13 o14 o15 o16 o17 o18 o19 ∧ TI K s_ l_ y_ m_ qp rw ls re wl' (n + 8) (i + 1) H') (fun b' kb => ?_) (fun σ' H2 hm => ?_)
  · have stw : Stm H1 s_ l_ (n + 3) := T1.stm
    walk_at "go"
    intro H2 d p1 st1 d1 d2
    have T2 := T1.old p1 st1
    obtain ⟨C, ad, z, rp, lp, rows, rs, W1, h3, rfl, rfl, rfl, rfl, rfl, so, tt, dk, lg⟩ := T2
    by_cases c0 : 0 < d
    · have td : decide ((0 : Int) < d) = true := decide_eq_true c0
      have hwl := W1.wl
      have stv := W1.stm
      have yd1 : YdAt K H2 C.y (ad .md) C.na C.nu := W1.yd.same W1.pl.sm
      have i30 : i < 30 := by omega
      clear stw
      walk_at "go"
      intro H3 q r dd p3 st3 hd hq hr3
      have W2 := W1.old p3 st3
      have sw := W1.nwS W2
      have W2r := W2.re
      have hk : KpAt K (Gs C ad H3) ⟨r, q, dd⟩ := ⟨RecAt.same hr3 sw, sw _ _ hq, hd⟩
      have so3 := so.mono fun k hk => hk.same W2.up
      have lg3 := lg.same W2.up
      have hwl3 := W2r.wl
      have lz : z.wt.length ≤ 80 := by omega
      have hll : (kQ z.wt).length < sizeLine := by unfold kQ; rw [List.length_map, sizeLine_eq]; omega
      have lr : (kR z.wt).length ≤ 1000 := by unfold kR; rw [List.length_map]; omega
      have ekq : kQ z.wt ++ [V.ref q] = kQ (z.wt ++ [⟨r, q, dd⟩]) := by unfold kQ; rw [List.map_append]; rfl
      have ekr : kR z.wt ++ [V.ref r] = kR (z.wt ++ [⟨r, q, dd⟩]) := by unfold kR; rw [List.map_append]; rfl
      have W3 := W2r.seV (z.wt ++ [(⟨r, q, dd⟩ : Kp)])
      rw [← ekq] at W3
      refine ⟨ad .wl, _, _, rfl, rfl, hwl3, hll, ?_⟩
      have hwl4 := upd_same (H := H3) (a := ad .wl) (o := .lst (kQ z.wt ++ [V.ref q]))
      clear stv hwl3 hwl
      generalize upd H3 (ad .wl) (.lst (kQ z.wt ++ [V.ref q])) = H4 at W3 hwl4 ⊢
      obtain ⟨dq, hqq⟩ := lg3.q
      have hq4 := W3.pl.sm _ _ hqq
      have hwq4 := W3.wq
      have hr4 := W3.pl.sm _ _ hk.2.1
      have hat : atI (kQ z.wt ++ [V.ref q]) (-1) = some (.ref q) := by
        have h9 := atI_last (kQ z.wt) (V.ref q)
        exact h9
      walk_at "go"
      have W4 := W3.seW (z.wt ++ [(⟨r, q, dd⟩ : Kp)])
      rw [← ekr] at W4
      refine kb _ _ ⟨_, _, _, _, _, _, _, _, _, _, _, rfl, ⟨C, ad, z.wts (z.wt ++ [⟨r, q, dd⟩]), rp, lp, rows, rs, W4.re.mono (by omega), h3, rfl, rfl, rfl, rfl, rfl, (so3.wts fun k h => (List.mem_append.mp h).elim (so3.wk k) fun h => by rw [List.mem_singleton.mp h]; exact hk).mono fun k hk => hk.same W4.up, ?_, dk, lg3.same W4.up⟩⟩
      show z.tt C.n + 4 * (z.wt ++ [(⟨r, q, dd⟩ : Kp)]).length ≤ _
      rw [List.length_append, List.length_singleton]; omega
    · have td : decide ((0 : Int) < d) = false := decide_eq_false c0
      clear stw
      have stv := W1.stm
      walk_at "go"
      intro H3 e p2 st3 e1_ e2_
      have W2 := W1.old p2 st3
      have so3 := so.mono fun k hk => hk.same W2.up
      have lg3 := lg.same W2.up
      have st3' := W2.stm
      clear stv st1 st3
      walk_at "go"
      intro p fp
      generalize hX : upd H3 p _ = Ha
      have hp := (congrFun hX p).symm
      rw [upd_same] at hp
      have saa : Same H3 Ha := by rw [← hX]; exact same_new fp _
      clear hX
      have Wa := W2.same saa
      have sta := Wa.stm
      obtain ⟨np1, np2⟩ := stm_new st3' fp
      clear st3'
      walk_at "go"
      intro Hb v ob stb hv
      have Wb := Wa.old ob stb
      obtain ⟨many, rfl⟩ : ∃ m, v = mV m := by
        have e : ([.non, .int 0, .int 1, .int 2, .int 100, .non] : List V) = ([none, some 0, some 1, some 2, some 100, none] : List (Option Nat)).map mV := rfl
        rw [e] at hv
        obtain ⟨i, hi, rfl⟩ := List.mem_map.mp hv
        exact ⟨i, rfl⟩
      obtain ⟨nth, rfl⟩ := Int.eq_ofNat_of_zero_le e1_
      have hn2 : nth < 2 := by omega
      have soB := so.mono fun k hk => hk.same Wb.up
      have lgB := lg.same Wb.up
      have WB := Wb.re
      clear Wb sta
      have hls := lgB.ls_
      have hls2 := WB.pl.sm _ _ hls
      have hrw2 := WB.pl.sm _ _ lgB.rw_
      have hre2 := WB.pl.sm _ _ lgB.re_
      have hwlB := WB.wl
      have al := at2 (fun j => V.ref (lp j)) hn2
      have ar := at2 (fun j => V.ref (rp j)) hn2
      have ae := at2 (fun j => V.bl (rs j)) hn2
      have lB := lgB.l nth hn2
      obtain ⟨dq, hqB⟩ := lgB.q
      obtain ⟨⟨dl, hl_, gl1, gl2⟩, hrow, hrl⟩ := id lB
      have hlB := WB.pl.sm _ _ gl1
      have lkq : (kQ z.wt).length = z.wt.length := by unfold kQ; rw [List.length_map]
      have lz : z.wt.length ≤ 80 := by omega
      have ml : (rows nth).length * z.wt.length ≤ 4 * z.wt.length := Nat.mul_le_mul_right _ hrl
      have tr : z.tt C.n + (rows nth).length * z.wt.length ≤ 80 := by omega
      have lz2 : (kQ z.wt).length ≤ 1000000 := by omega
      have hcC : C.n ≤ 3 := by omega
      clear T1 p1 p2 W1 W2 Wa so lg
      cases many with
      | none =>
        have tn : decide (mV none = V.non) = true := rfl
        have tn2 : (!decide (mV none = V.non)) = false := rfl
        have ed : (((kQ z.wt).length : Nat) : Int) = ((dueN none z.wt.length : Nat) : Int) := by rw [lkq]; rfl
        walk_at "go"
        rw [e1d]
        refine ⟨C, ad, _, z, z, Gs C ad Hb, lp nth, qp, dq, rs nth, rows nth, none, rfl, WB, lB, hqB, hcC, dk, soB, tr, by omega, fun H5 ad5 W5 a5 => ?_⟩
        generalize hU5 : (rnA C.kd 3 (rs nth) (rows nth) (z.wt.take (dueN none z.wt.length)) z).wts (z.wt.drop (dueN none z.wt.length)) = U5 at W5
        rw [ed]
        walk_at "go"
        rw [e4]
        refine ⟨_, _, rfl, .int _ _, fun H6 s6 => ?_⟩
        have W6 := W5.same s6
        have W7 := W6.re
        have wl6 := W7.wl
        rw [a5.bs.2.2.2.1] at wl6
        have so7 := soB.mono fun k hk => hk.same W6.up
        have lg7 := (lgB.same W6.up).ad (ad' := ad5) a5.h a5.bs.2.2.1
        walk_at "go"
        intro p8 fp8
        rw [cut_take _ (by rw [lkq]; exact dueN_le _ _), show (kQ z.wt).take (dueN none z.wt.length) = kQ (z.wt.take (dueN none z.wt.length)) from by unfold kQ; rw [List.map_take]]
        generalize hks : z.wt.take (dueN none z.wt.length) = ks at *
        have hkm : ∀ k ∈ ks, k ∈ z.wt := fun k hk => by rw [← hks] at hk; exact List.mem_of_mem_take hk
        have hkl : ks.length ≤ z.wt.length := by rw [← hks, List.length_take]; exact Nat.min_le_right _ _
        have g8 : Gs C ad5 (upd H6 p8 (.lst (kQ ks))) p8 = some (.lst (kQ ks)) := rst_at upd_same (W7.fresh fp8)
        have W8a := W7.same (same_new fp8 (.lst (kQ ks)))
        have W8 := W8a.re
        have s8 := W8a.up
        have lg8 := lg7.same s8
        have so8 := so7.mono fun k hk => hk.same s8
        have hm8 := W8.m1
        generalize upd H6 p8 (.lst (kQ ks)) = H8 at g8 W8 s8 lg8 so8 hm8 ⊢
        clear W8a fp8
        have hL1 : ∀ k, KpAt K (Gs C ad5 H8) k → LRc k.d := fun k h => h.2.2
        have lsum : ks.length + (z.wt.drop (dueN none z.wt.length)).length = z.wt.length := by rw [← hks, ← List.length_append, List.take_append_drop]
        have hdl := dueN_le none z.wt.length
        refine ⟨p8, rfl, ⟨_, SqL.of (W8.pl.sm _ _ g8)⟩, ?_⟩
        refine for_it (walk_list (xs := kQ ks)) (RnL K C ad5 (n + 3 + 1 + 1 + 1) U5 z (Gs C ad5 H8) 3 (rs nth) (rows nth) ks (fun x13 x19 => sD sc (ad .s) o2 C.y C.m qp rw ls re (ad .wl) (some (.int (i : Nat))) o11 o12 x13 o14 o15' (some (.int (nth : Nat))) (some (mV none)) (some (.int (dueN none z.wt.length : Nat))) x19)) ⟨ad5, _, _, W8, AdL.refl, rfl⟩ (fun t σ H' _ hp => ?_) (fun t x σ H0' H9 ht1 hP hy => ?_) (fun σ H9 hP => ?_)
        · obtain ⟨ad', x13, x19, w1, a1, _⟩ := hp.w
          exact SqL.of (w1.pl.sm _ _ g8)
        · obtain ⟨rfl, hy⟩ := hy
          obtain ⟨⟨ad', x13, x19, w1, a1, rfl⟩⟩ := hP
          unfold kQ at hy
          rw [List.getElem?_map] at hy
          obtain ⟨k, hk0, rfl⟩ := Option.map_eq_some_iff.mp hy
          have hkA := so8.wk k (hkm k (List.mem_of_getElem? hk0))
          have lt2 : t < ks.length := (List.getElem?_eq_some_iff.mp hk0).1
          have lt1 : (ks.take t).length = t := by rw [List.length_take]; exact Nat.min_eq_left (Nat.le_of_lt lt2)
          have F1 := rnA_ok (a := sa) (b := sb) dk hL1 (c := 3) (rs := rs nth) hrow (ks.take t) z (fun k hk => so8.wk k (hkm k (List.mem_of_mem_take hk))) so8
          have tt1 : (rnA C.kd 3 (rs nth) (rows nth) (ks.take t) z).tt C.n + (rows nth).length ≤ 80 := by
            have h1 := F1.tt
            rw [lt1] at h1
            have h2 : (rows nth).length * (t + 1) ≤ (rows nth).length * z.wt.length := Nat.mul_le_mul_left _ (by omega)
            rw [Nat.mul_succ] at h2
            omega
          have next : ∀ (H2 : Hp) (ad2 : Ro → Addr) (a13 : Option V), Wd K C ad2 (n + 3 + 1 + 1 + 1) U5 (ldA C.kd 3 (rs nth) (rows nth) k (rnA C.kd 3 (rs nth) (rows nth) (ks.take t) z)) (Gs C ad5 H8) H2 → AdL C.n ad' ad2 → RnL K C ad5 (n + 3 + 1 + 1 + 1) U5 z (Gs C ad5 H8) 3 (rs nth) (rows nth) ks (fun x13 x19 => sD sc (ad .s) o2 C.y C.m qp rw ls re (ad .wl) (some (.int (i : Nat))) o11 o12 x13 o14 o15' (some (.int (nth : Nat))) (some (mV none)) (some (.int (dueN none z.wt.length : Nat))) x19) (t + 1) (sD sc (ad .s) o2 C.y C.m qp rw ls re (ad .wl) (some (.int (i : Nat))) o11 o12 a13 o14 o15' (some (.int (nth : Nat))) (some (mV none)) (some (.int (dueN none z.wt.length : Nat))) (some (.ref k.q))) H2 := fun H2 ad2 a13 w2 a2 => ⟨⟨ad2, a13, _, by unfold rnA at w2 ⊢; rw [foldl_take hk0]; exact w2, a1.trans a2 (Nat.le_refl _), rfl⟩⟩
          have so9 := F1.ok
          generalize rnA C.kd 3 (rs nth) (rows nth) (ks.take t) z = Z1 at w1 tt1 next so9
          clear F1
          have hrw8 := w1.pl.sm _ _ lg8.rw_
          have hrp8 := w1.pl.sm _ _ (lg8.r nth hn2)
          walk_at "go"
          refine for_it (walk_list (xs := (rows nth).map fun i => V.int (i : Nat))) (LdL K C ad' (n + 3 + 1 + 1 + 1) U5 Z1 (Gs C ad5 H8) 3 (rs nth) (rows nth) k (fun x13 => sD sc (ad .s) o2 C.y C.m qp rw ls re (ad .wl) (some (.int (i : Nat))) o11 o12 x13 o14 o15' (some (.int (nth : Nat))) (some (mV none)) (some (.int (dueN none z.wt.length : Nat))) (some (.ref k.q)))) ⟨ad', _, w1, AdL.refl, rfl⟩ (fun t2 σ H' _ hp => ?_) (fun t2 x σ H0' H10 ht2 hP hy => ?_) (fun σ H10 hP => ?_)
          · obtain ⟨ad'', x13b, w2, a2, _⟩ := hp.w
            exact SqL.of (w2.pl.sm _ _ (lg8.r nth hn2))
          · obtain ⟨rfl, hy⟩ := hy
            obtain ⟨⟨ad2, x13b, w2, a2, rfl⟩⟩ := hP
            rw [List.getElem?_map] at hy
            obtain ⟨i2, hi2, rfl⟩ := Option.map_eq_some_iff.mp hy
            have hin := hrow i2 (List.mem_of_getElem? hi2)
            have lu2 : t2 < (rows nth).length := (List.getElem?_eq_some_iff.mp hi2).1
            have lu1 : ((rows nth).take t2).length = t2 := by rw [List.length_take]; exact Nat.min_eq_left (Nat.le_of_lt lu2)
            have F2 := ldA_ok (a := sa) (b := sb) dk hL1 (c := 3) (rs := rs nth) hkA ((rows nth).take t2) Z1 (fun i h => hrow i (List.mem_of_mem_take h)) so9
            have tt2 : (ldA C.kd 3 (rs nth) ((rows nth).take t2) k Z1).tt (i2 + 1) + 1 ≤ 80 := by
              have h1 := F2.tt
              have h2 := tt_le (s := ldA C.kd 3 (rs nth) ((rows nth).take t2) k Z1) (show i2 + 1 ≤ C.n from hin)
              omega
            have next2 : ∀ (H2 : Hp) (ad3 : Ro → Addr), Wd K C ad3 (n + 3 + 1 + 1 + 1) U5 (l1A C.kd 3 (rs nth) k i2 (ldA C.kd 3 (rs nth) ((rows nth).take t2) k Z1)) (Gs C ad5 H8) H2 → AdL C.n ad2 ad3 → LdL K C ad' (n + 3 + 1 + 1 + 1) U5 Z1 (Gs C ad5 H8) 3 (rs nth) (rows nth) k (fun x13 => sD sc (ad .s) o2 C.y C.m qp rw ls re (ad .wl) (some (.int (i : Nat))) o11 o12 x13 o14 o15' (some (.int (nth : Nat))) (some (mV none)) (some (.int (dueN none z.wt.length : Nat))) (some (.ref k.q))) (t2 + 1) (sD sc (ad .s) o2 C.y C.m qp rw ls re (ad .wl) (some (.int (i : Nat))) o11 o12 (some (.int (i2 : Nat))) o14 o15' (some (.int (nth : Nat))) (some (mV none)) (some (.int (dueN none z.wt.length : Nat))) (some (.ref k.q))) H2 := fun H2 ad3 w3 a3 => ⟨⟨ad3, _, by unfold ldA at w3 ⊢; rw [foldl_take hi2]; exact w3, a2.trans a3 (Nat.le_refl _), rfl⟩⟩
            have so10 := F2.ok
            generalize ldA C.kd 3 (rs nth) ((rows nth).take t2) k Z1 = Z2 at w2 tt2 next2 so10
            clear F2
            have hat := q_at ad2 hin
            have hm := w2.m1
            have hhl := w2.hhl
            have hre3 := w2.pl.sm _ _ lg8.re_
            have hkq := w2.pl.sm _ _ hkA.2.1
            unfold l1A at next2
            have i23 : i2 < 3 := by omega
            cases ek : C.kd i2 with
            | wr x =>
              have hq := w2.qbW hin ek
              cases er : rs nth with
              | false =>
                rw [er] at ae next2
                walk_at "go"
                rw [e3]
                exact ⟨C, ad2, _, i2, U5, Z2, _, k, rfl, w2, hin, i23, dk, so10, hkA, tt2, fun H3 ad3 w3 a3 => next2 _ ad3 w3 (a3.trans AdL.refl (Nat.le_of_lt hin))⟩
              | true =>
                rw [er] at ae next2
                cases el : decide ((Z2.hs i2).lv ≤ k.d.lv) with
                | true =>
                  walk_at "go"
                  rw [e3]
                  exact ⟨C, ad2, _, i2, U5, Z2, _, k, rfl, w2, hin, i23, dk, so10, hkA, tt2, fun H3 ad3 w3 a3 => next2 _ ad3 (by rw [if_pos (show okL true (Z2.hs i2).lv k = true from el)]; exact w3) (a3.trans AdL.refl (Nat.le_of_lt hin))⟩
                | false =>
                  walk_at "go"
                  exact next2 _ ad2 (by rw [if_neg (show ¬ okL true (Z2.hs i2).lv k = true from by rw [show okL true (Z2.hs i2).lv k = false from el]; exact fun z => nomatch z)]; exact w2) AdL.refl
            | mem md =>
              have hq := w2.qbM hin ek
              cases er : rs nth with
              | false =>
                rw [er] at ae next2
                walk_at "go"
                rw [e3]
                exact ⟨C, ad2, _, i2, U5, Z2, _, k, rfl, w2, hin, i23, dk, so10, hkA, tt2, fun H3 ad3 w3 a3 => next2 _ ad3 w3 (a3.trans AdL.refl (Nat.le_of_lt hin))⟩
              | true =>
                rw [er] at ae next2
                cases el : decide ((Z2.hs i2).lv ≤ k.d.lv) with
                | true =>
                  have el2 : decide ((md.clo (Z2.hs i2).lv).lv ≤ k.d.lv) = true := el
                  walk_at "go"
                  rw [e3]
                  exact ⟨C, ad2, _, i2, U5, Z2, _, k, rfl, w2, hin, i23, dk, so10, hkA, tt2, fun H3 ad3 w3 a3 => next2 _ ad3 (by rw [if_pos (show okL true (Z2.hs i2).lv k = true from el)]; exact w3) (a3.trans AdL.refl (Nat.le_of_lt hin))⟩
                | false =>
                  have el2 : decide ((md.clo (Z2.hs i2).lv).lv ≤ k.d.lv) = false := el
                  walk_at "go"
                  exact next2 _ ad2 (by rw [if_neg (show ¬ okL true (Z2.hs i2).lv k = true from by rw [show okL true (Z2.hs i2).lv k = false from el]; exact fun z => nomatch z)]; exact w2) AdL.refl
          · obtain ⟨⟨ad2, x13b, w2, a2, rfl⟩⟩ := hP
            rw [List.length_map, List.take_length] at w2
            exact next _ ad2 _ w2 a2
        · obtain ⟨⟨ad', x13, x19, w1, a1, rfl⟩⟩ := hP
          rw [show (kQ ks).length = ks.length from by unfold kQ; rw [List.length_map], List.take_length] at w1
          have F9 := rnA_ok (a := sa) (b := sb) dk hL1 (c := 3) (rs := rs nth) hrow ks z (fun k hk => so8.wk k (hkm k hk)) so8
          have wl9 := w1.wl
          rw [F9.wt, a1.bs.2.2.2.1, a5.bs.2.2.2.1] at wl9
          clear hwlB wl6
          walk_at "go"
          intro p9 fp9
          rw [cut_drop _ (by rw [lkq]; exact hdl), show (kQ z.wt).drop (dueN none z.wt.length) = kQ (z.wt.drop (dueN none z.wt.length)) from by unfold kQ; rw [List.map_drop]]
          have W9 := w1.neV (z.wt.drop (dueN none z.wt.length)) fp9
          rw [← hU5] at W9
          have es9 : adU ad' .wl p9 .s = ad .s := (adU_ne (ad := ad') (r0 := .wl) (r := .s) (p := p9) (fun z => nomatch z)).trans (a1.bs.1.trans a5.bs.1)
          have el9 : adU ad' .wl p9 .l = ad .l := (adU_ne (ad := ad') (r0 := .wl) (r := .l) (p := p9) (fun z => nomatch z)).trans (a1.bs.2.1.trans a5.bs.2.1)
          have m1 : (rows nth).length * ks.length ≤ 4 * ks.length := Nat.mul_le_mul_right _ hrl
          have t9 := F9.tt
          refine kb _ _ ⟨p9, _, _, _, _, _, _, _, _, _, _, rfl, ⟨C, adU ad' .wl p9, (rnA C.kd 3 (rs nth) (rows nth) ks z).wts (z.wt.drop (dueN none z.wt.length)), rp, lp, rows, rs, W9.re.mono (by omega), h3, es9, el9, rfl, rfl, adU_at, (F9.ok.wts fun k hk => so8.wk k (List.mem_of_mem_drop hk)).mono fun k hk => hk.same W9.up, ?_, dk, (lg8.same W9.up).ad (fun j => (adU_ne (ad := ad') (r0 := .wl) (r := .h j) (p := p9) (fun z => nomatch z)).trans (a1.h j)) ((adU_ne (ad := ad') (r0 := .wl) (r := .wq) (p := p9) (fun z => nomatch z)).trans a1.bs.2.2.1)⟩⟩
          show (rnA C.kd 3 (rs nth) (rows nth) ks z).tt C.n + 4 * (z.wt.drop (dueN none z.wt.length)).length ≤ _
          omega
      | some mm =>
        have tn : decide (mV (some mm) = V.non) = false := rfl
        have tn2 : (!decide (mV (some mm) = V.non)) = true := rfl
        have ed : (if (((kQ z.wt).length : Nat) : Int) < ((mm : Nat) : Int) then (((kQ z.wt).length : Nat) : Int) else ((mm : Nat) : Int)) = ((dueN (some mm) z.wt.length : Nat) : Int) := by
          rw [lkq]
          show _ = ((min mm z.wt.length : Nat) : Int)
          split <;> omega
        walk_at "go"
        rw [e1]
        refine ⟨C, ad, _, z, z, Gs C ad Hb, lp nth, qp, dq, rs nth, rows nth, (some mm), rfl, WB, lB, hqB, hcC, dk, soB, tr, by omega, fun H5 ad5 W5 a5 => ?_⟩
        generalize hU5 : (rnA C.kd 3 (rs nth) (rows nth) (z.wt.take (dueN (some mm) z.wt.length)) z).wts (z.wt.drop (dueN (some mm) z.wt.length)) = U5 at W5
        rw [ed]
        walk_at "go"
        rw [e4]
        refine ⟨_, _, rfl, .int _ _, fun H6 s6 => ?_⟩
        have W6 := W5.same s6
        have W7 := W6.re
        have wl6 := W7.wl
        rw [a5.bs.2.2.2.1] at wl6
        have so7 := soB.mono fun k hk => hk.same W6.up
        have lg7 := (lgB.same W6.up).ad (ad' := ad5) a5.h a5.bs.2.2.1
        walk_at "go"
        intro p8 fp8
        rw [cut_take _ (by rw [lkq]; exact dueN_le _ _), show (kQ z.wt).take (dueN (some mm) z.wt.length) = kQ (z.wt.take (dueN (some mm) z.wt.length)) from by unfold kQ; rw [List.map_take]]
        generalize hks : z.wt.take (dueN (some mm) z.wt.length) = ks at *
        have hkm : ∀ k ∈ ks, k ∈ z.wt := fun k hk => by rw [← hks] at hk; exact List.mem_of_mem_take hk
        have hkl : ks.length ≤ z.wt.length := by rw [← hks, List.length_take]; exact Nat.min_le_right _ _
        have g8 : Gs C ad5 (upd H6 p8 (.lst (kQ ks))) p8 = some (.lst (kQ ks)) := rst_at upd_same (W7.fresh fp8)
        have W8a := W7.same (same_new fp8 (.lst (kQ ks)))
        have W8 := W8a.re
        have s8 := W8a.up
        have lg8 := lg7.same s8
        have so8 := so7.mono fun k hk => hk.same s8
        have hm8 := W8.m1
        generalize upd H6 p8 (.lst (kQ ks)) = H8 at g8 W8 s8 lg8 so8 hm8 ⊢
        clear W8a fp8
        have hL1 : ∀ k, KpAt K (Gs C ad5 H8) k → LRc k.d := fun k h => h.2.2
        have lsum : ks.length + (z.wt.drop (dueN (some mm) z.wt.length)).length = z.wt.length := by rw [← hks, ← List.length_append, List.take_append_drop]
        have hdl := dueN_le (some mm) z.wt.length
        refine ⟨p8, rfl, ⟨_, SqL.of (W8.pl.sm _ _ g8)⟩, ?_⟩
        refine for_it (walk_list (xs := kQ ks)) (RnL K C ad5 (n + 3 + 1 + 1 + 1) U5 z (Gs C ad5 H8) 3 (rs nth) (rows nth) ks (fun x13 x19 => sD sc (ad .s) o2 C.y C.m qp rw ls re (ad .wl) (some (.int (i : Nat))) o11 o12 x13 o14 o15' (some (.int (nth : Nat))) (some (mV (some mm))) (some (.int (dueN (some mm) z.wt.length : Nat))) x19)) ⟨ad5, _, _, W8, AdL.refl, rfl⟩ (fun t σ H' _ hp => ?_) (fun t x σ H0' H9 ht1 hP hy => ?_) (fun σ H9 hP => ?_)
        · obtain ⟨ad', x13, x19, w1, a1, _⟩ := hp.w
          exact SqL.of (w1.pl.sm _ _ g8)
        · obtain ⟨rfl, hy⟩ := hy
          obtain ⟨⟨ad', x13, x19, w1, a1, rfl⟩⟩ := hP
          unfold kQ at hy
          rw [List.getElem?_map] at hy
          obtain ⟨k, hk0, rfl⟩ := Option.map_eq_some_iff.mp hy
          have hkA := so8.wk k (hkm k (List.mem_of_getElem? hk0))
          have lt2 : t < ks.length := (List.getElem?_eq_some_iff.mp hk0).1
          have lt1 : (ks.take t).length = t := by rw [List.length_take]; exact Nat.min_eq_left (Nat.le_of_lt lt2)
          have F1 := rnA_ok (a := sa) (b := sb) dk hL1 (c := 3) (rs := rs nth) hrow (ks.take t) z (fun k hk => so8.wk k (hkm k (List.mem_of_mem_take hk))) so8
          have tt1 : (rnA C.kd 3 (rs nth) (rows nth) (ks.take t) z).tt C.n + (rows nth).length ≤ 80 := by
            have h1 := F1.tt
            rw [lt1] at h1
            have h2 : (rows nth).length * (t + 1) ≤ (rows nth).length * z.wt.length := Nat.mul_le_mul_left _ (by omega)
            rw [Nat.mul_succ] at h2
            omega
          have next : ∀ (H2 : Hp) (ad2 : Ro → Addr) (a13 : Option V), Wd K C ad2 (n + 3 + 1 + 1 + 1) U5 (ldA C.kd 3 (rs nth) (rows nth) k (rnA C.kd 3 (rs nth) (rows nth) (ks.take t) z)) (Gs C ad5 H8) H2 → AdL C.n ad' ad2 → RnL K C ad5 (n + 3 + 1 + 1 + 1) U5 z (Gs C ad5 H8) 3 (rs nth) (rows nth) ks (fun x13 x19 => sD sc (ad .s) o2 C.y C.m qp rw ls re (ad .wl) (some (.int (i : Nat))) o11 o12 x13 o14 o15' (some (.int (nth : Nat))) (some (mV (some mm))) (some (.int (dueN (some mm) z.wt.length : Nat))) x19) (t + 1) (sD sc (ad .s) o2 C.y C.m qp rw ls re (ad .wl) (some (.int (i : Nat))) o11 o12 a13 o14 o15' (some (.int (nth : Nat))) (some (mV (some mm))) (some (.int (dueN (some mm) z.wt.length : Nat))) (some (.ref k.q))) H2 := fun H2 ad2 a13 w2 a2 => ⟨⟨ad2, a13, _, by unfold rnA at w2 ⊢; rw [foldl_take hk0]; exact w2, a1.trans a2 (Nat.le_refl _), rfl⟩⟩
          have so9 := F1.ok
          generalize rnA C.kd 3 (rs nth) (rows nth) (ks.take t) z = Z1 at w1 tt1 next so9
          clear F1
          have hrw8 := w1.pl.sm _ _ lg8.rw_
          have hrp8 := w1.pl.sm _ _ (lg8.r nth hn2)
          walk_at "go"
          refine for_it (walk_list (xs := (rows nth).map fun i => V.int (i : Nat))) (LdL K C ad' (n + 3 + 1 + 1 + 1) U5 Z1 (Gs C ad5 H8) 3 (rs nth) (rows nth) k (fun x13 => sD sc (ad .s) o2 C.y C.m qp rw ls re (ad .wl) (some (.int (i : Nat))) o11 o12 x13 o14 o15' (some (.int (nth : Nat))) (some (mV (some mm))) (some (.int (dueN (some mm) z.wt.length : Nat))) (some (.ref k.q)))) ⟨ad', _, w1, AdL.refl, rfl⟩ (fun t2 σ H' _ hp => ?_) (fun t2 x σ H0' H10 ht2 hP hy => ?_) (fun σ H10 hP => ?_)
          · obtain ⟨ad'', x13b, w2, a2, _⟩ := hp.w
            exact SqL.of (w2.pl.sm _ _ (lg8.r nth hn2))
          · obtain ⟨rfl, hy⟩ := hy
            obtain ⟨⟨ad2, x13b, w2, a2, rfl⟩⟩ := hP
            rw [List.getElem?_map] at hy
            obtain ⟨i2, hi2, rfl⟩ := Option.map_eq_some_iff.mp hy
            have hin := hrow i2 (List.mem_of_getElem? hi2)
            have lu2 : t2 < (rows nth).length := (List.getElem?_eq_some_iff.mp hi2).1
            have lu1 : ((rows nth).take t2).length = t2 := by rw [List.length_take]; exact Nat.min_eq_left (Nat.le_of_lt lu2)
            have F2 := ldA_ok (a := sa) (b := sb) dk hL1 (c := 3) (rs := rs nth) hkA ((rows nth).take t2) Z1 (fun i h => hrow i (List.mem_of_mem_take h)) so9
            have tt2 : (ldA C.kd 3 (rs nth) ((rows nth).take t2) k Z1).tt (i2 + 1) + 1 ≤ 80 := by
              have h1 := F2.tt
              have h2 := tt_le (s := ldA C.kd 3 (rs nth) ((rows nth).take t2) k Z1) (show i2 + 1 ≤ C.n from hin)
              omega
            have next2 : ∀ (H2 : Hp) (ad3 : Ro → Addr), Wd K C ad3 (n + 3 + 1 + 1 + 1) U5 (l1A C.kd 3 (rs nth) k i2 (ldA C.kd 3 (rs nth) ((rows nth).take t2) k Z1)) (Gs C ad5 H8) H2 → AdL C.n ad2 ad3 → LdL K C ad' (n + 3 + 1 + 1 + 1) U5 Z1 (Gs C ad5 H8) 3 (rs nth) (rows nth) k (fun x13 => sD sc (ad .s) o2 C.y C.m qp rw ls re (ad .wl) (some (.int (i : Nat))) o11 o12 x13 o14 o15' (some (.int (nth : Nat))) (some (mV (some mm))) (some (.int (dueN (some mm) z.wt.length : Nat))) (some (.ref k.q))) (t2 + 1) (sD sc (ad .s) o2 C.y C.m qp rw ls re (ad .wl) (some (.int (i : Nat))) o11 o12 (some (.int (i2 : Nat))) o14 o15' (some (.int (nth : Nat))) (some (mV (some mm))) (some (.int (dueN (some mm) z.wt.length : Nat))) (some (.ref k.q))) H2 := fun H2 ad3 w3 a3 => ⟨⟨ad3, _, by unfold ldA at w3 ⊢; rw [foldl_take hi2]; exact w3, a2.trans a3 (Nat.le_refl _), rfl⟩⟩
            have so10 := F2.ok
            generalize ldA C.kd 3 (rs nth) ((rows nth).take t2) k Z1 = Z2 at w2 tt2 next2 so10
            clear F2
            have hat := q_at ad2 hin
            have hm := w2.m1
            have hhl := w2.hhl
            have hre3 := w2.pl.sm _ _ lg8.re_
            have hkq := w2.pl.sm _ _ hkA.2.1
            unfold l1A at next2
            have i23 : i2 < 3 := by omega
            cases ek : C.kd i2 with
            | wr x =>
              have hq := w2.qbW hin ek
              cases er : rs nth with
              | false =>
                rw [er] at ae next2
                walk_at "go"
                rw [e3]
                exact ⟨C, ad2, _, i2, U5, Z2, _, k, rfl, w2, hin, i23, dk, so10, hkA, tt2, fun H3 ad3 w3 a3 => next2 _ ad3 w3 (a3.trans AdL.refl (Nat.le_of_lt hin))⟩
              | true =>
                rw [er] at ae next2
                cases el : decide ((Z2.hs i2).lv ≤ k.d.lv) with
                | true =>
                  walk_at "go"
                  rw [e3]
                  exact ⟨C, ad2, _, i2, U5, Z2, _, k, rfl, w2, hin, i23, dk, so10, hkA, tt2, fun H3 ad3 w3 a3 => next2 _ ad3 (by rw [if_pos (show okL true (Z2.hs i2).lv k = true from el)]; exact w3) (a3.trans AdL.refl (Nat.le_of_lt hin))⟩
                | false =>
                  walk_at "go"
                  exact next2 _ ad2 (by rw [if_neg (show ¬ okL true (Z2.hs i2).lv k = true from by rw [show okL true (Z2.hs i2).lv k = false from el]; exact fun z => nomatch z)]; exact w2) AdL.refl
            | mem md =>
              have hq := w2.qbM hin ek
              cases er : rs nth with
              | false =>
                rw [er] at ae next2
                walk_at "go"
                rw [e3]
                exact ⟨C, ad2, _, i2, U5, Z2, _, k, rfl, w2, hin, i23, dk, so10, hkA, tt2, fun H3 ad3 w3 a3 => next2 _ ad3 w3 (a3.trans AdL.refl (Nat.le_of_lt hin))⟩
              | true =>
                rw [er] at ae next2
                cases el : decide ((Z2.hs i2).lv ≤ k.d.lv) with
                | true =>
                  have el2 : decide ((md.clo (Z2.hs i2).lv).lv ≤ k.d.lv) = true := el
                  walk_at "go"
                  rw [e3]
                  exact ⟨C, ad2, _, i2, U5, Z2, _, k, rfl, w2, hin, i23, dk, so10, hkA, tt2, fun H3 ad3 w3 a3 => next2 _ ad3 (by rw [if_pos (show okL true (Z2.hs i2).lv k = true from el)]; exact w3) (a3.trans AdL.refl (Nat.le_of_lt hin))⟩
                | false =>
                  have el2 : decide ((md.clo (Z2.hs i2).lv).lv ≤ k.d.lv) = false := el
                  walk_at "go"
                  exact next2 _ ad2 (by rw [if_neg (show ¬ okL true (Z2.hs i2).lv k = true from by rw [show okL true (Z2.hs i2).lv k = false from el]; exact fun z => nomatch z)]; exact w2) AdL.refl
          · obtain ⟨⟨ad2, x13b, w2, a2, rfl⟩⟩ := hP
            rw [List.length_map, List.take_length] at w2
            exact next _ ad2 _ w2 a2
        · obtain ⟨⟨ad', x13, x19, w1, a1, rfl⟩⟩ := hP
          rw [show (kQ ks).length = ks.length from by unfold kQ; rw [List.length_map], List.take_length] at w1
          have F9 := rnA_ok (a := sa) (b := sb) dk hL1 (c := 3) (rs := rs nth) hrow ks z (fun k hk => so8.wk k (hkm k hk)) so8
          have wl9 := w1.wl
          rw [F9.wt, a1.bs.2.2.2.1, a5.bs.2.2.2.1] at wl9
          clear hwlB wl6
          walk_at "go"
          intro p9 fp9
          rw [cut_drop _ (by rw [lkq]; exact hdl), show (kQ z.wt).drop (dueN (some mm) z.wt.length) = kQ (z.wt.drop (dueN (some mm) z.wt.length)) from by unfold kQ; rw [List.map_drop]]
          have W9 := w1.neV (z.wt.drop (dueN (some mm) z.wt.length)) fp9
          rw [← hU5] at W9
          have es9 : adU ad' .wl p9 .s = ad .s := (adU_ne (ad := ad') (r0 := .wl) (r := .s) (p := p9) (fun z => nomatch z)).trans (a1.bs.1.trans a5.bs.1)
          have el9 : adU ad' .wl p9 .l = ad .l := (adU_ne (ad := ad') (r0 := .wl) (r := .l) (p := p9) (fun z => nomatch z)).trans (a1.bs.2.1.trans a5.bs.2.1)
          have m1 : (rows nth).length * ks.length ≤ 4 * ks.length := Nat.mul_le_mul_right _ hrl
          have t9 := F9.tt
          refine kb _ _ ⟨p9, _, _, _, _, _, _, _, _, _, _, rfl, ⟨C, adU ad' .wl p9, (rnA C.kd 3 (rs nth) (rows nth) ks z).wts (z.wt.drop (dueN (some mm) z.wt.length)), rp, lp, rows, rs, W9.re.mono (by omega), h3, es9, el9, rfl, rfl, adU_at, (F9.ok.wts fun k hk => so8.wk k (List.mem_of_mem_drop hk)).mono fun k hk => hk.same W9.up, ?_, dk, (lg8.same W9.up).ad (fun j => (adU_ne (ad := ad') (r0 := .wl) (r := .h j) (p := p9) (fun z => nomatch z)).trans (a1.h j)) ((adU_ne (ad := ad') (r0 := .wl) (r := .wq) (p := p9) (fun z => nomatch z)).trans a1.bs.2.2.1)⟩⟩
          show (rnA C.kd 3 (rs nth) (rows nth) ks z).tt C.n + 4 * (z.wt.drop (dueN (some mm) z.wt.length)).length ≤ _
          omega
  obtain ⟨wl', o7, o11', o12', o13', o14', o15'', o16', o17', o18', o19', rfl, T2⟩ := hm
  obtain ⟨C, ad, z, rp, lp, rows, rs, W1, h3, rfl, rfl, rfl, rfl, rfl, so, tt, dk, lg⟩ := id T2
  obtain ⟨dq, hq⟩ := lg.q
  have hq2 := W1.pl.sm _ _ hq
  have hwq := W1.wq
  have hwl := W1.wl
  have lq : (kR z.wt).length ≤ 1000000 := by unfold kR; rw [List.length_map]; omega
  have ll : ((kR z.wt).length : Nat) = (kQ z.wt).length := by unfold kR kQ; rw [List.length_map, List.length_map]
  walk_at "go"
  rw [e4]
  refine ⟨_, _, rfl, (by rw [ll]; exact .int _ _), fun H3 s3 => ?_⟩
  have W3 := W1.same s3
  walk_at "go"
  rw [e5]
  refine ⟨C, ad, _, z, _, rfl, W3, so, by omega, by omega, fun H4 s4 => ?_⟩
  walk_at "go"
  exact k' _ _ _ ((T2.same s3).same s4) ⟨_, _, _, _, _, _, _, _, _, _, rfl⟩
end
end K17

set_option Elab.async false
set_option linter.all false
set_option maxRecDepth 100000
set_option maxHeartbeats 0
namespace K17
open PySem PySem.Spec PyProof.Rows L2 RC
section
variable {P : Program} {w : World} {K : PySem.W.Frag} {mg : Str → Option Value} {base : Heap}
/-! ### places that do not stand yet -/
noncomputable def Mk (X : List Addr) (H : Hp) : Hp := rst (fun b => b ∈ X) H
section
variable {C : Cfg} {ad : Ro → Addr} {n n' : Nat} {P L : AS} {G H H' : Hp} {X : List Addr} {p D : Addr} {o : HO}
theorem Mk.upd (h : p ∈ X) : Mk X (upd H p o) = Mk X H := by
  funext b
  by_cases e : b ∈ X
  · unfold Mk; rw [rst_none e, rst_none e]
  · have ne : b ≠ p := fun z => e (by rw [z]; exact h)
    unfold Mk rst
    rw [if_neg e, if_neg e, upd_ne ne]
theorem Mk.le (h : Same H H') : Same (Mk X H) (Mk X H') := fun b u e => by
  by_cases c : b ∈ X
  · unfold Mk at e; rw [rst_none c] at e; cases e
  · exact rst_at (h _ _ (rst_same _ _ e)) c
theorem Mk.out : Same (Mk (p :: X) H) (Mk X H) := fun b u e => by
  by_cases c : b ∈ p :: X
  · unfold Mk at e; rw [rst_none c] at e; cases e
  · exact rst_at (rst_same _ _ e) fun z => c (List.mem_cons_of_mem _ z)
theorem Mk.put (h : H p = none) : Same (Mk X H) (Mk (p :: X) (L2.upd H p o)) := fun b u e => by
  have e2 : H b = some u := rst_same _ _ e
  by_cases c : b ∈ X
  · unfold Mk at e; rw [rst_none c] at e; cases e
  · have ne : b ≠ p := ne_of_none e2 h
    exact rst_at (by rw [upd_ne ne]; exact e2) fun z => (List.mem_cons.mp z).elim ne c
theorem Mk.nin {u : HO} (h : Mk X H p = some u) : p ∉ X := fun c => by unfold Mk at h; rw [rst_none c] at h; cases h
theorem Wd.mstm (w : Wd K C ad n P L G (Mk X H)) : Stm H (ad .s) (ad .l) n := w.stm.same rst_same
theorem Wd.mall (w : Wd K C ad n P L G (Mk X H)) : Wd K C ad n P L G H := w.same rst_same
theorem Wd.msame (w : Wd K C ad n P L G (Mk X H)) (h : Same H H') : Wd K C ad n P L G (Mk X H') := w.same (Mk.le h)
theorem Wd.mold (w : Wd K C ad n P L G (Mk X H)) (o : Old (ad .s) (ad .l) H H') (st : Stm H' (ad .s) (ad .l) n') : Wd K C ad n' P L G (Mk X H') := by
  have h1 := w.stm
  obtain ⟨ne, ns, x, c, d, g1, g2, g3⟩ := h1
  have n1 := Mk.nin g1
  have n2 := Mk.nin g2
  obtain ⟨ne', ns', x', c', d', q1, q2, q3⟩ := st
  refine w.old (fun b u h1 h2 e => ?_) ⟨ne', ns', x', c', d', rst_at q1 n1, rst_at q2 n2, q3⟩
  by_cases cc : b ∈ X
  · unfold Mk at e; rw [rst_none cc] at e; cases e
  · exact rst_at (o _ _ h1 h2 (rst_same _ _ e)) cc
theorem Wd.mput (w : Wd K C ad n P L G (Mk X H)) (h : H p = none) : Wd K C ad n P L G (Mk (p :: X) (upd H p o)) := w.same (Mk.put h)
theorem Wd.mout (w : Wd K C ad n P L G (Mk (p :: X) H)) : Wd K C ad n P L G (Mk X H) := w.same Mk.out
theorem Wd.mupd (w : Wd K C ad n P L G (Mk X H)) (h : p ∈ X) : Wd K C ad n P L G (Mk X (upd H p o)) := by rw [Mk.upd h]; exact w
theorem Wd.mns (w : Wd K C ad n P L G (Mk X H)) (h : p ∈ X) : p ≠ ad .s ∧ p ≠ ad .l := by
  obtain ⟨ne, ns, x, c, d, g1, g2, g3⟩ := w.stm
  exact ⟨fun z => Mk.nin g1 (by rw [← z]; exact h), fun z => Mk.nin g2 (by rw [← z]; exact h)⟩
end
theorem Wd.mfree {K : PySem.W.Frag} {C : Cfg} {ad : Ro → Addr} {n : Nat} {P L : AS} {G H : Hp} {X : List Addr} {p : Addr} (w : Wd K C ad n P L G (Mk X H)) (h : p ∈ X) : ¬ Mvs C ad p := fun ⟨r, h1, h2⟩ => (w.pl.lv r h1).1 (by rw [← h2]; exact rst_none h)
theorem grow {α : Type} (g : α → V) (f : Nat → α) (v : α) (i : Nat) : ((List.range i).map fun j => g (f j)) ++ [g v] = (List.range (i + 1)).map fun j => g (if j = i then v else f j) := by
  rw [List.range_succ, List.map_append, List.map_singleton, if_pos rfl]
  congr 1
  exact List.map_congr_left fun j hj => by rw [if_neg (Nat.ne_of_lt (List.mem_range.mp hj))]
/-! ### the listeners of a turn -/
structure LI (K : PySem.W.Frag) (s l y m qp rw ls re wl : Addr) (n i : Nat) (H : Hp) : Prop where
  w : ∃ (C : Cfg) (ad : Ro → Addr) (z : AS) (G : Hp) (rp lp : Nat → Addr) (rows : Nat → List Nat) (rs : Nat → Bool), Wd K C ad n z z G (Mk [rw, ls, re] H) ∧ C.n = 3 ∧ ad .s = s ∧ ad .l = l ∧ C.y = y ∧ C.m = m ∧ ad .wl = wl ∧ SO K G z ∧ z.tt C.n + 4 * z.wt.length ≤ 0 ∧ DOk sa sb C.kd C.n ∧ (∃ dq, G qp = some (.ins (CQ K) dq [("waiting", .ref (ad .wq))])) ∧
    (rw ≠ ls ∧ rw ≠ re ∧ ls ≠ re) ∧ H rw = some (.lst ((List.range i).map fun j => V.ref (rp j))) ∧ H ls = some (.lst ((List.range i).map fun j => V.ref (lp j))) ∧ H re = some (.lst ((List.range i).map fun j => V.bl (rs j))) ∧
    (∀ j, j < i → G (rp j) = some (.lst ((rows j).map fun i => V.int (i : Nat)))) ∧ ∀ j, j < i → LsA K C ad G (lp j) qp (rs j) (rows j)
theorem LI.ti {s l y m qp rw ls re wl : Addr} {n : Nat} {H : Hp} (h : LI K s l y m qp rw ls re wl n 2 H) : TI K s l y m qp rw ls re wl n 0 H := by
  obtain ⟨C, ad, z, G, rp, lp, rows, rs, w, h3, es, el, ey, em, ew, so, tt, dk, ⟨dq, hq⟩, nd, hrw, hls, hre, hr, hl⟩ := h.w
  have w1 := w.mall
  have nM : ∀ p ∈ [rw, ls, re], ¬ Mvs C ad p := fun p hp ⟨r, h1, h2⟩ => (w.pl.lv r h1).1 (by rw [← h2]; exact rst_none hp)
  exact ⟨C, ad, z, rp, lp, rows, rs, w1.re, h3, es, el, ey, em, ew, so.mono fun k hk => hk.same w1.up, by omega, dk, ⟨⟨dq, w1.up _ _ hq⟩, rst_at hrw (nM _ (by simp)), rst_at hls (nM _ (by simp)), rst_at hre (nM _ (by simp)), fun j hj => w1.up _ _ (hr j hj), fun j hj => (hl j hj).same w1.up⟩⟩
end
end K17

set_option Elab.async false
set_option linter.all false
set_option maxRecDepth 100000
set_option maxHeartbeats 0

namespace K17
open PySem PySem.Spec PyProof.Rows L2 RC
section
variable {P : Program} {w : World} {K : PySem.W.Frag} {mg : Str → Option Value} {base : Heap}
/-! ### a listener is made -/
theorem lsts (T : Txt P w K mg) {f : Addr} {cdv : Value} {A : Around} {outer : List Env} {st0 : Shared} {E : XK} {H : Hp} (hr : Room 24 (A.deeper (envOfC "law" (defScope s_law) st0.heap.objs.size f cdv)))
    {SI : Sp} (eI : SI = spLsInit K) (c__law_draw : Callable P w K mg base 1 (He.ga K "_law_draw") ["_law_stream", "_law_many"] [] spDraw)
    (c_QueueListener_init : Callable P w K mg base 1 (He.ma K (He.ga K "QueueListener") "__init__") ["self", "queue", "handlers", "respect_handler_level"] [] SI) :
    ∃ t, PSs (cxOf CX0 P w K mg base nm_law "law" (defScope s_law) f cdv A outer st0 H E).nox b_lst t ∧ ∀ {s l y m qp rw ls re wl sc : Addr} {n : Nat} (i : Nat) (H0 : Hp) (D' : Ends), LI K s l y m qp rw ls re wl n i H0 → i < 2 → n ≤ 900000 → ∀ o2 o11 o12 o13 o14 o15 o16 o17 o18 o19,
      (∀ H' o12 o14, LI K s l y m qp rw ls re wl (n + 8) (i + 1) H' → D'.nx (sD sc s o2 y m qp rw ls re wl (some (.int (i : Nat))) o11 o12 o13 o14 o15 o16 o17 o18 o19) H') → t D' (sD sc s o2 y m qp rw ls re wl (some (.int (i : Nat))) o11 o12 o13 o14 o15 o16 o17 o18 o19) H0 := by
  refine ⟨_, (pss_cons (ps_expr (pe_bm PySem.F.plainAttrs_list PySem.F.slot_list_append PySem.F.type_list_append mt_append (pv 8) (pa_cons (pe_lc (own := [("_law_j", 11)]) (by rfl) sc_law.nd (pi_range1 (by rfl) T.b_range (pa_cons (pe_fn T.g__law_draw c__law_draw (hr.mono (by first | decide | exact Nat.le_refl _ | omega)) (by rfl) (pa_cons (pv 1) (pa_cons pe_int pa_nil))) pa_nil)) (blkOk_by (own := [("_law_j", 11)]) (N := nm_law) (sc := defScope s_law) (by decide +kernel)) (fun _ _ _ _ _ => (pg_name (i := 11) sc_law.nd rfl (by first | exact Or.inl rfl | exact Or.inr rfl))) (fun _ _ _ _ _ => pts_nil) (fun _ _ _ _ _ => (pe_fn T.g__law_draw c__law_draw (hr.mono (by first | decide | exact Nat.le_refl _ | omega)) (by rfl) (pa_cons (pv 1) (pa_cons pe_int pa_nil))))) pa_nil)))
      (pss_cons (ps_expr (pe_bm PySem.F.plainAttrs_list PySem.F.slot_list_append PySem.F.type_list_append mt_append (pv 10) (pa_cons (pe_cmpR op_eq (pe_fn T.g__law_draw c__law_draw (hr.mono (by first | decide | exact Nat.le_refl _ | omega)) (by rfl) (pa_cons (pv 1) (pa_cons pe_int pa_nil))) pe_int (nomark _)) pa_nil)))
      (pss_cons (ps_setLc (i := 12) (own := [("_law_at", 13)]) (by rfl) sc_law.nd rfl rfl (sw_true rfl rfl rfl (by decide +kernel)) (pi_list (pe_ix ix_list (pv 8) (pv 7) (fun _ _ => rfl))) (blkOk_by (own := [("_law_at", 13)]) (N := nm_law) (sc := defScope s_law) (by decide +kernel)) (fun _ _ _ _ _ => (pg_name (i := 13) sc_law.nd rfl (by first | exact Or.inl rfl | exact Or.inr rfl))) (fun _ _ _ _ _ => pts_nil) (fun _ _ _ _ _ => (pe_dget (hu_of hr) (pe_ix (ixK (K := K) rIxL ix_list) (pe_dget (hu_of hr) (pv 4) pe_str (fun _ _ => rfl)) (pv 13) (fun _ _ => rfl)) pe_str (fun _ _ => rfl))))
      (pss_cons (ps_set (i := 14) sc_law.nd rfl (by first | exact Or.inl rfl | exact Or.inr rfl) (pe_ifExp (pt_cmpR op_eq (pe_fn T.g__law_draw c__law_draw (hr.mono (by first | decide | exact Nat.le_refl _ | omega)) (by rfl) (pa_cons (pv 1) (pa_cons pe_int pa_nil))) pe_int (nomark _)) (pv 12) (pe_callTy call_tuple_of (by rfl) T.b_tuple (by decide +kernel) (pa_cons (pv 12) pa_nil))))
      (pss_cons (ps_expr (pe_bm PySem.F.plainAttrs_list PySem.F.slot_list_append PySem.F.type_list_append mt_append (pv 9) (pa_cons (pe_mk T.k_QueueListener T.g_QueueListener c_QueueListener_init (hr.mono (by first | decide | exact Nat.le_refl _ | omega)) (by rfl) (pa_cons (pv 5) (pa_cons (pv 14) (pa_cons (pe_ix ix_list (pv 10) (pv 7) (fun _ _ => rfl)) pa_nil)))) pa_nil)))
      (pss_one (ps_expr (pe_bm PySem.F.plainAttrs_list PySem.F.slot_list_append PySem.F.type_list_append mt_append (pv 12) (pa_cons (pe_dget (hu_of hr) (pe_ix ix_list (pe_dget (hu_of hr) (pv 4) pe_str (fun _ _ => rfl)) (pe_fn T.g__law_draw c__law_draw (hr.mono (by first | decide | exact Nat.le_refl _ | omega)) (by rfl) (pa_cons (pv 1) (pa_cons pe_int pa_nil))) (fun _ _ => rfl)) pe_str (fun _ _ => rfl)) pa_nil))))))))), ?_⟩
  walk_at "in"
  intro s_ l_ y_ m_ qp rw ls re wl sc n i H0 D' hW hi hn o2 o11 o12 o13 o14 o15 o16 o17 o18 o19 k'
  obtain ⟨C, ad, z, G, rp, lp, rows, rs, w0, h3, rfl, rfl, rfl, rfl, rfl, so, tt, dk, ⟨dq, hq⟩, ⟨nd1, nd2, nd3⟩, hrw, hls, hre, hr, hl⟩ := hW.w
  clear hW
  have n0 : n ≤ 1000000 := by omega
  have st0' := w0.mstm
  have mrw : rw ∈ [rw, ls, re] := by simp
  have mls : ls ∈ [rw, ls, re] := by simp
  have mre : re ∈ [rw, ls, re] := by simp
  obtain ⟨a1, a2⟩ := w0.mns mrw
  obtain ⟨a3, a4⟩ := w0.mns mls
  obtain ⟨a5, a6⟩ := w0.mns mre
  -- the row
  refine seq_of (fun σ' H' => ∃ (rp' : Nat → Addr) (rows' : Nat → List Nat) (G' : Hp), σ' = sD sc (ad .s) o2 C.y C.m qp rw ls re (ad .wl) (some (.int (i : Nat))) o11 o12 o13 o14 o15 o16 o17 o18 o19 ∧ Wd K C ad (n + 5) z z G' (Mk [rw, ls, re] H') ∧ Same G G' ∧ H' rw = some (.lst ((List.range (i + 1)).map fun j => V.ref (rp' j))) ∧ H' ls = some (.lst ((List.range i).map fun j => V.ref (lp j))) ∧ H' re = some (.lst ((List.range i).map fun j => V.bl (rs j))) ∧
    (∀ j, j < i + 1 → G' (rp' j) = some (.lst ((rows' j).map fun i => V.int (i : Nat)))) ∧ (∀ j, j < i → rows' j = rows j ∧ rp' j = rp j) ∧ (rows' i).length ≤ 4 ∧ ∀ k ∈ rows' i, k < 3) (fun b' kb => ?_) (fun σ' H1 hm => ?_)
  · walk_at "go"
    intro H1 d p1 st1 d1 d2
    have w1 := w0.mold p1 st1
    have hrw1 := p1 _ _ a1 a2 hrw
    have hls1 := p1 _ _ a3 a4 hls
    have hre1 := p1 _ _ a5 a6 hre
    clear st0'
    walk_at "go"
    intro D fD
    obtain ⟨d, rfl⟩ := Int.eq_ofNat_of_zero_le d1
    have wD := w1.mput (o := .lst []) fD
    have e1 := ne_of_none hrw1 fD
    have e2 := ne_of_none hls1 fD
    have e3 := ne_of_none hre1 fD
    refine lc_it walk_range (fun t H' => ∃ row : List Nat, row.length = t ∧ (∀ k ∈ row, k < 3) ∧ Wd K C ad (n + 1 + t) z z G (Mk [D, rw, ls, re] H') ∧ H' D = some (.lst (row.map fun i => V.int (i : Nat))) ∧ H' rw = some (.lst ((List.range i).map fun j => V.ref (rp j))) ∧ H' ls = some (.lst ((List.range i).map fun j => V.ref (lp j))) ∧ H' re = some (.lst ((List.range i).map fun j => V.bl (rs j)))) ⟨[], rfl, (fun _ z => nomatch z), wD, upd_same, by rw [upd_ne e1]; exact hrw1, by rw [upd_ne e2]; exact hls1, by rw [upd_ne e3]; exact hre1⟩ (fun _ _ _ _ => trivial) (fun t x H2 H3 ht hP hx => ?_) (fun H2 hP => ?_)
    · obtain ⟨rfl, rfl⟩ := hx
      obtain ⟨row, rfl, hr3, w2, gD, g1, g2, g3⟩ := hP
      have st2 := w2.mstm
      have nD := w2.mns (p := D) (by simp)
      have n2 : n + 1 + row.length ≤ 1000000 := by omega
      walk_at "go"
      intro H4 e p4 st4 f1 f2
      obtain ⟨e, rfl⟩ := Int.eq_ofNat_of_zero_le f1
      have lacc : (row.map fun i => V.int (i : Nat)).length < sizeLine := by rw [List.length_map, sizeLine_eq]; omega
      have ek : (row.map fun i => V.int (i : Nat)) ++ [V.int (e : Nat)] = (row ++ [e]).map fun i => V.int (i : Nat) := by rw [List.map_append]; rfl
      refine ⟨_, p4 _ _ nD.1 nD.2 gD, lacc, row ++ [e], by rw [List.length_append]; rfl, fun k hk => ?_, (w2.mold p4 st4).mupd (by simp), by rw [upd_same, ek], ?_, ?_, ?_⟩
      · rcases List.mem_append.mp hk with h | h
        · exact hr3 k h
        · rw [List.mem_singleton.mp h]; omega
      · rw [upd_ne e1]; exact p4 _ _ a1 a2 g1
      · rw [upd_ne e2]; exact p4 _ _ a3 a4 g2
      · rw [upd_ne e3]; exact p4 _ _ a5 a6 g3
    · obtain ⟨row, hrl, hr3, w2, gD, g1, g2, g3⟩ := hP
      have ll : ((List.range i).map fun j => V.ref (rp j)).length < sizeLine := by rw [List.length_map, List.length_range, sizeLine_eq]; omega
      have hln : row.length ≤ 4 := by omega
      have w3 := (w2.mupd (p := rw) (o := .lst (((List.range i).map fun j => V.ref (rp j)) ++ [V.ref D])) (by simp)).mout
      walk_at "go"
      have eu : upd H2 rw (.lst (((List.range i).map fun j => V.ref (rp j)) ++ [V.ref D])) rw = some (.lst ((List.range (i + 1)).map fun j => V.ref (if j = i then D else rp j))) := by
        rw [upd_same, grow V.ref rp D i]
      have gD2 : upd H2 rw (.lst (((List.range i).map fun j => V.ref (rp j)) ++ [V.ref D])) D = some (.lst (row.map fun i => V.int (i : Nat))) := by rw [upd_ne (Ne.symm e1)]; exact gD
      have g22 : upd H2 rw (.lst (((List.range i).map fun j => V.ref (rp j)) ++ [V.ref D])) ls = some (.lst ((List.range i).map fun j => V.ref (lp j))) := by rw [upd_ne (Ne.symm nd1)]; exact g2
      have g32 : upd H2 rw (.lst (((List.range i).map fun j => V.ref (rp j)) ++ [V.ref D])) re = some (.lst ((List.range i).map fun j => V.bl (rs j))) := by rw [upd_ne (Ne.symm nd2)]; exact g3
      have w4 : Wd K C ad (n + 5) z z G (Mk [rw, ls, re] (upd H2 rw (.lst (((List.range i).map fun j => V.ref (rp j)) ++ [V.ref D])))) := w3.mono (by omega)
      generalize upd H2 rw (.lst (((List.range i).map fun j => V.ref (rp j)) ++ [V.ref D])) = H5 at w4 eu gD2 g22 g32 ⊢
      have nDX : D ∉ [rw, ls, re] := by
        simp only [List.mem_cons, List.not_mem_nil, or_false, not_or]
        exact ⟨Ne.symm e1, Ne.symm e2, Ne.symm e3⟩
      have gD3 : Gs C ad (Mk [rw, ls, re] H5) D = some (.lst (row.map fun i => V.int (i : Nat))) := rst_at (rst_at gD2 nDX) (w2.mfree (by simp))
      refine kb _ _ ⟨fun j => if j = i then D else rp j, fun j => if j = i then row else rows j, _, rfl, w4.re, w4.up, eu, g22, g32, fun j hj => ?_, fun j hj => ⟨if_neg (Nat.ne_of_lt hj), if_neg (Nat.ne_of_lt hj)⟩, by dsimp only; rw [if_pos rfl]; exact hln, by dsimp only; rw [if_pos rfl]; exact hr3⟩
      dsimp only
      by_cases c : j = i
      · rw [if_pos c, if_pos c]; exact gD3
      · rw [if_neg c, if_neg c]; exact w4.up _ _ (hr j (by omega))
  obtain ⟨rp', rows', G', rfl, w1, sG, hrw1, hls1, hre1, hr1, hrs1, hrn, hr3⟩ := hm
  have so1 := so.mono fun k hk => hk.same sG
  have hq1 := sG _ _ hq
  have hl1 : ∀ j, j < i → LsA K C ad G' (lp j) qp (rs j) (rows' j) := fun j hj => by rw [(hrs1 j hj).1]; exact (hl j hj).same sG
  clear w0 hrw hls hre hr hl st0' so hq
  -- respects
  have st1 := w1.mstm
  have n5 : n + 5 ≤ 1000000 := by omega
  refine seq_of (fun σ' H' => ∃ (r : Bool), σ' = sD sc (ad .s) o2 C.y C.m qp rw ls re (ad .wl) (some (.int (i : Nat))) o11 o12 o13 o14 o15 o16 o17 o18 o19 ∧ Wd K C ad (n + 6) z z G' (Mk [rw, ls, re] H') ∧ H' rw = some (.lst ((List.range (i + 1)).map fun j => V.ref (rp' j))) ∧ H' ls = some (.lst ((List.range i).map fun j => V.ref (lp j))) ∧ H' re = some (.lst ((List.range (i + 1)).map fun j => V.bl (if j = i then r else rs j)))) (fun b' kb => ?_) (fun σ' H2 hm => ?_)
  · walk_at "go"
    intro H2 d p2 st2 d1 d2
    have w2 := w1.mold p2 st2
    have g1 := p2 _ _ a1 a2 hrw1
    have g2 := p2 _ _ a3 a4 hls1
    have g3 := p2 _ _ a5 a6 hre1
    have ll : ((List.range i).map fun j => V.bl (rs j)).length < sizeLine := by rw [List.length_map, List.length_range, sizeLine_eq]; omega
    walk_at "go"
    refine kb _ _ ⟨decide (V.int d = V.int 0), rfl, w2.mupd mre, ?_, ?_, ?_⟩
    · rw [upd_ne nd2]; exact g1
    · rw [upd_ne nd3]; exact g2
    · rw [upd_same, ← grow V.bl rs _ i]
  obtain ⟨r, rfl, w2, hrw2, hls2, hre2⟩ := hm
  clear w1 hrw1 hls1 hre1 st1
  have st2 := w2.mstm
  have n6 : n + 6 ≤ 1000000 := by omega
  -- the handlers
  refine seq_of (fun σ' H' => ∃ (p : Addr), σ' = sD sc (ad .s) o2 C.y C.m qp rw ls re (ad .wl) (some (.int (i : Nat))) o11 (some (.ref p)) o13 o14 o15 o16 o17 o18 o19 ∧ Wd K C ad (n + 6) z z G' (Mk [p, rw, ls, re] H') ∧ H' rw = some (.lst ((List.range (i + 1)).map fun j => V.ref (rp' j))) ∧ H' ls = some (.lst ((List.range i).map fun j => V.ref (lp j))) ∧ H' re = some (.lst ((List.range (i + 1)).map fun j => V.bl (if j = i then r else rs j))) ∧ H' p = some (.lst ((rows' i).map fun j => V.ref (ad (.h j)))) ∧ p ≠ rw ∧ p ≠ ls ∧ p ≠ re) (fun b' kb => ?_) (fun σ' H3 hm => ?_)
  · have wa := w2.mall
    have hm2 := wa.m1
    have hhl2 := wa.hhl
    have hrp2 := wa.pl.sm _ _ (hr1 i (Nat.lt_succ_self i))
    have al : atI ((List.range (i + 1)).map fun j => V.ref (rp' j)) ((i : Nat) : Int) = some (.ref (rp' i)) := by
      refine atI_nat ?_
      rw [List.getElem?_map, List.getElem?_range (Nat.lt_succ_self i)]; rfl
    walk_at "go"
    intro p fp
    have wp := w2.mput (o := .lst []) fp
    have e1 := ne_of_none hrw2 fp
    have e2 := ne_of_none hls2 fp
    have e3 := ne_of_none hre2 fp
    refine lc_it (walk_list (xs := (rows' i).map fun j => V.int (j : Nat))) (fun t H' => Wd K C ad (n + 6) z z G' (Mk [p, rw, ls, re] H') ∧ H' p = some (.lst (((rows' i).take t).map fun j => V.ref (ad (.h j)))) ∧ H' rw = some (.lst ((List.range (i + 1)).map fun j => V.ref (rp' j))) ∧ H' ls = some (.lst ((List.range i).map fun j => V.ref (lp j))) ∧ H' re = some (.lst ((List.range (i + 1)).map fun j => V.bl (if j = i then r else rs j)))) ⟨wp, upd_same, by rw [upd_ne e1]; exact hrw2, by rw [upd_ne e2]; exact hls2, by rw [upd_ne e3]; exact hre2⟩ (fun _ _ _ h => SqL.of (h.1.mall.pl.sm _ _ (hr1 i (Nat.lt_succ_self i)))) (fun t x H3 H4 ht hP hy => ?_) (fun H3 hP => ?_)
    · obtain ⟨rfl, hy⟩ := hy
      obtain ⟨w3, gp, g1, g2, g3⟩ := hP
      rw [List.getElem?_map] at hy
      obtain ⟨j, hj, rfl⟩ := Option.map_eq_some_iff.mp hy
      have hjm := hr3 j (List.mem_of_getElem? hj)
      have hjn : j < C.n := by omega
      have wc := w3.mall
      have hm3 := wc.m1
      have hhl3 := wc.hhl
      have hat := q_at ad hjn
      obtain ⟨kvs, hqj, hit⟩ := wc.it hjn
      have lacc : (((rows' i).take t).map fun j => V.ref (ad (.h j))).length < sizeLine := by rw [List.length_map, List.length_take, sizeLine_eq]; omega
      walk_at "go"
      refine ⟨w3.mupd (by simp), ?_, ?_, ?_, ?_⟩
      · rw [upd_same, take_more hj, List.map_append]; rfl
      · rw [upd_ne e1]; exact g1
      · rw [upd_ne e2]; exact g2
      · rw [upd_ne e3]; exact g3
    · obtain ⟨w3, gp, g1, g2, g3⟩ := hP
      rw [List.length_map, List.take_length] at gp
      walk_at "go"
      exact kb _ _ ⟨p, rfl, w3, g1, g2, g3, gp, Ne.symm e1, Ne.symm e2, Ne.symm e3⟩
  obtain ⟨p, rfl, w3, hrw3, hls3, hre3, hp3, np1, np2, np3⟩ := hm
  clear w2 hrw2 hls2 hre2 st2
  have st3 := w3.mstm
  obtain ⟨b1, b2⟩ := w3.mns (p := p) (by simp)
  -- the listener
  refine seq_of (fun σ' H' => ∃ (a : Addr) (b : Bool), σ' = sD sc (ad .s) o2 C.y C.m qp rw ls re (ad .wl) (some (.int (i : Nat))) o11 (some (.ref p)) o13 (some (.ref a)) o15 o16 o17 o18 o19 ∧ Wd K C ad (n + 7) z z G' (Mk [p, rw, ls, re] H') ∧ H' rw = some (.lst ((List.range (i + 1)).map fun j => V.ref (rp' j))) ∧ H' ls = some (.lst ((List.range i).map fun j => V.ref (lp j))) ∧ H' re = some (.lst ((List.range (i + 1)).map fun j => V.bl (if j = i then r else rs j))) ∧ H' p = some (.lst ((rows' i).map fun j => V.ref (ad (.h j)))) ∧ (H' a = some (.lst ((rows' i).map fun j => V.ref (ad (.h j)))) ∨ H' a = some (.tup ((rows' i).map fun j => V.ref (ad (.h j)))))) (fun b' kb => ?_) (fun σ' H4 hm => ?_)
  · walk_at "go"
    intro H4 d p4 st4 d1 d2
    have w4 := w3.mold p4 st4
    have g1 := p4 _ _ a1 a2 hrw3
    have g2 := p4 _ _ a3 a4 hls3
    have g3 := p4 _ _ a5 a6 hre3
    have gp := p4 _ _ b1 b2 hp3
    by_cases c : d = 0
    · have td : decide (V.int d = V.int 0) = true := decide_eq_true (congrArg V.int c)
      walk_at "go"
      exact kb _ _ ⟨p, true, rfl, w4, g1, g2, g3, gp, .inl gp⟩
    · have td : decide (V.int d = V.int 0) = false := decide_eq_false fun z => c (V.int.inj z)
      walk_at "go"
      refine .inl ⟨SqL.of gp, fun l fl => ?_⟩
      walk_at "go"
      have s5 := same_new fl (.tup ((rows' i).map fun j => V.ref (ad (.h j))))
      exact kb _ _ ⟨l, false, rfl, w4.msame s5, s5 _ _ g1, s5 _ _ g2, s5 _ _ g3, s5 _ _ gp, .inr upd_same⟩
  obtain ⟨a, _, rfl, w4, hrw4, hls4, hre4, hp4, ha4⟩ := hm
  clear w3 hrw3 hls3 hre3 st3
  have al : atI ((List.range (i + 1)).map fun j => V.bl (if j = i then r else rs j)) ((i : Nat) : Int) = some (.bl r) := by
    refine atI_nat ?_
    rw [List.getElem?_map, List.getElem?_range (Nat.lt_succ_self i)]
    show some (V.bl (if i = i then r else rs i)) = _
    rw [if_pos rfl]
  have ll : ((List.range i).map fun j => V.ref (lp j)).length < sizeLine := by rw [List.length_map, List.length_range, sizeLine_eq]; omega
  refine seq_of (fun σ' H' => ∃ (q : Addr), σ' = sD sc (ad .s) o2 C.y C.m qp rw ls re (ad .wl) (some (.int (i : Nat))) o11 (some (.ref p)) o13 (some (.ref a)) o15 o16 o17 o18 o19 ∧ Wd K C ad (n + 7) z z G' (Mk [p, rw, ls, re] H') ∧ H' rw = some (.lst ((List.range (i + 1)).map fun j => V.ref (rp' j))) ∧ H' ls = some (.lst ((List.range (i + 1)).map fun j => V.ref (if j = i then q else lp j))) ∧ H' re = some (.lst ((List.range (i + 1)).map fun j => V.bl (if j = i then r else rs j))) ∧ H' p = some (.lst ((rows' i).map fun j => V.ref (ad (.h j)))) ∧ LsA K C ad (Gs C ad (Mk [p, rw, ls, re] H')) q qp r (rows' i)) (fun b' kb => ?_) (fun σ' H5 hm => ?_)
  · walk_at "go"
    intro x dx f1 f2 f3
    rw [eI]
    have nh : ∀ {o : HO}, H4 a = some o → upd (upd H4 dx (.own x)) x (.ins (He.ga K "QueueListener") dx []) a = some o := fun h => by rw [upd_ne (ne_of_none h f1), upd_ne (ne_of_none h f2)]; exact h
    refine ⟨x, dx, qp, a, r, _, rfl, upd_same, ha4.imp nh nh, fun H5 hl_ keep fh nhx hh hx => ⟨rfl, ?_⟩⟩
    have s5 : Same H4 H5 := made_same f1 f2 (fun c u h e => keep c u h e)
    have w5 := w4.msame s5
    have g1 := s5 _ _ hrw4
    have g2 := s5 _ _ hls4
    have g3 := s5 _ _ hre4
    have gp := s5 _ _ hp4
    have fhl : H4 hl_ = none := (upd_none (upd_none fh).2).2
    have mx := w4.mall.fresh f1
    have mh := w4.mall.fresh fhl
    have xX : x ∉ [p, rw, ls, re] := by
      simp only [List.mem_cons, List.not_mem_nil, or_false, not_or]
      exact ⟨Ne.symm (ne_of_none hp4 f1), Ne.symm (ne_of_none hrw4 f1), Ne.symm (ne_of_none hls4 f1), Ne.symm (ne_of_none hre4 f1)⟩
    have hX : hl_ ∉ [p, rw, ls, re] := by
      simp only [List.mem_cons, List.not_mem_nil, or_false, not_or]
      exact ⟨Ne.symm (ne_of_none hp4 fhl), Ne.symm (ne_of_none hrw4 fhl), Ne.symm (ne_of_none hls4 fhl), Ne.symm (ne_of_none hre4 fhl)⟩
    clear keep fh
    walk_at "go"
    refine kb _ _ ⟨x, rfl, w5.mupd (by simp), ?_, ?_, ?_, ?_, ⟨⟨dx, hl_, rst_at (rst_at (by rw [upd_ne (Ne.symm (ne_of_none hls4 f1))]; exact hx) xX) mx, rst_at (rst_at (by rw [upd_ne (Ne.symm (ne_of_none hls4 fhl))]; exact hh) hX) mh⟩, fun k hk => by have := hr3 k hk; omega, hrn⟩⟩
    · rw [upd_ne nd1]; exact g1
    · rw [upd_same, grow V.ref lp x i]
    · rw [upd_ne (Ne.symm nd3)]; exact g3
    · rw [upd_ne np2]; exact gp
  obtain ⟨q, rfl, w5, hrw5, hls5, hre5, hp5, hl5⟩ := hm
  clear w4 hrw4 hls4 hre4 hp4 ha4
  -- more behind the making
  have w6 := w5.re
  have s6 := w5.up
  have st6 := w5.mstm
  have n7 : n + 7 ≤ 1000000 := by omega
  have wc := w5.mall
  have hm5 := wc.m1
  have hhl5 := wc.hhl
  walk_at "go"
  intro H6 d p6 st7 d1 d2
  obtain ⟨d, rfl⟩ := Int.eq_ofNat_of_zero_le d1
  have hdn : d < C.n := by omega
  have w7 := w6.mold p6 st7
  have wc7 := w7.mall
  have hm7 := wc7.m1
  have hhl7 := wc7.hhl
  have hat := q_at ad hdn
  obtain ⟨kvs, hqj, hit⟩ := wc7.it hdn
  have gp := p6 _ _ b1 b2 hp5
  have g1 := p6 _ _ a1 a2 hrw5
  have g2 := p6 _ _ a3 a4 hls5
  have g3 := p6 _ _ a5 a6 hre5
  have lpp : ((rows' i).map fun j => V.ref (ad (.h j))).length < sizeLine := by rw [List.length_map, sizeLine_eq]; omega
  walk_at "go"
  refine k' _ _ _ ⟨C, ad, z, _, rp', (fun j => if j = i then q else lp j), rows', (fun j => if j = i then r else rs j), (w7.mupd (by simp)).mout, h3, rfl, rfl, rfl, rfl, rfl, so1.mono fun k hk => hk.same s6, tt, dk, ⟨dq, s6 _ _ hq1⟩, ⟨nd1, nd2, nd3⟩, ?_, ?_, ?_, fun j hj => s6 _ _ (hr1 j hj), fun j hj => ?_⟩
  · rw [upd_ne (Ne.symm np1)]; exact g1
  · rw [upd_ne (Ne.symm np2)]; exact g2
  · rw [upd_ne (Ne.symm np3)]; exact g3
  · dsimp only
    by_cases c : j = i
    · rw [if_pos c, if_pos c, c]; exact hl5
    · rw [if_neg c, if_neg c]; exact (hl1 j (by omega)).same s6
end
end K17

set_option Elab.async false
set_option linter.all false
set_option maxRecDepth 100000
set_option maxHeartbeats 0
namespace K17
open PySem PySem.Spec PyProof.Rows L2 RC
section
variable {P : Program} {w : World} {K : PySem.W.Frag} {mg : Str → Option Value} {base : Heap}
/-! ### the start of a turn -/
theorem YNew.facts {H H2 : Hp} {y dy : Addr} {clk : Int} {q : YParts} (hy : H y = none) (hd : H dy = none) (N : YNew K (upd (upd H dy (.own y)) y (.ins (CY K) dy [])) H2 y dy clk q) : Same H H2 ∧ (∀ b ∈ [y, q.st, q.na, q.nu, q.md, q.fr, q.hn], H b = none) ∧ [y, q.st, q.na, q.nu, q.md, q.fr, q.hn].Nodup ∧ H2 q.st = some (.dK []) ∧ H2 q.na = some (.dK (kv_FIRST_NAMES.map fun q => (q.1, q.2.v K))) ∧ H2 q.nu = some (.dK (kv_FIRST_NUMBERS.map fun q => (q.1, q.2.v K))) ∧ H2 q.fr = some (.lst []) ∧ H2 q.hn = some (.dK []) := by
  obtain ⟨rd, ld, F⟩ := N.fr
  have S : Same H H2 := made_same hy hd F.kp
  have gy := N.y
  have gm := N.md
  have hm0 : H q.md = none := by
    rcases F.old q.md List.mem_cons_self with c | c
    · rw [c, gy] at gm; cases gm
    · exact (upd_none (upd_none c).2).2
  have nym : y ≠ q.md := fun z => by rw [← z, gy] at gm; cases gm
  have k0 : ∀ e ∈ q.L K y rd ld, H e.1 = none ∧ H2 e.1 = some e.2 := fun e he => ⟨(upd_none (upd_none (F.has e he).2.1).2).2, (F.has e he).2.2⟩
  have nL : ∀ e ∈ q.L K y rd ld, e.1 ≠ y ∧ e.1 ≠ q.md := fun e he => by
    have := (F.has e he).1
    simp only [List.mem_cons, List.not_mem_nil, or_false, not_or] at this
    exact ⟨this.2, this.1⟩
  have nd := F.nd
  have b1 := k0 (q.st, .dK []) (by simp [YParts.L])
  have b3 := k0 (q.na, .dK (kv_FIRST_NAMES.map fun q => (q.1, q.2.v K))) (by simp [YParts.L])
  have b4 := k0 (q.nu, .dK (kv_FIRST_NUMBERS.map fun q => (q.1, q.2.v K))) (by simp [YParts.L])
  have b5 := k0 (q.fr, .lst []) (by simp [YParts.L])
  have b6 := k0 (q.hn, .dK []) (by simp [YParts.L])
  have a1 := nL (q.st, .dK []) (by simp [YParts.L])
  have a3 := nL (q.na, .dK (kv_FIRST_NAMES.map fun q => (q.1, q.2.v K))) (by simp [YParts.L])
  have a4 := nL (q.nu, .dK (kv_FIRST_NUMBERS.map fun q => (q.1, q.2.v K))) (by simp [YParts.L])
  have a5 := nL (q.fr, .lst []) (by simp [YParts.L])
  have a6 := nL (q.hn, .dK []) (by simp [YParts.L])
  have nd' : [q.fr, q.hn, q.nu, q.na, q.st].Nodup := by
    refine List.Sublist.nodup ?_ nd
    show [q.fr, q.hn, q.nu, q.na, q.st].Sublist [q.ll, q.lr, q.rh, q.rl, q.rt, q.fr, q.hn, q.lm, q.nu, q.na, q.fi, q.st]
    exact .cons _ (.cons _ (.cons _ (.cons _ (.cons _ (.cons₂ _ (.cons₂ _ (.cons _ (.cons₂ _ (.cons₂ _ (.cons _ (.cons₂ _ .slnil)))))))))))
  simp only [List.nodup_cons, List.mem_cons, List.not_mem_nil, or_false, not_or, not_false_eq_true, List.nodup_nil, and_true] at nd'
  obtain ⟨⟨c0, c1, c2, c3⟩, ⟨d1, d2, d3⟩, ⟨c4, c5⟩, c6⟩ := nd'
  refine ⟨S, fun b hb => ?_, ?_, b1.2, b3.2, b4.2, b5.2, b6.2⟩
  · simp only [List.mem_cons, List.not_mem_nil, or_false] at hb
    rcases hb with rfl | rfl | rfl | rfl | rfl | rfl | rfl
    · exact hy
    · exact b1.1
    · exact b3.1
    · exact b4.1
    · exact hm0
    · exact b5.1
    · exact b6.1
  · simp only [List.nodup_cons, List.mem_cons, List.not_mem_nil, or_false, not_or, not_false_eq_true, List.nodup_nil, and_true]
    exact ⟨⟨Ne.symm a1.1, Ne.symm a3.1, Ne.symm a4.1, nym, Ne.symm a5.1, Ne.symm a6.1⟩, ⟨Ne.symm c6, Ne.symm c5, a1.2, Ne.symm c3, Ne.symm d3⟩, ⟨Ne.symm c4, a3.2, Ne.symm c2, Ne.symm d2⟩, ⟨a4.2, Ne.symm c1, Ne.symm d1⟩, ⟨Ne.symm a5.2, Ne.symm a6.2⟩, c0⟩
def cf0 (y m na nu : Addr) : Cfg := ⟨0, fun _ => .mem ⟨0, 0, false, [], none, 0⟩, y, m, na, nu, fun _ => 0, fun _ => 0, fun _ => 0, fun _ => .non⟩
def ad0 (s l st fr lt lf hl md wq wl : Addr) : Ro → Addr
  | .s => s
  | .l => l
  | .st => st
  | .fr => fr
  | .lt => lt
  | .lf => lf
  | .hl => hl
  | .md => md
  | .wq => wq
  | .wl => wl
  | .h _ => 0
  | .mk _ => 0
  | .q _ => 0
  | .lk _ => 0
def z0 : AS := ⟨[], [], fun _ => ⟨none, 0, []⟩, 0, []⟩
def bL : List Ro := [.s, .l, .st, .fr, .lt, .lf, .hl, .md, .wq, .wl]
theorem lv0' {y m na nu : Addr} (r : Ro) (h : Lv (cf0 y m na nu) r) : r ∈ bL := by
  unfold bL
  cases r with
  | h i => exact absurd h (Nat.not_lt_zero _)
  | q i => exact absurd h (Nat.not_lt_zero _)
  | mk i => exact absurd h.1 (Nat.not_lt_zero _)
  | lk i => exact absurd h.1 (Nat.not_lt_zero _)
  | s => simp
  | l => simp
  | st => simp
  | fr => simp
  | lt => simp
  | lf => simp
  | hl => simp
  | md => simp
  | wq => simp
  | wl => simp
/-- an empty world -/
theorem ci0 {s l y m qp dq na nu st fr lt lf hl md wq wl dy fi lm hn rt lr : Addr} {n : Nat} {H : Hp} (nd : [s, l, st, fr, lt, lf, hl, md, wq, wl].Nodup) (stm : Stm H s l n) (hy : H y = some (.ins (CY K) dy (yF 0 st fi na nu lm md hn fr rt lr))) (hna : H na = some (.dK (kv_FIRST_NAMES.map fun q => (q.1, q.2.v K)))) (hnu : H nu = some (.dK (kv_FIRST_NUMBERS.map fun q => (q.1, q.2.v K))))
    (hm : H m = some (.dK [(Sum.inr "handlers", .ref hl), (Sum.inr "texts", .ref lt), (Sum.inr "failures", .ref lf)])) (hst : H st = some (.dK [])) (hfr : H fr = some (.lst [])) (hlt : H lt = some (.dK [])) (hlf : H lf = some (.lst [])) (hhl : H hl = some (.lst [])) (hmd : H md = some (.lst []))
    (hqp : H qp = some (.ins (CQ K) dq [("waiting", .ref wq)])) (hwq : H wq = some (.lst [])) (hwl : H wl = some (.lst []))
    (out : ∀ b ∈ [y, na, nu, m, qp], b ∉ [s, l, st, fr, lt, lf, hl, md, wq, wl]) : CI K s l y m qp wl 0 n H := by
  have eb : bL.map (ad0 s l st fr lt lf hl md wq wl) = [s, l, st, fr, lt, lf, hl, md, wq, wl] := rfl
  have nM : ∀ b ∈ [y, na, nu, m, qp], ¬ Mvs (cf0 y m na nu) (ad0 s l st fr lt lf hl md wq wl) b := fun b hb ⟨r, h1, h2⟩ => out b hb (by rw [← eb, h2]; exact List.mem_map_of_mem (lv0' r h1))
  have lv : ∀ r, Lv (cf0 y m na nu) r → H (ad0 s l st fr lt lf hl md wq wl r) ≠ none ∧ ∀ xs, H (ad0 s l st fr lt lf hl md wq wl r) ≠ some (.tup xs) := fun r h => by
    obtain ⟨_, _, _, _, _, g1, g2, _⟩ := stm
    cases r with
    | h i => exact absurd h (Nat.not_lt_zero _)
    | q i => exact absurd h (Nat.not_lt_zero _)
    | mk i => exact absurd h.1 (Nat.not_lt_zero _)
    | lk i => exact absurd h.1 (Nat.not_lt_zero _)
    | s => exact dk_ok g1 (fun _ z => nomatch z)
    | l => exact dk_ok g2 (fun _ z => nomatch z)
    | st => exact dk_ok hst (fun _ z => nomatch z)
    | fr => exact dk_ok hfr (fun _ z => nomatch z)
    | lt => exact dk_ok hlt (fun _ z => nomatch z)
    | lf => exact dk_ok hlf (fun _ z => nomatch z)
    | hl => exact dk_ok hhl (fun _ z => nomatch z)
    | md => exact dk_ok hmd (fun _ z => nomatch z)
    | wq => exact dk_ok hwq (fun _ z => nomatch z)
    | wl => exact dk_ok hwl (fun _ z => nomatch z)
  refine ⟨cf0 y m na nu, ad0 s l st fr lt lf hl md wq wl, z0, ⟨⟨rst_same, fun r hr => rst_none ⟨r, hr, rfl⟩, fun r r' hr hr' e => nodup_inj (f := ad0 s l st fr lt lf hl md wq wl) (l := bL) (by rw [eb]; exact nd) r (lv0' r hr) r' (lv0' r' hr') e, lv⟩, stm, ⟨⟨dy, st, fi, lm, hn, fr, rt, lr, rst_at hy (nM y (by simp))⟩, rst_at hna (nM na (by simp)), rst_at hnu (nM nu (by simp))⟩, rst_at hm (nM m (by simp)), ⟨⟨dy, fi, na, nu, lm, md, hn, rt, lr, 0, hy⟩, hst, ⟨[], hfr, .nil⟩⟩, ⟨hm, hlt, ⟨[], hlf, .nil⟩, fun z => ?_⟩, hmd, hhl, fun i hi => absurd hi (Nat.not_lt_zero _), fun i hi => absurd hi (Nat.not_lt_zero _), fun i hi => absurd hi (Nat.not_lt_zero _), fun i hi => absurd hi (Nat.not_lt_zero _), fun i hi => absurd hi (Nat.not_lt_zero _), hwq, hwl⟩, rfl, rfl, rfl, rfl, rfl, ⟨(fun _ _ z => nomatch z), (fun _ _ z => nomatch z), .nil, ⟨Nat.zero_le _, (fun _ z => nomatch z)⟩, Nat.le_refl _, (fun _ z => nomatch z)⟩, fun _ => rfl, rfl, ⟨fun i _ hi => absurd hi (Nat.not_lt_zero _)⟩, fun i hi => absurd hi (Nat.not_lt_zero _), rfl, rfl, dq, rst_at hqp (nM qp (by simp))⟩
  have z : m = lt := z
  rw [z, hlt] at hm; cases hm
theorem CI.same {s l y m qp wl : Addr} {j n : Nat} {H H' : Hp} (c : CI K s l y m qp wl j n H) (e : Same H H') : CI K s l y m qp wl j n H' := by
  obtain ⟨C, ad, z, w, hj, es, el, ey, em, so, hk, hw, dk, mw, ew, hz, dq, hq⟩ := c.w
  have w1 := w.same e
  exact ⟨C, ad, z, w1.re, hj, es, el, ey, em, so.mono fun k hk => hk.same w1.up, hk, hw, dk, mw, ew, hz, dq, w1.up _ _ hq⟩
theorem CI.stm {s l y m qp wl : Addr} {j n : Nat} {H : Hp} (c : CI K s l y m qp wl j n H) : Stm H s l n := by
  obtain ⟨C, ad, z, w, hj, rfl, rfl, _⟩ := c.w
  exact w.stm
/-- three new lists -/
theorem CI.li {s l y m qp wl rw ls re : Addr} {n : Nat} {H : Hp} (c : CI K s l y m qp wl 3 n H) (f1 : H rw = none) (f2 : upd H rw (.lst []) ls = none) (f3 : upd (upd H rw (.lst [])) ls (.lst []) re = none) : LI K s l y m qp rw ls re wl n 0 (upd (upd (upd H rw (.lst [])) ls (.lst [])) re (.lst [])) := by
  obtain ⟨C, ad, z, w, hj, es, el, ey, em, so, hk, hw, dk, mw, ew, hz, dq, hq⟩ := c.w
  obtain ⟨a1, a2⟩ := upd_none f2
  obtain ⟨a3, a4⟩ := upd_none f3
  obtain ⟨a5, a6⟩ := upd_none a4
  have sm : Same H (Mk [rw, ls, re] (upd (upd (upd H rw (.lst [])) ls (.lst [])) re (.lst []))) := fun b u e => by
    have n1 := ne_of_none e f1
    have n2 := ne_of_none e a2
    have n3 := ne_of_none e a6
    refine rst_at (by rw [upd_ne n3, upd_ne n2, upd_ne n1]; exact e) ?_
    simp only [List.mem_cons, List.not_mem_nil, or_false, not_or]
    exact ⟨n1, n2, n3⟩
  refine ⟨C, ad, z, _, fun _ => 0, fun _ => 0, fun _ => [], fun _ => false, w.same sm, hj, es, el, ey, em, ew, so, by rw [tt_zero hk hw, hz]; exact Nat.le_refl _, dk, ⟨dq, hq⟩, ⟨Ne.symm a1, Ne.symm a5, Ne.symm a3⟩, ?_, ?_, upd_same, fun j hj => absurd hj (Nat.not_lt_zero _), fun j hj => absurd hj (Nat.not_lt_zero _)⟩
  · rw [upd_ne (Ne.symm a5), upd_ne (Ne.symm a1)]; exact upd_same
  · rw [upd_ne (Ne.symm a3)]; exact upd_same
end
end K17

set_option Elab.async false
set_option linter.all false
set_option maxRecDepth 100000
set_option maxHeartbeats 0

namespace K17
open PySem PySem.Spec PyProof.Rows L2 RC
section
variable {P : Program} {w : World} {K : PySem.W.Frag} {mg : Str → Option Value} {base : Heap}
/-! ### the turn -/
theorem turn (T : Txt P w K mg) {f : Addr} {cdv : Value} {A : Around} {outer : List Env} {st0 : Shared} {E : XK} {H : Hp} (hr : Room 36 (A.deeper (envOfC "law" (defScope s_law) st0.heap.objs.size f cdv)))
    {tw tl td : TS} (hwrs : PSs (cxOf CX0 P w K mg base nm_law "law" (defScope s_law) f cdv A outer st0 H E).nox b_wrs tw) (qwrs : ∀ {s l y m qp wl sc : Addr} {n : Nat} (i : Nat) (H0 : Hp) (D' : Ends), CI K s l y m qp wl i n H0 → i < 2 → n ≤ 900000 → ∀ o2 o8 o9 o10 o11 o12 o13 o14 o15 o16 o17 o18 o19,
      (∀ H', CI K s l y m qp wl (i + 1) (n + 4) H' → D'.nx (sg sc s o2 y m qp wl (some (.int (i : Nat))) o8 o9 o10 o11 o12 o13 o14 o15 o16 o17 o18 o19) H') → tw D' (sg sc s o2 y m qp wl (some (.int (i : Nat))) o8 o9 o10 o11 o12 o13 o14 o15 o16 o17 o18 o19) H0)
    (hlst : PSs (cxOf CX0 P w K mg base nm_law "law" (defScope s_law) f cdv A outer st0 H E).nox b_lst tl) (qlst : ∀ {s l y m qp rw ls re wl sc : Addr} {n : Nat} (i : Nat) (H0 : Hp) (D' : Ends), LI K s l y m qp rw ls re wl n i H0 → i < 2 → n ≤ 900000 → ∀ o2 o11 o12 o13 o14 o15 o16 o17 o18 o19,
      (∀ H' o12 o14, LI K s l y m qp rw ls re wl (n + 8) (i + 1) H' → D'.nx (sD sc s o2 y m qp rw ls re wl (some (.int (i : Nat))) o11 o12 o13 o14 o15 o16 o17 o18 o19) H') → tl D' (sD sc s o2 y m qp rw ls re wl (some (.int (i : Nat))) o11 o12 o13 o14 o15 o16 o17 o18 o19) H0)
    (hdeed : PSs (cxOf CX0 P w K mg base nm_law "law" (defScope s_law) f cdv A outer st0 H E).nox b_deed td) (qdeed : ∀ {s l y m qp rw ls re wl sc : Addr} {n : Nat} (i : Nat) (H0 : Hp) (D' : Ends), TI K s l y m qp rw ls re wl n i H0 → i < 20 → n ≤ 900000 → ∀ o2 o11 o12 o13 o14 o15 o16 o17 o18 o19,
      (∀ σ H' wl', TI K s l y m qp rw ls re wl' (n + 8) (i + 1) H' → (∃ o7 o11 o12 o13 o14 o15 o16 o17 o18 o19, σ = sD sc s o2 y m qp rw ls re wl' o7 o11 o12 o13 o14 o15 o16 o17 o18 o19) → D'.nx σ H') → td D' (sD sc s o2 y m qp rw ls re wl (some (.int (i : Nat))) o11 o12 o13 o14 o15 o16 o17 o18 o19) H0)
    (c__law_draw : Callable P w K mg base 1 (He.ga K "_law_draw") ["_law_stream", "_law_many"] [] spDraw)
    {SM : Sp} (eM : SM = spMemoryMk K) (c__law_memory : Callable P w K mg base 7 (He.ga K "_law_memory") ["_law_stream", "_law_yard", "_law_target", "_law_handlers"] [] SM)
    {SQ : Sp} (eQ : SQ = spQInit K) (c_Queue_init : Callable P w K mg base 1 (He.ma K (He.ga K "Queue") "__init__") ["self"] [] SQ)
    (c_Yard_init_d1 : Callable P w K mg base 5 (He.ma K (He.ga K "Yard") "__init__") ["self", "now"] [.int 0] (spYardInit K)) :
    ∃ t, PSs (cxOf CX0 P w K mg base nm_law "law" (defScope s_law) f cdv A outer st0 H E).nox b_turn t ∧ ∀ {sc s l : Addr} {n : Nat} (H0 : Hp) (D' : Ends), Stm H0 s l n → n ≤ 800000 → ∀ o2 o3 o4 o5 o6 o7 o8 o9 o10 o11 o12 o13 o14 o15 o16 o17 o18 o19,
      (∀ σ H', Stm H' s l (n + 250) → (∃ o3 o4 o5 o6 o7 o8 o9 o10 o11 o12 o13 o14 o15 o16 o17 o18 o19, σ = [some (.ref sc), some (.ref s), o2, o3, o4, o5, o6, o7, o8, o9, o10, o11, o12, o13, o14, o15, o16, o17, o18, o19]) → D'.nx σ H') → t D' [some (.ref sc), some (.ref s), o2, o3, o4, o5, o6, o7, o8, o9, o10, o11, o12, o13, o14, o15, o16, o17, o18, o19] H0 := by
  refine ⟨_, (pss_cons (ps_asg (pe_tup (pa_cons (pe_mk0 T.k_Yard T.g_Yard c_Yard_init_d1 (hr.mono (by first | decide | exact Nat.le_refl _ | omega)) (by rfl)) (pa_cons (pe_disp (pps_cons pe_str (pe_lst pa_nil) (pps_cons pe_str pe_dnewK (pps_cons pe_str (pe_lst pa_nil) pps_nil))) (by rfl) (by rfl) (fun z => by cases z) (by decide)) (pa_cons (pe_mk0 T.k_Queue T.g_Queue c_Queue_init (hr.mono (by first | decide | exact Nat.le_refl _ | omega)) (by rfl)) (pa_cons (pe_lst pa_nil) pa_nil))))) (RG.pg_tupK (K := K) (n := 4) (by rfl) (pgs_cons (pg_name (i := 3) sc_law.nd rfl (by first | exact Or.inl rfl | exact Or.inr rfl)) (pgs_cons (pg_name (i := 4) sc_law.nd rfl (by first | exact Or.inl rfl | exact Or.inr rfl)) (pgs_cons (pg_name (i := 5) sc_law.nd rfl (by first | exact Or.inl rfl | exact Or.inr rfl)) (pgs_cons (pg_name (i := 6) sc_law.nd rfl (by first | exact Or.inl rfl | exact Or.inr rfl)) pgs_nil))))))
      (pss_cons (ps_for PassesOwn.never rfl (pi_range1 (by rfl) T.b_range (pa_cons pe_int pa_nil)) (pg_name (i := 7) sc_law.nd rfl (by first | exact Or.inl rfl | exact Or.inr rfl)) hwrs)
      (pss_cons (ps_expr (pe_bm PySem.F.plainAttrs_list PySem.F.slot_list_append PySem.F.type_list_append mt_append (pe_dget (hu_of hr) (pv 4) pe_str (fun _ _ => rfl)) (pa_cons (pe_fn T.g__law_memory c__law_memory (hr.mono (by first | decide | exact Nat.le_refl _ | omega)) (by rfl) (pa_cons (pv 1) (pa_cons (pv 3) (pa_cons pe_int (pa_cons (pe_dget (hu_of hr) (pv 4) pe_str (fun _ _ => rfl)) pa_nil))))) pa_nil)))
      (pss_cons (ps_par3 (by rfl) sc_law.nd (i := 8) (j := 9) (l := 10) rfl rfl rfl (by decide) (by decide) (by decide) rfl rfl rfl (pa_cons (pe_lst pa_nil) (pa_cons (pe_lst pa_nil) (pa_cons (pe_lst pa_nil) pa_nil))) (by rfl))
      (pss_cons (ps_for PassesOwn.never rfl (pi_range1 (by rfl) T.b_range (pa_cons pe_int pa_nil)) (pg_name (i := 7) sc_law.nd rfl (by first | exact Or.inl rfl | exact Or.inr rfl)) hlst)
      (pss_one (ps_for PassesOwn.never rfl (pi_range1 (by rfl) T.b_range (pa_cons (pe_fn T.g__law_draw c__law_draw (hr.mono (by first | decide | exact Nat.le_refl _ | omega)) (by rfl) (pa_cons (pv 1) (pa_cons pe_int pa_nil))) pa_nil)) (pg_name (i := 7) sc_law.nd rfl (by first | exact Or.inl rfl | exact Or.inr rfl)) hdeed))))))), ?_⟩
  walk_at "in"
  intro sc s l n H0 D' st0 hn o2 o3 o4 o5 o6 o7 o8 o9 o10 o11 o12 o13 o14 o15 o16 o17 o18 o19 k'
  have hs0 : H0 s ≠ none ∧ H0 l ≠ none := by
    obtain ⟨_, _, _, _, _, g1, g2, _⟩ := st0
    exact ⟨(by rw [g1]; exact (fun z => nomatch z)), (by rw [g2]; exact (fun z => nomatch z))⟩
  refine seq_of (fun σ' H' => ∃ y m qp wl, σ' = sg sc s o2 y m qp wl o7 o8 o9 o10 o11 o12 o13 o14 o15 o16 o17 o18 o19 ∧ CI K s l y m qp wl 0 n H') (fun b' kb => ?_) (fun σ' H1 hm => ?_)
  · walk_at "go"
    intro y dy f1 f2 f3
    refine ⟨y, dy, 0, rfl, upd_same, fun H1 q N => ⟨rfl, ?_⟩⟩
    obtain ⟨s1, fz1, nd1, e1, e2, e3, e4, e5⟩ := N.facts f1 f2
    have gy := N.y
    have gm := N.md
    walk_at "go"
    refine fun m fm => ?_
    walk_at "go"
    intro hl fhl
    walk_at "go"
    intro lt flt
    walk_at "go"
    intro lf flf
    walk_at "go"
    obtain ⟨u1, u2⟩ := upd_none fhl
    obtain ⟨u3, u4⟩ := upd_none flt
    obtain ⟨u5, u6⟩ := upd_none u4
    obtain ⟨u7, u8⟩ := upd_none flf
    obtain ⟨u9, u10⟩ := upd_none u8
    obtain ⟨u11, u12⟩ := upd_none u10
    intro qp dq gq1 gq2 gq3
    rw [eQ]
    generalize eF : (upd (upd (upd (upd (upd H1 m (.dK [])) hl (.lst [])) lt (.dK [])) lf (.lst [])) m _) = HF at gq1 gq2 ⊢
    have sF : Same H1 HF := fun b u e => by
      rw [← eF, upd_ne (ne_of_none e fm), upd_ne (ne_of_none e u12), upd_ne (ne_of_none e u6), upd_ne (ne_of_none e u2), upd_ne (ne_of_none e fm)]; exact e
    have hmF : HF m = some (.dK [(Sum.inr "handlers", .ref hl), (Sum.inr "texts", .ref lt), (Sum.inr "failures", .ref lf)]) := by rw [← eF]; exact upd_same
    have hlF : HF hl = some (.lst []) := by rw [← eF, upd_ne u1, upd_ne (Ne.symm u9), upd_ne (Ne.symm u3)]; exact upd_same
    have ltF : HF lt = some (.dK []) := by rw [← eF, upd_ne u5, upd_ne (Ne.symm u7)]; exact upd_same
    have lfF : HF lf = some (.lst []) := by rw [← eF, upd_ne u11]; exact upd_same
    clear eF fhl flt flf u4 u8 u10
    refine ⟨qp, dq, rfl, upd_same, fun wq fwq => ⟨rfl, ?_⟩⟩
    obtain ⟨x1, x2⟩ := upd_none fwq
    obtain ⟨x3, x4⟩ := upd_none x2
    have sQ : Same HF (upd (upd (upd (upd HF dq (.own qp)) qp (.ins (He.ga K "Queue") dq [])) wq (.lst [])) qp (.ins (CQ K) dq [("waiting", .ref wq)])) := fun b u e => by
      rw [upd_ne (ne_of_none e gq1), upd_ne (ne_of_none e x4), upd_ne (ne_of_none e gq1), upd_ne (ne_of_none e gq2)]; exact e
    have qpQ : (upd (upd (upd (upd HF dq (.own qp)) qp (.ins (He.ga K "Queue") dq [])) wq (.lst [])) qp (.ins (CQ K) dq [("waiting", .ref wq)])) qp = some (.ins (CQ K) dq [("waiting", .ref wq)]) := upd_same
    have wqQ : (upd (upd (upd (upd HF dq (.own qp)) qp (.ins (He.ga K "Queue") dq [])) wq (.lst [])) qp (.ins (CQ K) dq [("waiting", .ref wq)])) wq = some (.lst []) := by rw [upd_ne x1]; exact upd_same
    generalize upd (upd (upd (upd HF dq (.own qp)) qp (.ins (He.ga K "Queue") dq [])) wq (.lst [])) qp (.ins (CQ K) dq [("waiting", .ref wq)]) = HQ at sQ qpQ wqQ ⊢
    walk_at "go"
    intro wl fwl
    walk_at "go"
    have sW := same_new fwl (.lst [])
    have wlW := upd_same (H := HQ) (a := wl) (o := .lst [])
    generalize upd HQ wl (.lst []) = HW at sW wlW ⊢
    refine fun tp ftp => ?_
    have sT := same_new ftp (.tup [V.ref y, V.ref m, V.ref qp, V.ref wl])
    have hT := upd_same (H := HW) (a := tp) (o := .tup [V.ref y, V.ref m, V.ref qp, V.ref wl])
    generalize upd HW tp (.tup [V.ref y, V.ref m, V.ref qp, V.ref wl]) = HZ at sT hT ⊢
    walk_at "go"
    have g0 : ∃ u, H0 s = some u := by obtain ⟨_, _, _, _, _, g1, g2, _⟩ := st0; exact ⟨_, g1⟩
    have g1 : ∃ u, H0 l = some u := by obtain ⟨_, _, _, _, _, g1, g2, _⟩ := st0; exact ⟨_, g2⟩
    obtain ⟨us, gs⟩ := g0
    obtain ⟨ul, gl⟩ := g1
    have sZ : Same HF HZ := sQ.trans (sW.trans sT)
    have nF : ∀ {b u}, HF b = some u → b ≠ wq := fun e => ne_of_none e x4
    have nQ : ∀ {b u}, HF b = some u → b ≠ wl := fun e => ne_of_none (sQ _ _ e) fwl
    have nP : ∀ {b u}, HF b = some u → qp ≠ b := fun e => Ne.symm (ne_of_none e gq1)
    have wqwl : wq ≠ wl := ne_of_none wqQ fwl
    have qpwl : qp ≠ wl := ne_of_none qpQ fwl
    have sl1 : H1 s ≠ none ∧ H1 l ≠ none := ⟨(by rw [s1 _ _ gs]; exact (fun z => nomatch z)), (by rw [s1 _ _ gl]; exact (fun z => nomatch z))⟩
    have gsF := sF _ _ (s1 _ _ gs)
    have glF := sF _ _ (s1 _ _ gl)
    have f1n : ∀ b, H1 b = none → b ≠ s ∧ b ≠ l := fun b e => ⟨fun z => sl1.1 (by rw [← z]; exact e), fun z => sl1.2 (by rw [← z]; exact e)⟩
    have f0n : ∀ b ∈ [y, q.st, q.na, q.nu, q.md, q.fr, q.hn], b ≠ s ∧ b ≠ l := fun b hb => ⟨fun z => hs0.1 (by rw [← z]; exact fz1 b hb), fun z => hs0.2 (by rw [← z]; exact fz1 b hb)⟩
    have nn : ∀ {b u p}, H1 b = some u → H1 p = none → b ≠ p := fun e f => ne_of_none e f
    have nsl : s ≠ l := st0.1
    simp only [List.nodup_cons, List.mem_cons, List.not_mem_nil, or_false, not_or, not_false_eq_true, List.nodup_nil, and_true] at nd1
    obtain ⟨⟨v1, v2, v3, v4, v5, w1⟩, ⟨v6, v7, v8, v9, w2⟩, ⟨v10, v11, v12, w3⟩, ⟨v13, v14, w4⟩, ⟨v15, w5⟩, w6⟩ := nd1
    have ry := f0n y (by simp)
    have rna := f0n q.na (by simp)
    have rnu := f0n q.nu (by simp)
    have rst' := f0n q.st (by simp)
    have rmd := f0n q.md (by simp)
    have rfr := f0n q.fr (by simp)
    have e1F := sF _ _ e1
    have e2F := sF _ _ e2
    have e3F := sF _ _ e3
    have e4F := sF _ _ e4
    have gyF := sF _ _ gy
    have gmF := sF _ _ gm
    refine kb _ _ ⟨y, m, qp, wl, rfl, ci0 (st := q.st) (fr := q.fr) (lt := lt) (lf := lf) (hl := hl) (md := q.md) (wq := wq) (dq := dq) ?_ (st0.same ((s1.trans sF).trans sZ)) (sZ _ _ gyF) (sZ _ _ e2F) (sZ _ _ e3F) (sZ _ _ hmF) (sZ _ _ e1F) (sZ _ _ e4F) (sZ _ _ ltF) (sZ _ _ lfF) (sZ _ _ hlF) (sZ _ _ gmF) ((sW.trans sT) _ _ qpQ) ((sW.trans sT) _ _ wqQ) (sT _ _ wlW) fun b hb => ?_⟩
    · simp only [List.nodup_cons, List.mem_cons, List.not_mem_nil, or_false, not_or, not_false_eq_true, List.nodup_nil, and_true]
      exact ⟨⟨nsl, Ne.symm rst'.1, Ne.symm rfr.1, Ne.symm (f1n _ u6).1, Ne.symm (f1n _ u12).1, Ne.symm (f1n _ u2).1, Ne.symm rmd.1, nF gsF, nQ gsF⟩, ⟨Ne.symm rst'.2, Ne.symm rfr.2, Ne.symm (f1n _ u6).2, Ne.symm (f1n _ u12).2, Ne.symm (f1n _ u2).2, Ne.symm rmd.2, nF glF, nQ glF⟩, ⟨v9, nn e1 u6, nn e1 u12, nn e1 u2, v8, nF e1F, nQ e1F⟩, ⟨nn e4 u6, nn e4 u12, nn e4 u2, Ne.symm v15, nF e4F, nQ e4F⟩, ⟨Ne.symm u7, u3, Ne.symm (nn gm u6), nF ltF, nQ ltF⟩, ⟨u9, Ne.symm (nn gm u12), nF lfF, nQ lfF⟩, ⟨Ne.symm (nn gm u2), nF hlF, nQ hlF⟩, ⟨nF gmF, nQ gmF⟩, wqwl⟩
    · simp only [List.mem_cons, List.not_mem_nil, or_false] at hb ⊢
      intro z
      rcases hb with rfl | rfl | rfl | rfl | rfl
      · rcases z with z | z | z | z | z | z | z | z | z | z
        · exact ry.1 z
        · exact ry.2 z
        · exact v1 z
        · exact v5 z
        · exact nn gy u6 z
        · exact nn gy u12 z
        · exact nn gy u2 z
        · exact v4 z
        · exact nF gyF z
        · exact nQ gyF z
      · rcases z with z | z | z | z | z | z | z | z | z | z
        · exact rna.1 z
        · exact rna.2 z
        · exact v6 z.symm
        · exact v12 z
        · exact nn e2 u6 z
        · exact nn e2 u12 z
        · exact nn e2 u2 z
        · exact v11 z
        · exact nF e2F z
        · exact nQ e2F z
      · rcases z with z | z | z | z | z | z | z | z | z | z
        · exact rnu.1 z
        · exact rnu.2 z
        · exact v7 z.symm
        · exact v14 z
        · exact nn e3 u6 z
        · exact nn e3 u12 z
        · exact nn e3 u2 z
        · exact v13 z
        · exact nF e3F z
        · exact nQ e3F z
      · rcases z with z | z | z | z | z | z | z | z | z | z
        · exact (f1n _ fm).1 z
        · exact (f1n _ fm).2 z
        · exact nn e1 fm z.symm
        · exact nn e4 fm z.symm
        · exact u5 z.symm
        · exact u11 z.symm
        · exact u1 z.symm
        · exact nn gm fm z.symm
        · exact nF hmF z
        · exact nQ hmF z
      · rcases z with z | z | z | z | z | z | z | z | z | z
        · exact nP gsF z
        · exact nP glF z
        · exact nP e1F z
        · exact nP e4F z
        · exact nP ltF z
        · exact nP lfF z
        · exact nP hlF z
        · exact nP gmF z
        · exact x1 z.symm
        · exact qpwl z
  obtain ⟨y, m, qp, wl, rfl, I1⟩ := hm
  -- the writers
  refine seq_of (fun σ' H' => ∃ o7, σ' = sg sc s o2 y m qp wl o7 o8 o9 o10 o11 o12 o13 o14 o15 o16 o17 o18 o19 ∧ CI K s l y m qp wl 2 (n + 4 * 2) H') (fun b' kb => ?_) (fun σ' H2 hm => ?_)
  · walk_at "go"
    refine for_it walk_range (fun i σ H' => CI K s l y m qp wl i (n + 4 * i) H' ∧ ∃ o7, σ = sg sc s o2 y m qp wl o7 o8 o9 o10 o11 o12 o13 o14 o15 o16 o17 o18 o19) ⟨I1, _, rfl⟩ (fun _ _ _ _ _ => trivial) (fun i x σ H11 H12 hi hP hx => ?_) (fun σ H12 hP => ?_)
    · obtain ⟨rfl, rfl⟩ := hx
      obtain ⟨I2, o7, rfl⟩ := hP
      dsimp only
      rw [Int.zero_add]
      exact qwrs i H12 _ I2 (by omega) (by omega) _ _ _ _ _ _ _ _ _ _ _ _ _ (fun H' h1 => ⟨h1, _, rfl⟩)
    · obtain ⟨I2, o7, rfl⟩ := hP
      exact kb _ _ ⟨_, rfl, I2⟩
  obtain ⟨o7', rfl, I2⟩ := hm
  clear I1
  -- the memory
  refine seq_of (fun σ' H' => σ' = sg sc s o2 y m qp wl o7' o8 o9 o10 o11 o12 o13 o14 o15 o16 o17 o18 o19 ∧ CI K s l y m qp wl 3 (n + 4 * 2 + 5) H') (fun b' kb => ?_) (fun σ' H3 hm => ?_)
  · obtain ⟨C, ad, z, W0, hC2, rfl, rfl, rfl, rfl, hU, hks, hw, hD, mw, rfl, hwt, dq, hqp⟩ := I2.w
    have n1 : ad .md ≠ ad .s := fun z => nomatch W0.pl.inj .md .s trivial trivial z
    have n2 : ad .md ≠ ad .l := fun z => nomatch W0.pl.inj .md .l trivial trivial z
    have n4 : ad .hl ≠ ad .s := fun z => nomatch W0.pl.inj .hl .s trivial trivial z
    have n5 : ad .hl ≠ ad .l := fun z => nomatch W0.pl.inj .hl .l trivial trivial z
    have n6 : ad .md ≠ ad .hl := fun z => nomatch W0.pl.inj .md .hl trivial trivial z
    have n3 : ad .hl ∉ [ad .s, ad .l, ad .md] := fun z => by
      simp only [List.mem_cons, List.not_mem_nil, or_false] at z
      rcases z with z | z | z
      · exact n4 z
      · exact n5 z
      · exact n6 z.symm
    have hql : (hRs ad C.n).length = C.n := by unfold hRs; simp
    have hql2 : ((qRs ad C.n).map V.ref).length = C.n := by unfold qRs; simp
    have hll : ((qRs ad C.n).map V.ref).length < sizeLine := by rw [hql2, sizeLine_eq]; omega
    obtain ⟨lt, ltv, hlt, step⟩ := mem_step T W0 hU.lo (tg := some 0) (fun j e => by cases e; omega)
    have hm := W0.m1
    have hhl := W0.hhl
    walk_at "go"
    rw [eM]
    refine ⟨ad .s, ad .l, C.y, ad .md, C.na, C.nu, ad .hl, n + 4 * 2, (hRs ad C.n).map V.ref, lt, by rw [ltv]; rfl, W0.stm, by omega, W0.yd.same W0.pl.sm, W0.hmd, by rw [List.length_map, hql]; omega, n1, n2, n4, n5, n6, hlt, fun H3 q mh dh fi fl lk mk mm hmm c st2 hmd2 oq oh ol om ff hFl hfl hns1 hns2 => ?_⟩
    have hhl3 := c _ _ n3 hhl
    have W3 := step H3 _ q mh dh fi fl lk mk mm hmm c st2 hmd2 oq oh ol om ff hFl hfl hns1 hns2
    walk_at "go"
    refine kb _ _ ⟨rfl, ⟨_, _, _, W3.1, by show C.n + 1 = 3; omega, rfl, rfl, rfl, rfl, set_so hU (fun k hk => hk.same W3.2) (fun j e => by cases e; omega), set_ks hks, hw, push_dok hD (fun x' e => by cases e), fun j hj hj2 => ?_, rfl, hwt, dq, W3.2 _ _ hqp⟩⟩
    have h2 : j < C.n := by omega
    rw [(push_old h2).1]; exact mw j h2 hj2
  obtain ⟨rfl, I3⟩ := hm
  clear I2
  -- three lists
  refine seq_of (fun σ' H' => ∃ rw ls re, σ' = sD sc s o2 y m qp rw ls re wl o7' o11 o12 o13 o14 o15 o16 o17 o18 o19 ∧ LI K s l y m qp rw ls re wl (n + 4 * 2 + 5) 0 H') (fun b' kb => ?_) (fun σ' H4 hm => ?_)
  · walk_at "go"
    intro rw_ f1
    walk_at "go"
    intro ls f2
    walk_at "go"
    intro re f3
    walk_at "go"
    exact kb _ _ ⟨rw_, ls, re, rfl, I3.li f1 f2 f3⟩
  obtain ⟨rw_, ls, re, rfl, I4⟩ := hm
  clear I3
  -- the listeners
  refine seq_of (fun σ' H' => ∃ o7 o12 o14, σ' = sD sc s o2 y m qp rw_ ls re wl o7 o11 o12 o13 o14 o15 o16 o17 o18 o19 ∧ LI K s l y m qp rw_ ls re wl (n + 4 * 2 + 5 + 8 * 2) 2 H') (fun b' kb => ?_) (fun σ' H5 hm => ?_)
  · walk_at "go"
    refine for_it walk_range (fun i σ H' => LI K s l y m qp rw_ ls re wl (n + 4 * 2 + 5 + 8 * i) i H' ∧ ∃ o7 o12 o14, σ = sD sc s o2 y m qp rw_ ls re wl o7 o11 o12 o13 o14 o15 o16 o17 o18 o19) ⟨I4, _, _, _, rfl⟩ (fun _ _ _ _ _ => trivial) (fun i x σ H11 H12 hi hP hx => ?_) (fun σ H12 hP => ?_)
    · obtain ⟨rfl, rfl⟩ := hx
      obtain ⟨I5, o7, o12, o14, rfl⟩ := hP
      dsimp only
      rw [Int.zero_add]
      exact qlst i H12 _ I5 (by omega) (by omega) _ _ _ _ _ _ _ _ _ _ (fun H' o12 o14 h1 => ⟨h1, _, _, _, rfl⟩)
    · obtain ⟨I5, o7, o12, o14, rfl⟩ := hP
      exact kb _ _ ⟨_, _, _, rfl, I5⟩
  obtain ⟨o7'', o12', o14', rfl, I5⟩ := hm
  clear I4
  have T5 := I5.ti
  have st5 := T5.stm
  have nle : n + 4 * 2 + 5 + 8 * 2 ≤ 1000000 := by omega
  walk_at "go"
  intro H6 d p6 st6 d1 d2
  have T6 := T5.old p6 st6
  walk_at "go"
  refine for_it walk_range (fun i σ H' => ∃ wl, TI K s l y m qp rw_ ls re wl (n + 4 * 2 + 5 + 8 * 2 + 1 + 8 * i) i H' ∧ ∃ o7 o11 o12 o13 o14 o15 o16 o17 o18 o19, σ = sD sc s o2 y m qp rw_ ls re wl o7 o11 o12 o13 o14 o15 o16 o17 o18 o19) ⟨_, T6, _, _, _, _, _, _, _, _, _, _, rfl⟩ (fun _ _ _ _ _ => trivial) (fun i x σ H11 H12 hi hP hx => ?_) (fun σ H12 hP => ?_)
  · obtain ⟨rfl, rfl⟩ := hx
    obtain ⟨wl', I7, o7, o11, o12, o13, o14, o15, o16, o17, o18, o19, rfl⟩ := hP
    dsimp only
    rw [Int.zero_add]
    exact qdeed i H12 _ I7 (by omega) (by omega) _ _ _ _ _ _ _ _ _ _ (fun σ H' wl'' h1 h2 => ⟨wl'', h1, h2⟩)
  · obtain ⟨wl', I7, o7, o11, o12, o13, o14, o15, o16, o17, o18, o19, rfl⟩ := hP
    exact k' _ _ (I7.stm.mono (by omega)) ⟨_, _, _, _, _, _, _, _, _, _, _, _, _, _, _, _, _, rfl⟩
end
end K17

set_option Elab.async false
set_option linter.all false
set_option maxRecDepth 100000
set_option maxHeartbeats 0

namespace K17
open PySem PySem.Spec PyProof.Rows L2 RC
section
variable {P : Program} {w : World} {K : PySem.W.Frag} {mg : Str → Option Value} {base : Heap}
/-! ### the law -/
def spLaw (K : PySem.W.Frag) : Sp := fun vs H Q _ => ∃ (a : Addr) (ns : List Int), vs = [.ref a] ∧ ns.length ≤ 63 ∧ SqL K H a (ns.map V.int) ∧ ∀ H', Q (.bl true) H'
theorem law_body (T : Txt P w K mg) {f : Addr} {cdv : Value} {A : Around} {outer : List Env} {st0 : Shared} {E : XK} {vs : List V} {H : Hp} {Q : VK} (hr : Room 36 (A.deeper (envOfC "law" (defScope s_law) st0.heap.objs.size f cdv))) (hsp : spLaw K vs H Q E)
    (c__law_draw : Callable P w K mg base 1 (He.ga K "_law_draw") ["_law_stream", "_law_many"] [] spDraw)
    (c__law_pick : Callable P w K mg base 2 (He.ga K "_law_pick") ["_law_stream", "_law_some"] [] (spPick K))
    (c__law_record : Callable P w K mg base 7 (He.ga K "_law_record") ["_law_stream", "_law_yard", "_law_number"] [] (spRecord K))
    (c_run : Callable P w K mg base (3 * 3 + 14) (He.ma K (He.ga K "QueueListener") "run") ["self", "many"] [] (spRun 3 K) ∧ Callable P w K mg base (3 * 3 + 14) (He.ma K (He.ga K "QueueListener") "run") ["self", "many"] [.non] (spRun 3 K))
    (c_StreamHandler_setLevel : Callable P w K mg base 3 (He.ma K (He.ga K "StreamHandler") "setLevel") ["self", "level"] [] (spSetLevel K))
    (c_MemoryHandler_setLevel : Callable P w K mg base 3 (He.ma K (He.ga K "MemoryHandler") "setLevel") ["self", "level"] [] (spSetLevel K))
    (c_laws : ∀ b : Nat, Callable P w K mg base (2 * b + 3) (He.ga K "_law_handled") ["_law_m", "_law_at", "_law_record_here"] [] (spLHdB b K) ∧ Callable P w K mg base (2 * b + 4) (He.ga K "_law_flushed") ["_law_m", "_law_at"] [] (spLFlB b K))
    (c__law_same : Callable P w K mg base 4 (He.ga K "_law_same") ["_law_found", "_law_due"] [] (spSame 3))
    (c__law_stands : Callable P w K mg base 5 (He.ga K "_law_stands") ["_law_yard", "_law_m"] [] (spStandsB K))
    (c_Queue_put : Callable P w K mg base 1 (He.ma K (He.ga K "Queue") "put") ["self", "record"] [] (spQPut K))
    (c_Queue___len__ : Callable P w K mg base 1 (He.ma K (He.ga K "Queue") "__len__") ["self"] [] (spQLen K))
    (c_Queue_init : Callable P w K mg base 1 (He.ma K (He.ga K "Queue") "__init__") ["self"] [] (spQInit K))
    (c_QueueListener_init : Callable P w K mg base 1 (He.ma K (He.ga K "QueueListener") "__init__") ["self", "queue", "handlers", "respect_handler_level"] [] (spLsInit K))
    (c__law_writer : Callable P w K mg base 7 (He.ga K "_law_writer") ["_law_stream", "_law_yard", "_law_nth"] [] (spWriterMk K))
    (c__law_memory : Callable P w K mg base 7 (He.ga K "_law_memory") ["_law_stream", "_law_yard", "_law_target", "_law_handlers"] [] (spMemoryMk K))
    (c_Yard_init_d1 : Callable P w K mg base 5 (He.ma K (He.ga K "Yard") "__init__") ["self", "now"] [.int 0] (spYardInit K)) :
    ∃ t, PSs (cxOf CX0 P w K mg base nm_law "law" (defScope s_law) f cdv A outer st0 H E).nox (defBody s_law) t ∧ t { nx := fun _ H' => Q .non H', rt := Q } (start nm_law vs) H := by
  obtain ⟨a, ns, rfl, hn, hS, hQ⟩ := hsp
  have hr24 := hr.mono (show 24 ≤ 36 by decide)
  obtain ⟨tw, hwrs, qwrs⟩ := wrs (f := f) (cdv := cdv) (outer := outer) (st0 := st0) (H := H) (E := E) T hr rfl c__law_writer
  obtain ⟨tl, hlst, qlst⟩ := lsts (f := f) (cdv := cdv) (outer := outer) (st0 := st0) (H := H) (E := E) T hr24 rfl c__law_draw c_QueueListener_init
  obtain ⟨td, hdeed, qdeed⟩ := deed (f := f) (cdv := cdv) (outer := outer) (st0 := st0) (H := H) (E := E) T rfl rfl rfl rfl rfl rfl rfl hr24 c__law_draw c__law_pick c__law_record c_run.1 c_run.2 c_StreamHandler_setLevel c_MemoryHandler_setLevel (c_laws 3).1 c__law_same c__law_stands c_Queue_put c_Queue___len__
  obtain ⟨tt, hturn, qturn⟩ := turn (f := f) (cdv := cdv) (outer := outer) (st0 := st0) (H := H) (E := E) T hr hwrs qwrs hlst qlst hdeed qdeed c__law_draw rfl c__law_memory rfl c_Queue_init c_Yard_init_d1
  refine ⟨_, (pss_cons (ps_set (i := 1) sc_law.nd rfl (by first | exact Or.inl rfl | exact Or.inr rfl) (pe_lst (pa_cons (pe_callTy call_list_of (by rfl) T.b_list (by decide +kernel) (pa_cons (pv 0) pa_nil)) (pa_cons pe_int (pa_cons pe_int (pa_cons pe_int pa_nil))))))
      (pss_cons (ps_for PassesOwn.never rfl (pi_range1 (by rfl) T.b_range (pa_cons pe_int pa_nil)) (pg_name (i := 2) sc_law.nd rfl (by first | exact Or.inl rfl | exact Or.inr rfl)) hturn)
      (pss_one (ps_ret pe_bl)))), ?_⟩
  walk_at "in"
  refine ⟨_, rfl, a, ns.map V.int, rfl, .inl hS, fun l hl => ⟨(by show 4 ≤ sizeLine; decide), fun s hs => ?_⟩⟩
  have st1 : Stm (upd (upd H l (.lst (ns.map V.int))) s (.lst [.ref l, .int 0, .int 0, .int 0])) s l 0 := by
    have n1 := (upd_none hs).1
    exact ⟨n1, ns, 0, 0, 0, upd_same, by rw [upd_ne (Ne.symm n1)]; exact upd_same, hn, by decide, by decide, by decide, by decide, by decide⟩
  generalize upd (upd H l (.lst (ns.map V.int))) s (.lst [.ref l, .int 0, .int 0, .int 0]) = H1 at st1
  walk_at "go"
  refine for_it walk_range (fun i σ H' => Stm H' s l (250 * i) ∧ ∃ o2 o3 o4 o5 o6 o7 o8 o9 o10 o11 o12 o13 o14 o15 o16 o17 o18 o19, σ = [some (.ref a), some (.ref s), o2, o3, o4, o5, o6, o7, o8, o9, o10, o11, o12, o13, o14, o15, o16, o17, o18, o19]) ⟨st1, _, _, _, _, _, _, _, _, _, _, _, _, _, _, _, _, _, _, rfl⟩ (fun _ _ _ _ _ => trivial) (fun i x σ H11 H12 hi hP hx => ?_) (fun σ H12 hP => ?_)
  · obtain ⟨rfl, rfl⟩ := hx
    obtain ⟨I12, o2, o3, o4, o5, o6, o7, o8, o9, o10, o11, o12, o13, o14, o15, o16, o17, o18, o19, rfl⟩ := hP
    refine qturn (n := 250 * i) H12 _ I12 (by omega) _ _ _ _ _ _ _ _ _ _ _ _ _ _ _ _ _ _ (fun σ H' h1 h2 => ?_)
    obtain ⟨o3, o4, o5, o6, o7, o8, o9, o10, o11, o12, o13, o14, o15, o16, o17, o18, o19, rfl⟩ := h2
    exact ⟨h1, _, _, _, _, _, _, _, _, _, _, _, _, _, _, _, _, _, _, rfl⟩
  · obtain ⟨_, o2, o3, o4, o5, o6, o7, o8, o9, o10, o11, o12, o13, o14, o15, o16, o17, o18, o19, rfl⟩ := hP
    walk_at "go"
    exact hQ _
/-! ### BadField made while an error is handled -/
theorem i_badfield_init {f : Addr} (T : Txt P w K mg) (F : Stands K "__init__" "BadField.__init__" s_BadField_init [] f) : RH.InitH P w K mg base 1 f ["self", "name"] (RQ.spExcInit K "name") := by
  refine RH.stands_initH F sc_BadField_init (fun vs H Q E h => ?_) (fun cdv A outer s H vs Q E p hr h => ?_) (fun _ _ _ _ _ _ us hl => match us, hl with | [_, _], _ => rfl)
  · obtain ⟨a, C, v, rfl, _⟩ := h; rfl
  obtain ⟨a, C, v, rfl, hx, ha, hQ⟩ := h
  refine ⟨_, (pss_one (ps_ost (pv 0) (pv 1))), ?_⟩
  walk_at "in"
  exact RQ.init_rd hx (fun Q h => ⟨_, rfl, h⟩) (fun Q h => ⟨_, rfl, h⟩) ha hQ
end
end K17

set_option Elab.async false
set_option linter.all false
set_option maxRecDepth 100000
set_option maxHeartbeats 0
namespace K17
open PySem PySem.Spec PyProof.Rows L2 RC
section
variable {P : Program} {w : World} {K : PySem.W.Frag} {mg : Str → Option Value} {base : Heap}
/-! ### all together -/
theorem ok_law {f : Addr} {fd : FuncData} (T : Txt P w K mg) (F : FunD K "law" "law" (defArgs s_law) (defBody s_law) (defScope s_law) [] [] f fd) : FnOk P w K mg base CX0 37 f fd ["_law_script"] (spLaw K) := by
  have c_draw := ok_draw (base := base) T T.d__law_draw 
  have c_pick := ok_pick (base := base) T T.d__law_pick c_draw
  have c_fi := ok_filterer_init (base := base) T T.d_Filterer_init 
  have c_enrol := ok_enrol (base := base) T T.d_Yard_enrol 
  have c_hi := ok_handler_init (base := base) T T.d_Handler_init c_fi c_enrol
  have c_si := ok_stream_init (base := base) T T.d_StreamHandler_init c_hi
  have c_si3 := ok_stream_init3 (base := base) T T.d_StreamHandler_init c_hi
  have c_li := ok_logger_init (base := base) T T.d_Logger_init c_fi
  have c_yi := ok_yard_init (base := base) T T.d_Yard_init c_li c_si
  have c_isint := ok_is_integer (base := base) T T.d_is_integer 
  have c_lvof := ok_level_of (base := base) T T.d_Yard_level_of c_isint
  have c_fin := @ok_filter_init P w K mg base _ [] T T.d_Filter_init
  have c_below := ok_below (base := base) T T.d_is_below 
  have c_passes := ok_passes (fb := 0) (base := base) T T.d_Filter_passes c_below
  have c_letby := ok_let_by (base := base) T T.d_let_by c_passes
  have c_filtS := ok_filtered (base := base) T T.d_StreamHandler_filtered c_letby
  have c_filtM := ok_filtered (base := base) T T.d_MemoryHandler_filtered c_letby
  have c_addFS := ok_addFilter (base := base) T T.d_StreamHandler_addFilter 
  have c_addFM := ok_addFilter (base := base) T T.d_MemoryHandler_addFilter 
  have c_copied := ok_copied (base := base) T T.d_copied_value rfl 2
  have c_recinit := ok_rec_init (base := base) T T.d_LogRecord_init c_copied
  have c_lname := ok_level_name (base := base) T T.d_Yard_level_name 
  have c_mkrec := ok_make_record (base := base) T T.d_Yard_make_record c_lvof c_lname c_recinit
  have c_bmi := ok_badmessage_init (base := base) T T.d_BadMessage_init 
  have c_bfi := ok_badfield_init (base := base) T T.d_BadField_init 
  have i_bfi := i_badfield_init (base := base) T T.d_BadField_init 
  have c_msgof := ok_message_of (base := base) T T.d_message_of c_bmi
  have c_msg := ok_message (base := base) T T.d_LogRecord_message c_msgof
  have c_field := ok_field (base := base) T T.d_LogRecord_field c_msg c_bfi c_copied
  have c_side := ok_side (base := base) T T.d_Field_side_of c_isint
  have c_wri := ok_written (base := base) T T.d_Field_written c_side
  have c_vof := ok_value_of (base := base) T T.d_Formatter_value_of c_field i_bfi
  have c_fmf := ok_fm_formatted (base := base) T T.d_Formatter_formatted c_vof c_wri
  have i_keep := ok_keep (base := base) T T.d_Yard_keep_failure 
  have c_fmtS := ok_formatted (base := base) T T.d_StreamHandler_formatted c_msg c_fmf
  have c_tofS := ok_text_of (base := base) T T.d_StreamHandler_text_of c_fmtS i_keep
  have c_text := ok_text (base := base) T T.d_Yard_text 
  have c_write := ok_write (base := base) T T.d_Yard_write_stream c_text
  have c_emitS := ok_emit (base := base) T T.d_StreamHandler_emit c_tofS c_write
  have c_hS := ok_handleS (base := base) T T.d_StreamHandler_handle c_filtS c_emitS
  have c_buf := ok_buffer (base := base) T T.d_MemoryHandler_buffer 
  have c_sh := ok_should (base := base) T T.d_MemoryHandler_shouldFlush 
  have c_mi := ok_mem_init (base := base) T T.d_MemoryHandler_init c_hi
  have c_sl := ok_setLevel (base := base) T T.d_StreamHandler_setLevel c_lvof
  have c_slM := ok_setLevel (base := base) T T.d_MemoryHandler_setLevel c_lvof
  have c_sf := ok_setFm (base := base) T T.d_StreamHandler_setFormatter 
  have c_fld := ok_field_init2 (base := base) T T.d_Field_init 
  have c_ne := ok_name_end (base := base) T T.d_name_end 
  have c_fo := ok_field_of (base := base) T T.d_field_of c_ne c_fld
  have c_pb := ok_parts (base := base) T T.d_parts_of_braces c_fo
  have c_jt := ok_joined (base := base) T T.d_joined_texts 
  have c_fmi := ok_fm_init (base := base) T T.d_Formatter_init c_pb c_jt
  have c_shp := ok_shaped (base := base) T T.d__law_shaped 
  have c_llb := ok_letby (base := base) T T.d__law_let_by 
  have c_wr2 := ok_written2 (base := base) T T.d__law_written c_shp
  have c_same := ok_same (base := base) T T.d__law_same rfl 3
  have c_strs := ok_streams (base := base) T T.d_Yard_streams 
  have c_fails := ok_failures (base := base) T T.d_Yard_failures 
  have c_mems := ok_mems (base := base) T T.d_MemoryHandler_handle T.d_MemoryHandler_flush T.d_MemoryHandler_emit c_filtM c_sh c_hS
  have c_laws := ok_laws (base := base) T T.d__law_handled T.d__law_flushed c_llb c_wr2
  have c_qi := ok_qinit (base := base) T T.d_Queue_init 
  have c_ql := ok_qlen (base := base) T T.d_Queue___len__ 
  have c_qp := ok_qput (base := base) T T.d_Queue_put 
  have c_qg := ok_qget (base := base) T T.d_Queue_get 
  have c_lsi := ok_lsinit (base := base) T T.d_QueueListener_init 
  have c_lead := ok_lead (base := base) 3 T T.d_QueueListener_lead c_hS rfl (c_mems 3).1
  have c_run := ok_run (base := base) 3 T T.d_QueueListener_run rfl c_lead c_ql c_qg
  have c_stands := ok_standsB (base := base) T T.d__law_stands c_strs c_fails c_text c_same c_buf
  have c_rec := ok_record (base := base) T T.d__law_record c_draw c_pick c_mkrec
  have c_wmk := ok_writer_mk (base := base) T T.d__law_writer c_draw c_pick c_si3 c_sl c_sf c_fmi c_addFS c_fin.1
  have c_mmk := ok_memory_mk (base := base) T T.d__law_memory c_draw c_pick c_mi c_addFM c_fin.1
  refine F.ok sc_law (fun vs H Q E h => ?_) (fun cdv A outer s H vs Q E hr hsp => ?_)
  · obtain ⟨a, ns, rfl, _⟩ := h; rfl
  obtain ⟨t, h, q⟩ := law_body T hr hsp c_draw c_pick c_rec c_run c_sl c_slM c_laws c_same c_stands c_qp c_ql c_qi c_lsi c_wmk c_mmk c_yi
  exact ⟨t, h.nox, q⟩
theorem facts {f : Addr} {h : Heap} (X : K.In h) (G : h.Ns mainGlobals mg) (hfa : mg ("law" : Str) = some (.ref f)) (c : RB.SaysB fa fx fn ts w K) :
    ∃ fd : FuncData, (∀ (s : Shared) (v : Value), BindsTo s fd ⟨[v], []⟩ [("_law_script", v)]) ∧ ∀ base : Heap, FnOk P w K mg base CX0 37 f fd ["_law_script"] (spLaw K) := by
  have T : Txt P w K mg := Txt.of X G c
  obtain ⟨fd, F⟩ := T.d_law
  have e := hfa.symm.trans T.g_law
  cases e
  have b := FunD.bindsA (ps := ["_law_script"]) F fun _ _ _ _ _ _ us hl => match us, hl with | [_], _ => rfl
  exact ⟨fd, fun s v => b s [v] rfl, fun base => ok_law T F⟩
end
end K17
open PySem PySem.W PySem.Calls PyProof.Rows
set_option maxHeartbeats 0
theorem PySem.Challenge.cw_recordyard_k53_listeners_holds : PySem.Challenge.rw_recordyard_k53_listeners.Holds := by
  w_on; o_law
  refine HandSHeadRun.head_any (r := OpenLaw.row PySem.Challenge.rw_recordyard_k53_listeners) (q := view (OpenLaw.row PySem.Challenge.rw_recordyard_k53_listeners).prog [83]) (H := K17.hk) (ob := K17.ob) (M := 15000) (loose := K17.names) (d := HandSHeadRun.topDef (OpenLaw.row PySem.Challenge.rw_recordyard_k53_listeners).prog 83) (kwd := []) K17.ob_eq
    (by kernel_rfl) (fun s => by kernel_rfl) K17.run (by kernel_rfl) (by kernel_rfl) (by kernel_rfl) (by rfl) (by first | assumption | decide +kernel) (by decide +kernel) ⟨rfl, rfl, rfl, rfl, rfl, by decide +kernel⟩ ?hw ?hc
  case hw => w_witness2
  case hc =>
    refine L2.walk_ofE (l := PySem.Challenge.rw_recordyard_k53_listeners) (n := 63) (k := 37) (x := "_law_script") (CX := L2.CX0) rfl (by decide) (by kernel_rfl) ⟨rfl, by decide, by decide⟩ ?F (fun _ _ _ _ z => z)
    intro w mg fa h Y G hmg0
    obtain ⟨K, KX, c⟩ := Y
    have hmg : mg ("law" : PySem.Str) = some (.ref fa) := by
      have e : (HandSHeadRun.topDef (OpenLaw.row PySem.Challenge.rw_recordyard_k53_listeners).prog 83).name = ("law" : PySem.Str) := by kernel_rfl
      rw [← e]
      exact hmg0
    obtain ⟨fd, hb, hF⟩ := K17.facts (P := (PySem.Challenge.rw_recordyard_k53_listeners).prog) (w := w) KX G hmg c
    exact ⟨K, fd, K17.spLaw K, KX, hb, fun H a ns hl _ hS => ⟨a, ns, rfl, hl, hS, fun _ => rfl⟩, fun base _ _ => hF base⟩
