import PyProof.Rows.All
import Wide.All
import OpenK.AllK
import Wide.FinOn
import PyProof.EqAt
import PyProof.EqKinds
import PyProof.TupleCall
import HandS.Base
import HandS.Call
import HandS.List
import HandS.Dict
import HandS.More
import HandS.Slots
import HandS.ClsMeth
import KE.KStateDown
import HandS.Exc
import HandS.IsInst
import HandS.Defaults
import HandS.HeadHook1
import HandS.HeadHook2
import HandS.Head0
import HandS.Head1
import HandS.Head2
import HandS.HeadEnd
import HandS.ExcInit
import HandS.ExcField
import HandS.ForMost
import HandS.Walk
import PyProof.NeKinds
import PyProof.StrBlock2
import HandS.Sort
import HandS.Text
import PyProof.DictUpdate
import HandS.Iter
import HandS.Conv
import HandS.Flow
import HandS.Words
import HandS.HotCalls
import HandS.Style
import HandS.Steps
import HandS.RaiseMore
import HandS.ExcOwn
import HandS.TryMany
import HandS.CallSlots
import HandS.SuiteRaise
import HandS.ExcInitHot
import HandS.NoneIn
import HandS.StrMore
import HandS.Replace
import HandS.ReplaceLit
import HandS.ReplaceDef
import PyProof.ListStr
import PySem.Challenge.RW_recordyard_k43_whole_rows_of_rotating_fi
set_option Elab.async false
set_option linter.all false
set_option maxRecDepth 100000
set_option maxHeartbeats 4000000
/-! Rules beyond the layer: == and != of instances of classes without an own __eq__ (by identity), in and not in over lists of such, a def read off its class. -/
namespace RA
open PySem PySem.Spec PyProof.Rows PySem.SeqAt
/-- a class whose instances are equal by identity -/
structure PlainC (K : PySem.W.Frag) (C : Addr) : Prop where
  mro : PySem.W.mroIn K C (.type "object") = some true
  eq : PySem.W.findIn K (.ref C) "__eq__" = some (some (.builtin "object.__eq__"))
  ne : PySem.W.findIn K (.ref C) "__ne__" = some (some (.builtin "object.__ne__"))
def PairC (K : PySem.W.Frag) (C D : Addr) : Prop := C = D ∨ ∃ b, PySem.W.subIn K (.ref D) (.ref C) = some b
section
variable {M : Model} {prog : Program} {w : World} {A : Around} {E : Value → Shared → Prop} {s : Shared} {K : PySem.W.Frag} {x y C D : Addr} {ox oy : Obj} {od od' : Option Obj}
theorem inst_get (I : PySem.W.InstAt s.heap x ox C od) : s.heap.get? x = some ox := I.at_
theorem inst_notup (I : PySem.W.InstAt s.heap x ox C od) : ox.cls ≠ .type "tuple" := by
  rw [I.cls]; intro z; cases z
theorem eq_same {Q : Value → Shared → Prop} (X : K.In s.heap) (I : PySem.W.InstAt s.heap x ox C od) (hm : PySem.W.mroIn K C (.type "object") = some true) (hq : Q (.bool true) s) :
    wpAny (model prog w) A (call (.builtin "object.__eq__") [.ref x, .ref x]) Q E s :=
  wpAny_call (codeAny_call_builtin F.cmp_object.eq.plain F.cmpEntry_eq (PySem.W.check_slot F.cmpKind_eq F.cmpSplit_eq (I.type.andThen (PySem.W.looks_mroIn X hm)) (F.cmpArgs_eq _ _) (objEq_entry_same hq)))
theorem eq_other {Q : Value → Shared → Prop} (X : K.In s.heap) (I : PySem.W.InstAt s.heap x ox C od) (hm : PySem.W.mroIn K C (.type "object") = some true) (hy : s.heap.get? y = some oy) (hxy : x ≠ y) (hq : Q .notImplemented s) :
    wpAny (model prog w) A (call (.builtin "object.__eq__") [.ref x, .ref y]) Q E s :=
  wpAny_call (codeAny_call_builtin F.cmp_object.eq.plain F.cmpEntry_eq (PySem.W.check_slot F.cmpKind_eq F.cmpSplit_eq (I.type.andThen (PySem.W.looks_mroIn X hm)) (F.cmpArgs_eq _ _) (objEq_entry_other hxy (inst_get I) hy (inst_notup I) hq)))
theorem ifB_ne {args : List Value} {Q : Option Value → Shared → Prop} (X : K.In s.heap) (I : PySem.W.InstAt s.heap x ox C od) (hs : PySem.W.findIn K (.ref C) "__ne__" = some (some (.builtin "object.__ne__")))
    (h : wpAny M A (call (.builtin "object.__ne__") (.ref x :: args)) (fun v => Q (some v)) E s) : wpAny M A (callSpecialIfBound? (.ref x) "__ne__" args) Q E s := by
  simp only [callSpecialIfBound?, bindSpecialIfBound?]
  refine wpAny_holding (wpAny_bind (wpAny_bind (wpAny_bind (I.type.here ((PySem.W.looks_findIn X hs).here ?_)))))
  refine wpAny_bind (wpAny_askSetting (wpAny_ite ?_))
  have fin : wpAny M A (call (.builtin "object.__ne__") ([.ref x] ++ args) >>= fun v => pure (some v)) Q E s := wpAny_bind (wpAny_mono h (fun v s' h' => wpAny_pure h') fun _ _ h' => h')
  split
  · exact wpAny_bind (wpAny_of_eq (F.cmp_object.ne.bind _) (wpAny_pure (by exact fin)))
  · exact wpAny_tryCatch (wpAny_bind (wpAny_of_eq (F.cmp_object.ne.bind _) (wpAny_pure (by exact fin))))
theorem ne_entry_same {Q : Fin → Shared → Prop} (X : K.In s.heap) (I : PySem.W.InstAt s.heap x ox C od) (P : PlainC K C) (hu : A.units < cLine) (hq : Q (.done (.ret (.bool false))) s) :
    wpAny (model prog w) A (Builtin.«object.__ne__» ⟨[.ref x, .ref x], []⟩) Q E s := by
  unfold Builtin.«object.__ne__»
  repeat (first | with_reducible refine wpAny_cRoomFor hu ?_ | with_reducible refine HN.ifBound_objEq X I P.eq (eq_same X I P.mro ?_) | wp_step)
  exact hq
theorem ne_entry_other {Q : Fin → Shared → Prop} (X : K.In s.heap) (I : PySem.W.InstAt s.heap x ox C od) (P : PlainC K C) (hy : s.heap.get? y = some oy) (hxy : x ≠ y) (hu : A.units < cLine) (hq : Q (.done (.ret .notImplemented)) s) :
    wpAny (model prog w) A (Builtin.«object.__ne__» ⟨[.ref x, .ref y], []⟩) Q E s := by
  unfold Builtin.«object.__ne__»
  repeat (first | with_reducible refine wpAny_cRoomFor hu ?_ | with_reducible refine HN.ifBound_objEq X I P.eq (eq_other X I P.mro hy hxy ?_) | wp_step)
  exact hq
theorem try_eq_same {Q : Option Value → Shared → Prop} (X : K.In s.heap) (I : PySem.W.InstAt s.heap x ox C od) (P : PlainC K C) (h : Q (some (.bool true)) s) : wpAny (model prog w) A (tryCompare (.ref x) "__eq__" (.ref x)) Q E s := by
  unfold tryCompare
  exact wpAny_bind (HN.ifBound_objEq X I P.eq (eq_same X I P.mro (wpAny_pure h)))
theorem try_eq_other {Q : Option Value → Shared → Prop} (X : K.In s.heap) (I : PySem.W.InstAt s.heap x ox C od) (P : PlainC K C) (hy : s.heap.get? y = some oy) (hxy : x ≠ y) (h : Q none s) : wpAny (model prog w) A (tryCompare (.ref x) "__eq__" (.ref y)) Q E s := by
  unfold tryCompare
  exact wpAny_bind (HN.ifBound_objEq X I P.eq (eq_other X I P.mro hy hxy (wpAny_pure h)))
theorem try_ne_same {Q : Option Value → Shared → Prop} (hu : A.units + 1 < cLine) (X : K.In s.heap) (I : PySem.W.InstAt s.heap x ox C od) (P : PlainC K C) (h : Q (some (.bool false)) s) : wpAny (model prog w) A (tryCompare (.ref x) "__ne__" (.ref x)) Q E s := by
  unfold tryCompare
  refine wpAny_bind (ifB_ne X I P.ne (wpAny_call (codeAny_call_builtin F.cmp_object.ne.plain F.cmpEntry_ne (PySem.W.check_slot F.cmpKind_ne F.cmpSplit_ne (I.type.andThen (PySem.W.looks_mroIn X P.mro)) (F.cmpArgs_ne _ _) (ne_entry_same (A := A.in1) X I P hu ?_)))))
  exact wpAny_pure h
theorem try_ne_other {Q : Option Value → Shared → Prop} (hu : A.units + 1 < cLine) (X : K.In s.heap) (I : PySem.W.InstAt s.heap x ox C od) (P : PlainC K C) (hy : s.heap.get? y = some oy) (hxy : x ≠ y) (h : Q none s) : wpAny (model prog w) A (tryCompare (.ref x) "__ne__" (.ref y)) Q E s := by
  unfold tryCompare
  refine wpAny_bind (ifB_ne X I P.ne (wpAny_call (codeAny_call_builtin F.cmp_object.ne.plain F.cmpEntry_ne (PySem.W.check_slot F.cmpKind_ne F.cmpSplit_ne (I.type.andThen (PySem.W.looks_mroIn X P.mro)) (F.cmpArgs_ne _ _) (ne_entry_other (A := A.in1) X I P hy hxy hu ?_)))))
  exact wpAny_pure h
theorem rc_same (hu : A.units < cLine) (X : K.In s.heap) (I : PySem.W.InstAt s.heap x ox C od) (P : PlainC K C) : RcAt A s (.ref x) (.ref x) true := fun prog w E Q h => by
  simp only [richCompare, cmpInfo_Eq, oneThing_ref]
  refine wpAny_holding (wpAny_bind (wpAny_cRoomFor hu ?_))
  refine wpAny_bind (I.type.here (wpAny_bind (I.type.here ?_)))
  rw [if_neg (by simp)]
  refine wpAny_bind (wpAny_pure ?_)
  simp only [Bool.false_eq_true, if_false]
  exact wpAny_bind (try_eq_same X I P (wpAny_pure h))
theorem rcn_same (hu : A.units + 1 < cLine) (X : K.In s.heap) (I : PySem.W.InstAt s.heap x ox C od) (P : PlainC K C) {Q : Value → Shared → Prop} (h : Q (.bool false) s) : wpAny (model prog w) A (richCompare .NotEq (.ref x) (.ref x)) Q E s := by
  simp only [richCompare, cmpInfo_NotEq, oneThing_ref]
  refine wpAny_holding (wpAny_bind (wpAny_cRoomFor (Nat.lt_of_succ_lt hu) ?_))
  refine wpAny_bind (I.type.here (wpAny_bind (I.type.here ?_)))
  rw [if_neg (by simp)]
  refine wpAny_bind (wpAny_pure ?_)
  simp only [Bool.false_eq_true, if_false]
  exact wpAny_bind (try_ne_same hu X I P (wpAny_pure h))
theorem rc_other (hu : A.units < cLine) (X : K.In s.heap) (I : PySem.W.InstAt s.heap x ox C od) (J : PySem.W.InstAt s.heap y oy D od') (P : PlainC K C) (P' : PlainC K D) (hp : PairC K C D) (hxy : x ≠ y) : RcAt A s (.ref x) (.ref y) false := fun prog w E Q h => by
  have fin : ∀ (tag : String), wpAny (model prog w) A (rule tag >>= fun _ => isSame (.ref x) (.ref y) >>= fun b => pure (Value.bool b)) Q E s := fun tag =>
    wpAny_bind (wpAny_rule (wpAny_bind (wpAny_isSame_ref_other hxy (inst_get I) (inst_get J) (inst_notup I) (wpAny_pure h))))
  simp only [richCompare, cmpInfo_Eq, oneThing_ref]
  refine wpAny_holding (wpAny_bind (wpAny_cRoomFor hu ?_))
  refine wpAny_bind (I.type.here (wpAny_bind (J.type.here ?_)))
  by_cases hCD : C = D
  · subst hCD
    rw [if_neg (by simp)]
    refine wpAny_bind (wpAny_pure ?_)
    simp only [Bool.false_eq_true, if_false, Bool.not_false, if_true]
    refine wpAny_bind (try_eq_other X I P (inst_get J) hxy ?_)
    refine wpAny_bind (try_eq_other X J P' (inst_get I) (Ne.symm hxy) ?_)
    exact fin _
  · rw [if_pos (by simp [hCD])]
    obtain ⟨b, hb⟩ := hp.resolve_left hCD
    refine wpAny_bind ((PySem.W.looks_subIn X hb).here ?_)
    cases b with
    | false =>
      simp only [Bool.false_eq_true, if_false, Bool.not_false, if_true]
      refine wpAny_bind (try_eq_other X I P (inst_get J) hxy ?_)
      refine wpAny_bind (try_eq_other X J P' (inst_get I) (Ne.symm hxy) ?_)
      exact fin _
    | true =>
      simp only [Bool.not_true, Bool.false_eq_true, if_false, if_true]
      refine wpAny_bind (try_eq_other X J P' (inst_get I) (Ne.symm hxy) ?_)
      refine wpAny_bind (try_eq_other X I P (inst_get J) hxy ?_)
      exact fin _
theorem rcn_other (hu : A.units + 1 < cLine) (X : K.In s.heap) (I : PySem.W.InstAt s.heap x ox C od) (J : PySem.W.InstAt s.heap y oy D od') (P : PlainC K C) (P' : PlainC K D) (hp : PairC K C D) (hxy : x ≠ y) {Q : Value → Shared → Prop} (h : Q (.bool true) s) :
    wpAny (model prog w) A (richCompare .NotEq (.ref x) (.ref y)) Q E s := by
  have fin : ∀ (tag : String), wpAny (model prog w) A (rule tag >>= fun _ => isSame (.ref x) (.ref y) >>= fun b => pure (Value.bool (!b))) Q E s := fun tag =>
    wpAny_bind (wpAny_rule (wpAny_bind (wpAny_isSame_ref_other hxy (inst_get I) (inst_get J) (inst_notup I) (wpAny_pure h))))
  simp only [richCompare, cmpInfo_NotEq, oneThing_ref]
  refine wpAny_holding (wpAny_bind (wpAny_cRoomFor (Nat.lt_of_succ_lt hu) ?_))
  refine wpAny_bind (I.type.here (wpAny_bind (J.type.here ?_)))
  by_cases hCD : C = D
  · subst hCD
    rw [if_neg (by simp)]
    refine wpAny_bind (wpAny_pure ?_)
    simp only [Bool.false_eq_true, if_false, Bool.not_false, if_true]
    refine wpAny_bind (try_ne_other hu X I P (inst_get J) hxy ?_)
    refine wpAny_bind (try_ne_other hu X J P' (inst_get I) (Ne.symm hxy) ?_)
    exact fin _
  · rw [if_pos (by simp [hCD])]
    obtain ⟨b, hb⟩ := hp.resolve_left hCD
    refine wpAny_bind ((PySem.W.looks_subIn X hb).here ?_)
    cases b with
    | false =>
      simp only [Bool.false_eq_true, if_false, Bool.not_false, if_true]
      refine wpAny_bind (try_ne_other hu X I P (inst_get J) hxy ?_)
      refine wpAny_bind (try_ne_other hu X J P' (inst_get I) (Ne.symm hxy) ?_)
      exact fin _
    | true =>
      simp only [Bool.not_true, Bool.false_eq_true, if_false, if_true]
      refine wpAny_bind (try_ne_other hu X J P' (inst_get I) (Ne.symm hxy) ?_)
      refine wpAny_bind (try_ne_other hu X I P (inst_get J) hxy ?_)
      exact fin _
end
end RA
namespace RA
open PySem PySem.Spec PyProof.Rows PySem.SeqAt L2
/-- an instance of a plain class stands there -/
def InsP (K : PySem.W.Frag) (H : Hp) (a C : Addr) : Prop := (∃ dx fs, H a = some (.ins C dx fs)) ∧ PlainC K C
theorem InsP.of {K : PySem.W.Frag} {H : Hp} {a C dx : Addr} {fs : List (Str × V)} (h : H a = some (.ins C dx fs)) (p : PlainC K C) : InsP K H a C := ⟨⟨dx, fs, h⟩, p⟩
section
variable {X : Cx} {pins : List (Addr × Obj)} {σ : L2.St} {H : Hp} {s : Shared}
theorem insp_at {a C : Addr} (I : Inv X pins σ H s) (h : InsP X.K H a C) : ∃ ox od, PySem.W.InstAt s.heap a ox C od := by
  obtain ⟨⟨dx, fs, ha⟩, _⟩ := h
  obtain ⟨mA, O, _⟩ := ins_get I.hok ha
  obtain ⟨od, J, _⟩ := O.look
  exact ⟨_, _, J⟩
/-- x == y: y an instance, None, or a number, a text, a truth -/
def rEqP (K : PySem.W.Frag) : R2 := fun x y H Q => ∃ a C, x = .ref a ∧ InsP K H a C ∧ ((y = .non ∧ Q (.bl false) H) ∨ ∃ b D, y = .ref b ∧ InsP K H b D ∧ PairC K C D ∧ Q (.bl (decide (a = b))) H)
def rNeP (K : PySem.W.Frag) : R2 := fun x y H Q => ∃ a C b D, x = .ref a ∧ InsP K H a C ∧ y = .ref b ∧ InsP K H b D ∧ PairC K C D ∧ Q (.bl (!decide (a = b))) H
theorem op_eqP (hu : X.A.units < cLine) : OpR X (compareOp .Eq) (rEqP X.K) := by
  intro pins s σ H x y v u Q I rx ry h
  obtain ⟨a, C, rfl, ha, h⟩ := h
  cases rx
  obtain ⟨ox, od, Ia⟩ := insp_at I ha
  rcases h with ⟨rfl, q⟩ | ⟨b, D, rfl, hb, hp, q⟩
  · cases ry
    exact HN.rc_none hu I.kIn Ia ha.2.mro ha.2.eq _ _ _ _ (fin_bl I q rfl)
  · cases ry
    obtain ⟨oy, od', Ib⟩ := insp_at I hb
    by_cases z : a = b
    · subst z
      have e : C = D := by
        have h1 := Ia.cls.symm.trans ((congrArg Obj.cls (Option.some.inj (Ia.at_.symm.trans Ib.at_))).trans Ib.cls)
        exact Value.ref.inj h1
      subst e
      exact rc_same hu I.kIn Ia ha.2 _ _ _ _ (fin_bl I q (by simp))
    · exact rc_other hu I.kIn Ia Ib ha.2 hb.2 hp z _ _ _ _ (fin_bl I q (by simp [z]))
theorem op_neP (hu : X.A.units + 1 < cLine) : OpR X (compareOp .NotEq) (rNeP X.K) := by
  intro pins s σ H x y v u Q I rx ry h
  obtain ⟨a, C, b, D, rfl, ha, rfl, hb, hp, q⟩ := h
  cases rx
  cases ry
  obtain ⟨ox, od, Ia⟩ := insp_at I ha
  obtain ⟨oy, od', Ib⟩ := insp_at I hb
  by_cases z : a = b
  · subst z
    exact rcn_same hu I.kIn Ia ha.2 (fin_bl I q (by simp))
  · exact rcn_other hu I.kIn Ia Ib ha.2 hb.2 hp z (fin_bl I q (by simp [z]))
/-- x in l: x an instance, the items instances -/
def rInP (K : PySem.W.Frag) (neg : Bool) : R2 := fun x y H Q => ∃ (a C p : Addr) (as : List Addr), x = .ref a ∧ InsP K H a C ∧ y = .ref p ∧ SqL K H p (as.map V.ref) ∧ (∀ b ∈ as, ∃ D, InsP K H b D ∧ PairC K D C) ∧ Q (.bl (if neg then !decide (a ∈ as) else decide (a ∈ as))) H
theorem eqAt_ref {A : Around} {a b C D : Addr} (I : Inv X pins σ H s) (hu : A.units < cLine) (ha : InsP X.K H a C) (hb : InsP X.K H b D) (hp : PairC X.K D C) : EqAt A s (.ref b) (.ref a) (decide (b = a)) := by
  by_cases z : b = a
  · subst z
    rw [decide_eq_true rfl]
    exact EqAt.same _
  · rw [decide_eq_false z]
    obtain ⟨ox, od, Ia⟩ := insp_at I ha
    obtain ⟨oy, od', Ib⟩ := insp_at I hb
    intro prog w E Q h
    unfold eqBool
    refine wpAny_holding ?_
    refine wpAny_ite_split (fun hab => absurd (eq_of_beq hab) (fun e => z (Value.ref.inj e))) (fun _ => ?_)
    exact wpAny_bind (rc_other hu I.kIn Ib Ia hb.2 ha.2 hp z prog w E _ (wpAny_truthy_bool h))
theorem any_refs {a : Addr} : ∀ {as : List Addr} {us : List Value}, Vals (as.map V.ref) us → us.any (fun u => u == .ref a) = decide (a ∈ as)
  | [], _, .nil => by simp
  | b :: as, u :: us, .cons r t => by
    cases (show u = Value.ref b from r)
    rw [List.any_cons, any_refs t]
    by_cases z : b = a
    · subst z; simp
    · have z' : ¬ a = b := fun e => z e.symm
      simp [z, z']
theorem mem_refs {A : Around} {a C : Addr} (I : Inv X pins σ H s) (hu : A.units < cLine) (ha : InsP X.K H a C) : ∀ {as : List Addr} {us : List Value}, Vals (as.map V.ref) us → (∀ b ∈ as, ∃ D, InsP X.K H b D ∧ PairC X.K D C) → ∀ u ∈ us, EqAt A s u (.ref a) (u == .ref a)
  | [], _, .nil, _ => fun u hu' => by cases hu'
  | b :: as, u :: us, .cons r t, f => fun u' hu' => by
    rcases List.mem_cons.mp hu' with e | hu'
    · subst e
      cases (show u' = Value.ref b from r)
      obtain ⟨D, hb, hp⟩ := f b (List.mem_cons_self ..)
      have e2 : (Value.ref b == Value.ref a) = decide (b = a) := by
        by_cases z : b = a <;> simp [z]
      rw [e2]
      exact eqAt_ref I hu ha hb hp
    · exact mem_refs I hu ha t (fun z hz => f z (List.mem_cons_of_mem _ hz)) u' hu'
theorem op_inP (hu : X.A.units + 64 < cLine) : OpR X (compareOp .In) (rInP X.K false) := by
  intro pins s σ H x y v u Q I rx ry h
  obtain ⟨a, C, p, as, rfl, ha, rfl, hq, f, q⟩ := h
  cases rx
  cases ry
  obtain ⟨its, rv, hl, _⟩ := I.list hq
  have hu1 : X.A.in1.units < cLine := by show X.A.units + 1 < cLine; omega
  refine SeqAt.in_listAt (fun u => u == .ref a) hl.isList (fun z hz => mem_refs I hu1 ha rv f z (by simpa using hz)) ⟨.bl _, H, I, rfl, ?_⟩
  rw [show its.toArray.any (fun u => u == .ref a) = its.any (fun u => u == .ref a) by simp, any_refs rv]
  exact q
theorem op_notInP (hu : X.A.units + 64 < cLine) : OpR X (compareOp .NotIn) (rInP X.K true) := by
  intro pins s σ H x y v u Q I rx ry h
  obtain ⟨a, C, p, as, rfl, ha, rfl, hq, f, q⟩ := h
  cases rx
  cases ry
  obtain ⟨its, rv, hl, _⟩ := I.list hq
  have hu1 : X.A.in1.units < cLine := by show X.A.units + 1 < cLine; omega
  refine SeqAt.notIn_listAt (fun u => u == .ref a) hl.isList (fun z hz => mem_refs I hu1 ha rv f z (by simpa using hz)) ⟨.bl _, H, I, rfl, ?_⟩
  rw [show its.toArray.any (fun u => u == .ref a) = its.any (fun u => u == .ref a) by simp, any_refs rv]
  exact q
/-! ### a def read off its class: C.m(x, ..) -/
structure CFun (K : PySem.W.Frag) (C : Addr) (m : Str) (f : Addr) : Prop where
  ga : PySem.W.specialIn K (.ref C) "__getattribute__" = some (some (.builtin "type.__getattribute__"))
  rd : PySem.W.readsIn K C (.type "type") = true
  at_ : PySem.W.findCls K (.ref C) (.type "type") m = some (.val (.ref f))
  kp : PySem.W.keepIn K (.ref f) = true
def tCFun (C : Addr) (sp : Sp) (dvs : List V) (E : XK) (ta : TE) (t : TA) : TE := fun σ H Q => ta σ H fun x H1 => x = .ref C ∧ t σ H1 fun vs H2 => sp (vs ++ dvs) H2 Q E
theorem pe_cfun {CX : CXT} {k : Nat} {C f : Addr} {fd : FuncData} {ps : List Str} {sp : Sp} {dvs : List V} {ds : List Value} {E : XK} {o e : Expr} {es : List Expr} {m : Str} {pos apos : Pos} {ta : TE} {t : TA} {pl : Sem Bool}
    (he : PE X o ta) (c : CFun X.K C m f) (F : FnOk X.prog X.w X.K X.mg X.base CX k f fd ps sp) (hr : Room k X.A) (hb : Binds X.K fd ps ds) (hd : Vals dvs ds) (hx : Passes CX X E) (ha : PA X (e :: es) t)
    (hst : starEach (e :: es) X.env = (false, eval e X.env) :: starEach es X.env := by rfl) (hpl : (backTo pos (starEach es X.env)).any (·.1) = false := by rfl)
    (ht : eval (.Call (.Attribute o m apos) (e :: es) [] pos) X.env = (do
      let ov ← eval o X.env
      standAt apos.atName
      let (f, first) ← holding [ov] (getMethod ov m pl)
      callWith pos f first (backTo pos (starEach (e :: es) X.env)) (backToKw pos (keywordEach [] X.env))) := by rfl) :
    PE X (.Call (.Attribute o m apos) (e :: es) [] pos) (tCFun C sp dvs E ta t) := by
  refine ⟨fun pins s σ H Q I h => ?_⟩
  refine PySem.W.methodCall_KW (pl := pl) (thn (he.run pins s σ H _ I h) fun u s1 ⟨x, H1, I1, rx, ex, q⟩ => ?_) ht
  subst ex
  obtain rfl : u = Value.ref C := rx
  refine PySem.W.method_cls I1.kIn c.ga (PySem.W.cls_value I1.kIn c.rd c.at_ (handed_of (v := .ref f) rfl) ?_)
  have I2 := I1.tok (s1.toks + 1)
  refine PySem.W.callWith_K (first := []) (h₀ := X.base) I2.ok.mod.kin c.kp (thn (ha.run pos pins _ σ H1 _ I2 q) fun us s2 ⟨vs, H2, I3, r, q2⟩ => ⟨I3.kIn, ?_⟩) hst hpl
  exact run_fn F hr hb hd hx I3 r q2
/-! ### one of two rules -/
theorem PE.or {e : Expr} {t t' : TE} (h : PE X e t) (h' : PE X e t') : PE X e (fun σ H Q => t σ H Q ∨ t' σ H Q) := ⟨fun pins s σ H Q I q => by
  rcases q with q | q
  · exact h.run pins s σ H Q I q
  · exact h'.run pins s σ H Q I q⟩
/-- any of many rules for one expression -/
theorem PE.any {ι : Type} {e : Expr} {t : ι → TE} (S : ι → Prop) (h : ∀ i, S i → PE X e (t i)) : PE X e (fun σ H Q => ∃ i, S i ∧ t i σ H Q) := ⟨fun pins s σ H Q I ⟨i, hi, q⟩ => (h i hi).run pins s σ H Q I q⟩
end
end RA

set_option Elab.async false
set_option linter.all false
set_option maxRecDepth 100000
set_option maxHeartbeats 4000000
/-! The head's facts: He.Fa and He.DefD, further facts of classes, dicts of the top with their items. -/
namespace RB
open PySem PySem.Spec PyProof.Rows L2 He
/-- what isinstance asks of a value's own class -/
structure TyC (K : PySem.W.Frag) (C : Addr) : Prop where
  ha : PySem.W.findIn K (.ref C) "__class__" = some (some (.builtin "object.__class__"))
  hn : PySem.W.specialIn K (.builtin "object.__class__") "__get__" = some (some (.builtin "getset_descriptor.__get__"))
  ht : PySem.W.takesIn K (.builtin "object.__class__") = some true
  hm : PySem.W.mroIn K C (.type "object") = some true
/-- an own class of errors, over ValueError, whose __init__ keeps one field -/
structure ExcF (K : PySem.W.Frag) (C : Addr) (f : Str) : Prop where
  ox : OexC K C
  no : PySem.W.findIn K (.ref C) f = some none
  ini : PySem.W.findIn K (.ref C) "__init__" = some (some (.ref (ma K C "__init__")))
  ty : PySem.W.typeIn K (.ref (ma K C "__init__")) = some (.type "function")
  xf : XfC K C
def clsB (K : PySem.W.Frag) (C : Addr) : Bool := match K.lookup C with
  | some ⟨.type t, _, .cls cd, sl⟩ => decide (t = "type") && (match cd.mro, sl.toList with
    | .ref C' :: bm, [_, _, _, _, some (.builtin n), _] => decide (C' = C) && (decide (n = "ValueError.__new__") && (!cd.hasDel && (cd.hasDict && PySem.HandSPX.refsVE bm)))
    | _, _ => false)
  | _ => false
def oexB (K : PySem.W.Frag) (C : Addr) : Bool := clsB K C && (eqO (PySem.W.findIn K (.ref C) "__setattr__") (some (some (.builtin "object.__setattr__"))) && (decide (PySem.W.subIn K (.ref C) (.type "BaseException") = some true) && (decide (PySem.W.typeIn K (.ref C) = some (.type "type")) && PySem.W.keepIn K (.ref C))))
theorem oexB_ok {K : PySem.W.Frag} {C : Addr} (h : oexB K C = true) : OexC K C := by
  obtain ⟨h1, h⟩ := ba h
  obtain ⟨h2, h⟩ := ba h
  obtain ⟨h3, h⟩ := ba h
  obtain ⟨h4, h5⟩ := ba h
  refine ⟨?_, eqO_ok h2, of_decide_eq_true h3, of_decide_eq_true h4, h5⟩
  unfold clsB at h1
  split at h1
  · rename_i t dd cd sl ho
    obtain ⟨ht, h1⟩ := ba h1
    split at h1
    · rename_i C' bm k0 k1 k2 k3 n k5 hm hs
      obtain ⟨e1, h1⟩ := ba h1
      obtain ⟨e2, h1⟩ := ba h1
      obtain ⟨e3, h1⟩ := ba h1
      obtain ⟨e4, e5⟩ := ba h1
      have e1 := of_decide_eq_true e1
      have e2 := of_decide_eq_true e2
      have ht := of_decide_eq_true ht
      subst e1 e2 ht
      obtain ⟨nm, bs, mro, ns, qn, hd, sn, sub, ab, col, del⟩ := cd
      dsimp only at hm e3 e4
      subst hm e4
      have e3 : del = false := by cases del with
        | false => rfl
        | true => cases e3
      subst e3
      have hsl : sl = #[k0, k1, k2, k3, some (.builtin "ValueError.__new__"), k5] := by
        obtain ⟨l⟩ := sl
        dsimp only at hs
        rw [hs]
      subst hsl
      exact ⟨nm, qn, ns, bs, bm, sn, sub, ab, col, dd, k0, k1, k2, k3, k5, ho, e5⟩
    · cases h1
  · cases h1
inductive Fx where
  | exc (x f : Str)
  | exm (x y : Str) (b : Bool)
  | pl (x : Str)
  | sub (x y : Str)
  | cf (x m : Str)
  | ty (x : Str)
  | kit (x y : Str) (b : Bool)
  | kib (n : String) (y : Str) (b : Bool)
  | dtup (p : Str × Option Str) (i : Nat)
  | kiy (x : Str) (n : String) (b : Bool)
  | ktup (x : Str) (zs : List Str)
/-- these values are these texts -/
def strsB : List Value → List Str → Bool
  | [], [] => true
  | .str a _ :: r, z :: zs => decide (a = z) && strsB r zs
  | _, _ => false
def Fx.ok (K : PySem.W.Frag) : Fx → Bool
  | .exc x f => oexB K (ga K x) && (eqO (PySem.W.findIn K (.ref (ga K x)) f) (some none) && (decide (PySem.W.findIn K (.ref (ga K x)) "__init__" = some (some (.ref (ma K (ga K x) "__init__")))) && (decide (PySem.W.typeIn K (.ref (ma K (ga K x) "__init__")) = some (.type "function")) && xfB K (ga K x))))
  | .exm x y b => decide (PySem.W.exmOne K (.ref (ga K x)) (.ref (ga K y)) = some b)
  | .pl x => decide (PySem.W.mroIn K (ga K x) (.type "object") = some true) && (eqO (PySem.W.findIn K (.ref (ga K x)) "__eq__") (some (some (.builtin "object.__eq__"))) && eqO (PySem.W.findIn K (.ref (ga K x)) "__ne__") (some (some (.builtin "object.__ne__"))))
  | .sub x y => decide (ga K x = ga K y) || (PySem.W.subIn K (.ref (ga K y)) (.ref (ga K x))).isSome
  | .cf x m => eqO (PySem.W.specialIn K (.ref (ga K x)) "__getattribute__") (some (some (.builtin "type.__getattribute__"))) && (PySem.W.readsIn K (ga K x) (.type "type") && ((match PySem.W.findCls K (.ref (ga K x)) (.type "type") m with
    | some (.val (.ref f)) => decide (f = ma K (ga K x) m)
    | _ => false) && PySem.W.keepIn K (.ref (ma K (ga K x) m))))
  | .ty x => eqO (PySem.W.findIn K (.ref (ga K x)) "__class__") (some (some (.builtin "object.__class__"))) && (eqO (PySem.W.specialIn K (.builtin "object.__class__") "__get__") (some (some (.builtin "getset_descriptor.__get__"))) && (decide (PySem.W.takesIn K (.builtin "object.__class__") = some true) && decide (PySem.W.mroIn K (ga K x) (.type "object") = some true)))
  | .kit x y b => decide (PySem.W.kitOne K (.ref (ga K x)) (.ref (ga K y)) = some b)
  | .kib n y b => decide (PySem.W.kitOne K (.type n) (.ref (ga K y)) = some b)
  | .ktup x zs => decide (zs.length ≤ 1000) && (match K.lookup (ga K x) with
    | some ⟨.type c, _, .seq its _, _⟩ => decide (c = "tuple") && strsB its.toList zs
    | _ => false)
  | .kiy x n b => decide (PySem.W.kitOne K (.ref (ga K x)) (.type n) = some b)
  | .dtup p i => (match K.lookup (dflAt p i K) with
    | some ⟨.type c, _, .seq its _, _⟩ => decide (c = "tuple") && its.isEmpty
    | _ => false)
section
variable {K : PySem.W.Frag}
theorem exc_ok {x f : Str} (c : (Fx.exc x f).ok K = true) : ExcF K (ga K x) f := by
  obtain ⟨c1, c⟩ := ba c
  obtain ⟨c2, c⟩ := ba c
  obtain ⟨c3, c⟩ := ba c
  obtain ⟨c4, c5⟩ := ba c
  exact ⟨oexB_ok c1, eqO_ok c2, of_decide_eq_true c3, of_decide_eq_true c4, xfB_ok c5⟩
theorem exm_ok {x y : Str} {b : Bool} (c : (Fx.exm x y b).ok K = true) : PySem.W.exmOne K (.ref (ga K x)) (.ref (ga K y)) = some b := of_decide_eq_true c
theorem pl_ok {x : Str} (c : (Fx.pl x).ok K = true) : RA.PlainC K (ga K x) := by
  obtain ⟨c1, c⟩ := ba c
  obtain ⟨c2, c3⟩ := ba c
  exact ⟨of_decide_eq_true c1, eqO_ok c2, eqO_ok c3⟩
theorem sub_ok {x y : Str} (c : (Fx.sub x y).ok K = true) : RA.PairC K (ga K x) (ga K y) := by
  rcases Bool.or_eq_true_iff.mp c with c | c
  · exact .inl (of_decide_eq_true c)
  · exact .inr (Option.isSome_iff_exists.mp c)
theorem cf_ok {x m : Str} (c : (Fx.cf x m).ok K = true) : RA.CFun K (ga K x) m (ma K (ga K x) m) := by
  obtain ⟨c1, c⟩ := ba c
  obtain ⟨c2, c⟩ := ba c
  obtain ⟨c3, c4⟩ := ba c
  refine ⟨eqO_ok c1, c2, ?_, c4⟩
  cases e : PySem.W.findCls K (.ref (ga K x)) (.type "type") m with
  | none => rw [e] at c3; cases c3
  | some r =>
    rw [e] at c3
    cases r with
    | get _ _ _ _ => cases c3
    | val v =>
      cases v with
      | ref f => rw [of_decide_eq_true c3]
      | _ => cases c3
theorem ty_ok {x : Str} (c : (Fx.ty x).ok K = true) : TyC K (ga K x) := by
  obtain ⟨c1, c⟩ := ba c
  obtain ⟨c2, c⟩ := ba c
  obtain ⟨c3, c4⟩ := ba c
  exact ⟨eqO_ok c1, eqO_ok c2, of_decide_eq_true c3, of_decide_eq_true c4⟩
theorem kit_ok {x y : Str} {b : Bool} (c : (Fx.kit x y b).ok K = true) : PySem.W.kitOne K (.ref (ga K x)) (.ref (ga K y)) = some b := of_decide_eq_true c
theorem kiy_ok {x : Str} {n : String} {b : Bool} (c : (Fx.kiy x n b).ok K = true) : PySem.W.kitOne K (.ref (ga K x)) (.type n) = some b := of_decide_eq_true c
theorem kib_ok {n : String} {y : Str} {b : Bool} (c : (Fx.kib n y b).ok K = true) : PySem.W.kitOne K (.type n) (.ref (ga K y)) = some b := of_decide_eq_true c
theorem dtup_ok {p : Str × Option Str} {i : Nat} (h : (Fx.dtup p i).ok K = true) (H : Hp) : SqT K H (dflAt p i K) [] := by
  have h1 : (match K.lookup (dflAt p i K) with
    | some ⟨.type c, _, .seq its _, _⟩ => decide (c = "tuple") && its.isEmpty
    | _ => false) = true := h
  cases q : K.lookup (dflAt p i K) with
  | none => rw [q] at h1; cases h1
  | some o =>
    obtain ⟨oc, od, dt, osl⟩ := o
    rw [q] at h1
    cases oc with
    | type c =>
      cases dt with
      | seq its n =>
        obtain ⟨h2, h3⟩ := ba (show (decide (c = "tuple") && its.isEmpty) = true from h1)
        have e3 : its = #[] := Array.isEmpty_iff.mp h3
        subst e3
        exact .inr ⟨_, #[], n, q, congrArg Value.type (of_decide_eq_true h2), rfl, Nat.zero_le _, .nil⟩
      | _ => cases h1
    | _ => cases dt <;> cases h1
theorem strs_vals : ∀ {us : List Value} {zs : List Str}, strsB us zs = true → Vals (zs.map V.str) us
  | [], [], _ => .nil
  | .str a t :: r, z :: zs, h => by
    obtain ⟨h1, h2⟩ := ba (show (decide (a = z) && strsB r zs) = true from h)
    obtain rfl := of_decide_eq_true h1
    exact .cons ⟨t, rfl⟩ (strs_vals h2)
theorem ktup_ok {x : Str} {zs : List Str} (h : (Fx.ktup x zs).ok K = true) (H : Hp) : SqT K H (ga K x) (zs.map V.str) := by
  obtain ⟨h0, h⟩ := ba h
  have h1 : (match K.lookup (ga K x) with
    | some ⟨.type c, _, .seq its _, _⟩ => decide (c = "tuple") && strsB its.toList zs
    | _ => false) = true := h
  cases q : K.lookup (ga K x) with
  | none => rw [q] at h1; cases h1
  | some o =>
    obtain ⟨oc, od, dt, osl⟩ := o
    rw [q] at h1
    cases oc with
    | type c =>
      cases dt with
      | seq its n =>
        obtain ⟨h2, h3⟩ := ba (show (decide (c = "tuple") && strsB its.toList zs) = true from h1)
        have hv := strs_vals h3
        refine .inr ⟨_, its, n, q, congrArg Value.type (of_decide_eq_true h2), rfl, ?_, hv⟩
        have hl := hv.length
        have hz := of_decide_eq_true h0
        rw [List.length_map] at hl
        have : its.size = zs.length := by rw [← Array.length_toList]; omega
        rw [this, sizeLine_eq]; omega
      | _ => cases h1
    | _ => cases dt <;> cases h1
theorem TyC.tyx {C a dx : Addr} {H : Hp} {fs : List (Str × V)} (t : TyC K C) (c : Cls K C) (e : H a = some (.ins C dx fs)) : TyX K H (.ref a) (.ref C) := .base (.ins e c t.ha t.hn t.ht t.hm)
end
/-! ### dicts of the top -/
def keyE (e : DictEntry) : Option (Key × Int) := match e.key with
  | .int i _ => some (Sum.inl i, e.hash)
  | .str x _ => some (Sum.inr x, e.hash)
  | _ => none
def keyHP (P : Params) : Key → Int
  | .inl i => hashInt i
  | .inr x => PyData.keyHash P x
abbrev Tb : Type := Str × List (Key × Dv)
def tbRow (K : PySem.W.Frag) (x : Str) : Option (List (Option (Key × Int))) := match K.lookup (ga K x) with
  | some ⟨.type c, none, .dict es _, sl⟩ => (match decide (c = "dict") && (sl.isEmpty && !(ga K x == sysModules)) with
    | true => some (es.toList.map keyE)
    | false => none)
  | _ => none
def tbWant (P : Params) (kvs : List (Key × Dv)) : Option (List (Option (Key × Int))) := some (kvs.map fun q => some (q.1, keyHP P q.1))
def tbVals (K : PySem.W.Frag) (t : Tb) : Bool := decide ((t.2.map (·.1)).Nodup) && (decide (t.2.length ≤ sizeLine) && (match K.lookup (ga K t.1) with
  | some ⟨_, _, .dict es _, _⟩ => relAll (t.2.map fun q => q.2.v K) (es.toList.map (·.val))
  | _ => false))
/-- a dict of the top with these items -/
structure KD (P : Program) (w : World) (K : PySem.W.Frag) (a : Addr) (kvs : List (Key × V)) : Prop where
  low : (a == sysModules) = false
  len : kvs.length ≤ sizeLine
  at_ : ∃ vs, KV kvs vs ∧ ∀ h : Heap, K.In h → h.DictOf (mixKind P w) a vs
theorem rows_pairs {P : Program} {w : World} : ∀ {es : List DictEntry} {kvs : List (Key × V)}, es.map keyE = kvs.map (fun q => some (q.1, keyHP w.params q.1)) → relAll (kvs.map (·.2)) (es.map (·.val)) = true →
    ∃ vs, KV kvs vs ∧ Pairs (mixKind P w) es vs ∧ vs.map (·.1) = kvs.map (·.1) ∧ ∀ e ∈ es, ∃ k, (mixKind P w).is k e.key = true ∧ e.hash = (mixKind P w).hash k
  | [], [], _, _ => ⟨[], .nil, .nil, rfl, fun _ h => nomatch h⟩
  | [], _ :: _, h, _ => by cases h
  | _ :: _, [], h, _ => by cases h
  | e :: es, q :: kvs, h, hv => by
    rw [List.map_cons, List.map_cons] at h
    injection h with h1 h2
    obtain ⟨v1, v2⟩ := ba (show (relB q.2 e.val && relAll (kvs.map (·.2)) (es.map (·.val))) = true from hv)
    obtain ⟨vs, r, p, n, kk⟩ := rows_pairs (P := P) h2 v2
    have key : (mixKind P w).is q.1 e.key = true ∧ e.hash = (mixKind P w).hash q.1 := by
      unfold keyE at h1
      split at h1
      · rename_i i t ek
        have h3 := Prod.mk.inj (Option.some.inj h1)
        rw [← h3.1, ek]
        refine ⟨mixKind_int P w i t, ?_⟩
        rw [h3.2, ← h3.1]; rfl
      · rename_i x t ek
        have h3 := Prod.mk.inj (Option.some.inj h1)
        rw [← h3.1, ek]
        refine ⟨mixKind_str P w x t, ?_⟩
        rw [h3.2, ← h3.1]; rfl
      · cases h1
    refine ⟨(q.1, e.val) :: vs, .cons ⟨rfl, relB_ok v1⟩ r, .cons key.1 rfl p, by rw [List.map_cons, List.map_cons, n], fun e' he => ?_⟩
    rcases List.mem_cons.mp he with rfl | he
    · exact ⟨q.1, key⟩
    · exact kk e' he
theorem kd_of {P : Program} {w : World} {K : PySem.W.Frag} {t : Tb} (h1 : tbRow K t.1 = tbWant w.params t.2) (h2 : tbVals K t = true) : KD P w K (ga K t.1) (t.2.map fun q => (q.1, q.2.v K)) := by
  obtain ⟨nd, h2⟩ := ba h2
  obtain ⟨ln, h2⟩ := ba h2
  unfold tbRow tbWant at h1
  cases q : K.lookup (ga K t.1) with
  | none => rw [q] at h1; cases h1
  | some o =>
    obtain ⟨oc, od, dt, osl⟩ := o
    rw [q] at h1 h2
    cases oc with
    | type c =>
      cases od with
      | none =>
        cases dt with
        | dict es n =>
          have h3 : (match decide (c = "dict") && (osl.isEmpty && !(ga K t.1 == sysModules)) with
            | true => some (es.toList.map keyE)
            | false => none) = some (t.2.map fun q => some (q.1, keyHP w.params q.1)) := h1
          cases z : decide (c = "dict") && (osl.isEmpty && !(ga K t.1 == sysModules)) with
          | false => rw [z] at h3; cases h3
          | true =>
            rw [z] at h3
            obtain ⟨z1, z2⟩ := ba z
            obtain ⟨z3, z4⟩ := ba z2
            have e1 : c = "dict" := of_decide_eq_true z1
            have e2 : osl = #[] := Array.isEmpty_iff.mp z3
            have e3 : (ga K t.1 == sysModules) = false := by
              cases y : (ga K t.1 == sysModules) with
              | false => rfl
              | true => rw [y] at z4; cases z4
            subst e1 e2
            have h4 : es.toList.map keyE = (t.2.map fun q => (q.1, q.2.v K)).map (fun q => some (q.1, keyHP w.params q.1)) := by
              rw [List.map_map]
              exact Option.some.inj h3
            have h5 : relAll ((t.2.map fun q => (q.1, q.2.v K)).map (·.2)) (es.toList.map (·.val)) = true := by
              rw [List.map_map]
              exact h2
            obtain ⟨vs, r, p, nm, kk⟩ := rows_pairs (P := P) h4 h5
            refine ⟨e3, by rw [List.length_map]; exact of_decide_eq_true ln, vs, r, fun h X => ⟨_, es, n, X _ _ q, ⟨rfl, rfl, rfl⟩, rfl, fun e he => kk e (Array.mem_toList_iff.mpr he), p, ?_⟩⟩
            rw [nm, List.map_map]
            exact of_decide_eq_true nd
        | _ => cases h1
      | some d => cases dt <;> cases h1
    | _ => cases od <;> cases dt <;> cases h1
section
variable {X : Cx}
/-- dict(D), D a dict of the top: a new one -/
theorem call_dictK {D : Addr} {kvs : List (Key × V)} (k : KD X.prog X.w X.K D kvs) : CallR X (.type "dict") (fun xs H Q => xs = [.ref D] ∧ ∀ p, H p = none → Q (.ref p) (upd H p (.dK kvs))) := by
  intro pins s σ H xs us Q I r q
  obtain ⟨ex, q⟩ := q
  subst ex
  obtain ⟨u, eu, rx⟩ := vals1 r
  subst eu
  cases rx
  obtain ⟨vs, rel, dd⟩ := k.at_
  refine kt_call_dict k.low (dd _ I.kIn) (by rw [← rel.length]; exact k.len) fun h' d' hs => ?_
  have hm : (s.heap.objs.size == sysModules) = false := beq_eq_false_iff_ne.mpr (Nat.ne_of_gt I.big)
  exact ⟨.ref s.heap.objs.size, upd H s.heap.objs.size (.dK kvs), I.laid (t' := s.toks) (fun b u e => (hs.2 b (Nat.ne_of_lt (Heap.lt_size e))).trans (Heap.get?_push_of_some _ e)) (Nat.le_refl _)
    (show ObjOk X.prog X.w _ _ _ (.dK kvs) from ⟨k.len, hm, vs, rel, d'⟩), rfl, q _ (I.hok.fresh (Nat.le_refl _))⟩
end
/-! ### the Hook -/
abbrev AlB : Type := AlD × List (Option (List (Option (Key × Int)))) × Bool
def obsB (fa : List Fa) (fx : List Fx) (fn : List DefD) (ts : List Tb) (K : PySem.W.Frag) : AlB := (obsD fa fn K, ts.map fun t => tbRow K t.1, (fx.all fun f => f.ok K) && ts.all fun t => tbVals K t)
def valB (fn : List DefD) (ts : List Tb) (w : World) : AlB := (valD fn, ts.map fun t => tbWant w.params t.2, true)
def SaysB (fa : List Fa) (fx : List Fx) (fn : List DefD) (ts : List Tb) (w : World) (K : PySem.W.Frag) : Prop := obsB fa fx fn ts K = valB fn ts w
/-- and the objects that are defaults: one step further, for those alone -/
def extraB (g : Addr → Option Obj) (fx : List Fx) (as : List Addr) : List Addr := cStatics :: (as ++ fx.filterMap fun
  | .dtup p i => some (dflAt p i (frG g as))
  | .ktup x _ => some (ga (frG g as) x)
  | _ => none)
def obsBG (n : Nat) (fa : List Fa) (fx : List Fx) (fn : List DefD) (ts : List Tb) (g : Addr → Option Obj) : AlB := obsB fa fx fn ts (frG g (extraB g fx (asD g n)))
def hookB (n : Nat) (fa : List Fa) (fx : List Fx) (fn : List DefD) (ts : List Tb) : PySem.W.Hook where
  α := AlB
  obs := fun s => obsBG n fa fx fn ts s.heap.get?
  val := fun w => valB fn ts w
  says := fun w h => ∃ K : PySem.W.Frag, K.In h ∧ SaysB fa fx fn ts w K
  of := fun _ _ e => ⟨_, frG_in, e⟩
  keeps := fun _ _ _ ⟨K, hK, c⟩ k => ⟨K, PySem.W.Frag.In.keeps hK k, c⟩
theorem obsBG_eq {n : Nat} {fa : List Fa} {fx : List Fx} {fn : List DefD} {ts : List Tb} {g : Addr → Option Obj} {s : Shared} (h : ∀ a, g a = s.heap.get? a) : obsBG n fa fx fn ts g = (hookB n fa fx fn ts).obs s := by
  have e : g = s.heap.get? := funext h
  rw [e] <;> rfl
section
variable {fa : List Fa} {fx : List Fx} {fn : List DefD} {ts : List Tb} {w : World} {K : PySem.W.Frag}
theorem SaysB.d (c : SaysB fa fx fn ts w K) : SaysD fa fn K := congrArg (fun z : AlB => z.1) c
theorem SaysB.fact (c : SaysB fa fx fn ts w K) (i : Nat) {f : Fa} (h : fa[i]? = some f := by rfl) : f.ok K = true := c.d.fact i h
theorem SaysB.more (c : SaysB fa fx fn ts w K) (i : Nat) {f : Fx} (h : fx[i]? = some f := by rfl) : f.ok K = true := by
  have c1 := (ba (show ((fx.all fun f => f.ok K) && ts.all fun t => tbVals K t) = true from congrArg (fun z : AlB => z.2.2) c)).1
  exact List.all_eq_true.mp c1 f (List.mem_of_getElem? h)
theorem SaysB.tb (c : SaysB fa fx fn ts w K) (i : Nat) {t : Tb} (h : ts[i]? = some t := by rfl) (P : Program) : KD P w K (ga K t.1) (t.2.map fun q => (q.1, q.2.v K)) := by
  have c1 := (ba (show ((fx.all fun f => f.ok K) && ts.all fun t => tbVals K t) = true from congrArg (fun z : AlB => z.2.2) c)).2
  have e : ts.map (fun t => tbRow K t.1) = ts.map fun t => tbWant w.params t.2 := congrArg (fun z : AlB => z.2.1) c
  have e2 : (ts.map fun t => tbRow K t.1)[i]? = (ts.map fun t => tbWant w.params t.2)[i]? := by rw [e]
  rw [List.getElem?_map, List.getElem?_map, h] at e2
  exact kd_of (Option.some.inj e2) (List.all_eq_true.mp c1 t (List.mem_of_getElem? h))
end
end RB

set_option Elab.async false
set_option linter.all false
set_option maxRecDepth 100000
set_option maxHeartbeats 4000000
/-! What a caller needs of a def, in one word; the stream of draws. -/
namespace RC
open PySem PySem.Spec PyProof.Rows L2 He
/-- the def at f may be called with all parameters but the last ones, whose defaults are dvs -/
def Callable (P : Program) (w : World) (K : PySem.W.Frag) (mg : Str → Option Value) (base : Heap) (k : Nat) (f : Addr) (ps : List Str) (dvs : List V) (sp : Sp) : Prop :=
  ∃ fd ds, FnOk P w K mg base CX0 k f fd ps sp ∧ Vals dvs ds ∧ Binds K fd ps ds ∧ PySem.W.keepIn K (.ref f) = true
section
variable {X : Cx} {k : Nat} {f C : Addr} {ps : List Str} {sp : Sp} {dvs : List V} {x m : Str} {p pos apos : Pos} {e o : Expr} {es : List Expr} {ta : TE} {t : TA} {pl : Sem Bool}
theorem pe_fn (hm : X.mg x = some (.ref f)) (c : Callable X.prog X.w X.K X.mg X.base k f ps dvs sp) (hr : Room k X.A) (hg : Gl X x) (ha : PA X (e :: es) t) (hdb : (x == ("__debug__" : Str)) = false := by decide)
    (he : starEach (e :: es) X.env = (false, eval e X.env) :: starEach es X.env := by rfl) (hpl : (backTo pos (starEach es X.env)).any (·.1) = false := by rfl) : PE X (.Call (.Name x p) (e :: es) [] pos) (tCall sp dvs E0 t) := by
  obtain ⟨fd, ds, F, hd, hb, hk⟩ := c
  exact pe_call F hr hg hm hk hb hd pass0 ha hdb he hpl
theorem pe_fn0 (hm : X.mg x = some (.ref f)) (c : Callable X.prog X.w X.K X.mg X.base k f ps dvs sp) (hr : Room k X.A) (hg : Gl X x) (hdb : (x == ("__debug__" : Str)) = false := by decide) : PE X (.Call (.Name x p) [] [] pos) (tCall sp dvs E0 tNil) := by
  obtain ⟨fd, ds, F, hd, hb, hk⟩ := c
  exact pe_call0 F hr hg hm hk hb hd pass0 hdb
theorem pe_mt (cl : Cls X.K C) (hm : Meth X.K C m f) (c : Callable X.prog X.w X.K X.mg X.base k f ps dvs sp) (hr : Room k X.A) (he : PE X o ta) (ha : PA X (e :: es) t)
    (hst : starEach (e :: es) X.env = (false, eval e X.env) :: starEach es X.env := by rfl) (hpl : (backTo pos (starEach es X.env)).any (·.1) = false := by rfl)
    (ht : eval (.Call (.Attribute o m apos) (e :: es) [] pos) X.env = (do
      let ov ← eval o X.env
      standAt apos.atName
      let (f, first) ← holding [ov] (getMethod ov m pl)
      callWith pos f first (backTo pos (starEach (e :: es) X.env)) (backToKw pos (keywordEach [] X.env))) := by rfl) :
    PE X (.Call (.Attribute o m apos) (e :: es) [] pos) (tMeth C m sp dvs E0 ta t) := by
  obtain ⟨fd, ds, F, hd, hb, hk⟩ := c
  exact pe_meth he cl hm F hr hb hd pass0 ha hst hpl ht
theorem pe_mt0 (cl : Cls X.K C) (hm : Meth X.K C m f) (c : Callable X.prog X.w X.K X.mg X.base k f ps dvs sp) (hr : Room k X.A) (he : PE X o ta)
    (ht : eval (.Call (.Attribute o m apos) [] [] pos) X.env = (do
      let ov ← eval o X.env
      standAt apos.atName
      let (f, first) ← holding [ov] (getMethod ov m pl)
      callWith pos f first (backTo pos (starEach [] X.env)) (backToKw pos (keywordEach [] X.env))) := by rfl) :
    PE X (.Call (.Attribute o m apos) [] [] pos) (tMeth C m sp dvs E0 ta tNil) := by
  obtain ⟨fd, ds, F, hd, hb, hk⟩ := c
  exact pe_meth0 he cl hm F hr hb hd pass0 ht
theorem pe_mk (M : Mk X.K C f) (hm : X.mg x = some (.ref C)) (c : Callable X.prog X.w X.K X.mg X.base k f ps dvs sp) (hr : Room (k + 1) X.A) (hg : Gl X x) (ha : PA X (e :: es) t) (hdb : (x == ("__debug__" : Str)) = false := by decide)
    (he : starEach (e :: es) X.env = (false, eval e X.env) :: starEach es X.env := by rfl) (hpl : (backTo pos (starEach es X.env)).any (·.1) = false := by rfl) : PE X (.Call (.Name x p) (e :: es) [] pos) (tMake C sp dvs E0 t) := by
  obtain ⟨fd, ds, F, hd, hb, hk⟩ := c
  exact pe_make M F hr hg hm hb hd pass0 ha hdb he hpl
theorem pe_mk0 (M : Mk X.K C f) (hm : X.mg x = some (.ref C)) (c : Callable X.prog X.w X.K X.mg X.base k f ps dvs sp) (hr : Room (k + 1) X.A) (hg : Gl X x) (hdb : (x == ("__debug__" : Str)) = false := by decide) : PE X (.Call (.Name x p) [] [] pos) (tMake C sp dvs E0 tNil) := by
  obtain ⟨fd, ds, F, hd, hb, hk⟩ := c
  exact pe_make0 M F hr hg hm hb hd pass0 hdb
theorem pe_cf (cf : RA.CFun X.K C m f) (c : Callable X.prog X.w X.K X.mg X.base k f ps dvs sp) (hr : Room k X.A) (he : PE X o ta) (ha : PA X (e :: es) t)
    (hst : starEach (e :: es) X.env = (false, eval e X.env) :: starEach es X.env := by rfl) (hpl : (backTo pos (starEach es X.env)).any (·.1) = false := by rfl)
    (ht : eval (.Call (.Attribute o m apos) (e :: es) [] pos) X.env = (do
      let ov ← eval o X.env
      standAt apos.atName
      let (f, first) ← holding [ov] (getMethod ov m pl)
      callWith pos f first (backTo pos (starEach (e :: es) X.env)) (backToKw pos (keywordEach [] X.env))) := by rfl) :
    PE X (.Call (.Attribute o m apos) (e :: es) [] pos) (RA.tCFun C sp dvs E0 ta t) := by
  obtain ⟨fd, ds, F, hd, hb, hk⟩ := c
  exact RA.pe_cfun he cf F hr hb hd pass0 ha hst hpl ht
end
section
variable {P : Program} {w : World} {K : PySem.W.Frag} {mg : Str → Option Value} {base : Heap} {x qual : Str} {params : Arguments} {body : List Stmt} {scope : Scope} {dvs : List V} {f : Addr} {k : Nat} {N ps : List Str} {sp : Sp}
/-- a def that stands there -/
def Stands (K : PySem.W.Frag) (x qual : Str) (st : Stmt) (dvs : List V) (f : Addr) : Prop := ∃ fd, FunD K x qual (defArgs st) (defBody st) (defScope st) dvs [] f fd
/-- THE RULE for a def, whatever its defaults: what it promises of every call; bind: how its arguments bind with the first n parameters given -/
theorem Stands.call {st : Stmt} (F : Stands K x qual st dvs f) (S : FnScope N ps (defScope st)) (n j : Nat) (len : ∀ vs H Q E, sp vs H Q E → vs.length = ps.length)
    (hbody : ∀ (cdv : Value) (A : Around) (outer : List Env) (s : Shared) (H : Hp) (vs : List V) (Q : VK) (E : XK), Room k (A.deeper (envOfC qual (defScope st) s.heap.objs.size f cdv)) → sp vs H Q E →
      ∃ t, PSs (cxOf CX0 P w K mg base N qual (defScope st) f cdv A outer s H E).nox (defBody st) t ∧ t { nx := fun _ H' => Q .non H', rt := Q } (start N vs) H)
    (h0 : dvs = [] → n = ps.length ∧ ∀ (kV doc pm : Value) (an : Option Addr) (cdv ct : Value) (us : List Value), us.length = ps.length → bindArgs (PySem.W.fnOf x qual (defArgs st) (defBody st) (defScope st) .none kV doc pm an cdv ct) ⟨us, []⟩ = pure (ps.zip us))
    (h1 : dvs ≠ [] → n + (dvs.length - j) = ps.length ∧ ∀ (T : Addr) (kV doc pm : Value) (an : Option Addr) (cdv ct : Value) (us its : List Value), us.length = n → its.length = dvs.length →
      ∃ k, bindArgs (PySem.W.fnOf x qual (defArgs st) (defBody st) (defScope st) (.ref T) kV doc pm an cdv ct) ⟨us, []⟩ = seqItems? (.ref T) >>= k ∧ k (some its.toArray) = pure (ps.zip (us ++ its.drop j))) :
    Callable P w K mg base (k + 1) f ps (dvs.drop j) sp := by
  obtain ⟨fd, F⟩ := F
  have ok : FnOk P w K mg base CX0 (k + 1) f fd ps sp := F.ok S len fun cdv A outer s H vs Q E hr hsp => by
    obtain ⟨t, h, q⟩ := hbody cdv A outer s H vs Q E hr hsp
    exact ⟨t, h.nox, q⟩
  by_cases hd : dvs = []
  · subst hd
    exact ⟨fd, [], ok, by rw [List.drop_nil]; exact .nil, F.bindsN (h0 rfl).2, F.kp⟩
  · obtain ⟨ds, hv, hb⟩ := F.binds1 n j hd (h1 hd).1 (h1 hd).2
    exact ⟨fd, ds, ok, hv, hb, F.kp⟩
/-- no defaults -/
theorem Stands.call0 {st : Stmt} (F : Stands K x qual st [] f) (S : FnScope N ps (defScope st)) (len : ∀ vs H Q E, sp vs H Q E → vs.length = ps.length)
    (hbody : ∀ (cdv : Value) (A : Around) (outer : List Env) (s : Shared) (H : Hp) (vs : List V) (Q : VK) (E : XK), Room k (A.deeper (envOfC qual (defScope st) s.heap.objs.size f cdv)) → sp vs H Q E →
      ∃ t, PSs (cxOf CX0 P w K mg base N qual (defScope st) f cdv A outer s H E).nox (defBody st) t ∧ t { nx := fun _ H' => Q .non H', rt := Q } (start N vs) H)
    (h0 : ∀ (kV doc pm : Value) (an : Option Addr) (cdv ct : Value) (us : List Value), us.length = ps.length → bindArgs (PySem.W.fnOf x qual (defArgs st) (defBody st) (defScope st) .none kV doc pm an cdv ct) ⟨us, []⟩ = pure (ps.zip us)) :
    Callable P w K mg base (k + 1) f ps [] sp := by
  obtain ⟨fd, F⟩ := F
  have ok : FnOk P w K mg base CX0 (k + 1) f fd ps sp := F.ok S len fun cdv A outer s H vs Q E hr hsp => by
    obtain ⟨t, h, q⟩ := hbody cdv A outer s H vs Q E hr hsp
    exact ⟨t, h.nox, q⟩
  exact ⟨fd, [], ok, .nil, F.bindsN h0, F.kp⟩
theorem Callable.imp {sp' : Sp} {dv : List V} (c : Callable P w K mg base k f ps dv sp) (h : ∀ vs H Q E, sp' vs H Q E → sp vs H Q E) : Callable P w K mg base k f ps dv sp' :=
  let ⟨fd, ds, F, r⟩ := c
  ⟨fd, ds, F.imp h, r⟩
theorem Callable.up {j : Nat} {dv : List V} (c : Callable P w K mg base j f ps dv sp) (h : j ≤ k) : Callable P w K mg base k f ps dv sp :=
  let ⟨fd, ds, F, r⟩ := c
  ⟨fd, ds, F.mono h, r⟩
end
/-! ### heaps -/
theorem same_new {H : Hp} {p : Addr} (h : H p = none) (o : HO) : Same H (upd H p o) := fun b u q => by rw [upd_ne (ne_of_none q h)]; exact q
theorem _root_.L2.Same.seqT {K : PySem.W.Frag} {H H' : Hp} {a : Addr} {xs : List V} (e : Same H H') (h : SqT K H a xs) : SqT K H' a xs := by
  rcases h with (h | ⟨o, h⟩) | h
  · exact .inl (.inl (e _ _ h))
  · exact .inl (.inr ⟨o, e _ _ h⟩)
  · exact .inr h
theorem upd_none {H : Hp} {a p : Addr} {o : HO} (h : upd H a o p = none) : p ≠ a ∧ H p = none := by
  by_cases e : p = a
  · subst e; rw [upd_same] at h; cases h
  · rw [upd_ne e] at h; exact ⟨e, h⟩
/-! ### the stream of draws -/
/-- the law's stream at s: its list of ints at l, the number at hand, how many were made up, the seed; n: a bound of those made up -/
def Stm (H : Hp) (s l : Addr) (n : Nat) : Prop := s ≠ l ∧ ∃ (ns : List Int) (x c d : Int), H s = some (.lst [.ref l, .int x, .int c, .int d]) ∧ H l = some (.lst (ns.map V.int)) ∧ ns.length ≤ 63 ∧ 0 ≤ x ∧ 0 ≤ c ∧ c ≤ n ∧ 0 ≤ d ∧ d < 2147483647
theorem Stm.mono {H : Hp} {s l : Addr} {n m : Nat} (h : Stm H s l n) (k : n ≤ m) : Stm H s l m := by
  obtain ⟨ne, ns, x, c, d, h1, h2, h3, h4, h5, h6, h7, h8⟩ := h
  exact ⟨ne, ns, x, c, d, h1, h2, h3, h4, h5, by omega, h7, h8⟩
theorem Stm.same {H H' : Hp} {s l : Addr} {n : Nat} (h : Stm H s l n) (k : Same H H') : Stm H' s l n := by
  obtain ⟨ne, ns, x, c, d, h1, h2, h3⟩ := h
  exact ⟨ne, ns, x, c, d, k _ _ h1, k _ _ h2, h3⟩
/-- all but the stream is as it was -/
def But (s l : Addr) (H H' : Hp) : Prop := ∀ b, b ≠ s → b ≠ l → H' b = H b
/-- all that was there but the stream is as it was -/
def Old (s l : Addr) (H H' : Hp) : Prop := ∀ b o, b ≠ s → b ≠ l → H b = some o → H' b = some o
theorem But.old {s l : Addr} {H H' : Hp} (h : But s l H H') : Old s l H H' := fun b o h1 h2 e => by rw [h b h1 h2]; exact e
theorem Old.refl {s l : Addr} (H : Hp) : Old s l H H := fun _ _ _ _ e => e
theorem Old.trans {s l : Addr} {H H1 H2 : Hp} (a : Old s l H H1) (b : Old s l H1 H2) : Old s l H H2 := fun c o h1 h2 e => b c o h1 h2 (a c o h1 h2 e)
theorem Old.of_same {s l : Addr} {H H' : Hp} (h : Same H H') : Old s l H H' := fun b o _ _ e => h b o e
section
variable {X : Cx} {x : Str} {pos : Pos}
theorem pe_gi {i : Int} (hg : Gl X x) (hm : ∃ t, X.mg x = some (.int i t)) (hd : (x == ("__debug__" : Str)) = false := by decide) : PE X (.Name x pos) (tC (.int i)) := by
  obtain ⟨t, h⟩ := hm
  exact pe_glob hg h ⟨t, rfl⟩ (by first | assumption | exact hd)
theorem pe_gs {z : Str} (hg : Gl X x) (hm : ∃ t, X.mg x = some (.str z t)) (hd : (x == ("__debug__" : Str)) = false := by decide) : PE X (.Name x pos) (tC (.str z)) := by
  obtain ⟨t, h⟩ := hm
  exact pe_glob hg h ⟨t, rfl⟩ (by first | assumption | exact hd)
end
/-! ### in a comprehension's block the written part is the def's own: rules that name it -/
section
variable {X : Cx} {K : PySem.W.Frag}
theorem opK (r : PySem.W.Frag → R2) {f : Value → Value → Sem Value} (h : OpR X f (r X.K)) (e : X.K = K := by rfl) : OpR X f (r K) := e ▸ h
theorem callK (r : PySem.W.Frag → List V → Hp → VK → Prop) {f : Value} (h : CallR X f (r X.K)) (e : X.K = K := by rfl) : CallR X f (r K) := e ▸ h
theorem ixK (r : PySem.W.Frag → R2) (h : IxR X (r X.K)) (e : X.K = K := by rfl) : IxR X (r K) := e ▸ h
theorem pe_fldK {e : Expr} {f : Str} {pos : Pos} {ta : TE} (he : PE X e ta) (hb : attributeBase e f X.env (eval e X.env) = eval e X.env) (z : X.K = K := by rfl) : PE X (.Attribute e f pos) (tFld K ta f) := z ▸ pe_fld he hb
end
/-- an expression that is never reached -/
def tNo : TE := fun _ _ _ => False
theorem pe_never {X : Cx} {e : Expr} : PE X e tNo := ⟨fun _ _ _ _ _ _ h => h.elim⟩
def tNoT : TT := fun _ _ _ => False
theorem pt_never {X : Cx} {e : Expr} : PT X e tNoT := ⟨fun _ _ _ _ _ _ h => h.elim⟩
theorem tyx_tup {K : PySem.W.Frag} {H : Hp} {a : Addr} {xs : List V} (h : SqT K H a xs) : TyX K H (.ref a) (.type "tuple") := by
  rcases h with (h | ⟨o, h⟩) | ⟨o, its, n, h, c, _⟩
  · exact .base (.tup h)
  · exact .fTuple h
  · exact .kTuple h c
theorem tyx_lst {K : PySem.W.Frag} {H : Hp} {a : Addr} {xs : List V} (h : SqL K H a xs) : TyX K H (.ref a) (.type "list") := by
  rcases h with (h | ⟨o, h⟩) | ⟨o, its, n, h, c, _⟩
  · exact .base (.lst h)
  · exact .base (.frz h)
  · exact .kList h c
/-- behind a lock all is as it was but the new -/
theorem unlock {H : Hp} {d D : Addr} {f u o : HO} (hd : H d = some u) (hD : upd H d f D = none) : upd (upd (upd H d f) D o) d u = upd H D o := by
  have ne : D ≠ d := (upd_none hD).1
  funext b
  by_cases e : b = d
  · subst e; rw [upd_same, upd_ne (Ne.symm ne)]; exact hd.symm
  · rw [upd_ne e]
    by_cases z : b = D
    · subst z; rw [upd_same, upd_same]
    · rw [upd_ne z, upd_ne z, upd_ne e]
theorem iteT' {c : Bool} {A B : Prop} (hc : c = true) (h : A) : if c = true then A else B := by rw [if_pos hc]; exact h
theorem iteF' {c : Bool} {A B : Prop} (hc : c = false) (h : B) : if c = true then A else B := by rw [if_neg (by rw [hc]; exact Bool.false_ne_true)]; exact h
end RC

set_option Elab.async false
set_option linter.all false
set_option maxRecDepth 100000
set_option maxHeartbeats 4000000
/-! Further rules: two lists of the same objects are equal; a text times an int. -/
namespace RD
open PySem PySem.Spec PyProof.Rows PySem.SeqAt L2
def rNeRefs (K : PySem.W.Frag) : R2 := fun x y H Q => ∃ (a b : Addr) (as : List Addr), x = .ref a ∧ y = .ref b ∧ SqL K H a (as.map V.ref) ∧ SqL K H b (as.map V.ref) ∧ Q (.bl false) H
def rEqRefs (K : PySem.W.Frag) : R2 := fun x y H Q => ∃ (a b : Addr) (as : List Addr), x = .ref a ∧ y = .ref b ∧ SqL K H a (as.map V.ref) ∧ SqL K H b (as.map V.ref) ∧ Q (.bl true) H
def rMulS : R2 := fun x y H Q => ∃ (i : Str) (k : Int), x = .str i ∧ y = .int k ∧ PySem.MulOk i k ∧ Q (.str (Txt.mul i k)) H
section
variable {X : Cx}
theorem vals_refs : ∀ {as : List Addr} {us : List Value}, Vals (as.map V.ref) us → us = as.map Value.ref
  | [], _, .nil => rfl
  | a :: as, _, .cons r t => by
    cases r
    rw [vals_refs t]; rfl
theorem all_true (n : Nat) : (List.range n).all (fun _ => true) = true := by simp
theorem op_neRefs (hu : X.A.units < cLine) : OpR X (compareOp .NotEq) (rNeRefs X.K) := by
  intro pins s σ H x y v u Q I rx ry h
  obtain ⟨a, b, as, rfl, rfl, ha, hb, q⟩ := h
  cases rx
  cases ry
  obtain ⟨its, rv, hl, _⟩ := I.list ha
  obtain ⟨its2, rv2, hl2, _⟩ := I.list hb
  obtain rfl := vals_refs rv
  obtain rfl := vals_refs rv2
  refine RcNeAt.lists (e := fun _ => true) hl.isList hl2.isList rfl hu (fun j h1 h2 => EqAt.same _) X.prog X.w X.xe _ ?_
  rw [all_true]
  exact fin_bl I q rfl
theorem op_eqRefs (hu : X.A.units < cLine) : OpR X (compareOp .Eq) (rEqRefs X.K) := by
  intro pins s σ H x y v u Q I rx ry h
  obtain ⟨a, b, as, rfl, rfl, ha, hb, q⟩ := h
  cases rx
  cases ry
  obtain ⟨its, rv, hl, _⟩ := I.list ha
  obtain ⟨its2, rv2, hl2, _⟩ := I.list hb
  obtain rfl := vals_refs rv
  obtain rfl := vals_refs rv2
  refine eq_listAt (e := fun _ => true) hl.isList hl2.isList rfl hu (fun j h1 h2 => EqAt.same _) ?_
  rw [all_true]
  exact fin_bl I q rfl
theorem op_mulS : OpR X (binaryOp .Mult) rMulS := by
  intro pins s σ H x y v u Q I rx ry h
  obtain ⟨i, k, rfl, rfl, hk, q⟩ := h
  obtain ⟨t, rfl⟩ := rx
  obtain ⟨t', rfl⟩ := ry
  exact PySem.SB.mul hk fun t2 k2 => ⟨.str (Txt.mul i k), H, I.tok k2, ⟨_, rfl⟩, q⟩
end
end RD

set_option Elab.async false
set_option linter.all false
set_option maxRecDepth 100000
set_option maxHeartbeats 4000000
/-! Rows of texts in order: there is one alone. -/
namespace RE
open PySem PySem.Spec PyProof.Rows L2
def le (a b : List Nat) : Prop := ltCps b a = false
theorem lt_split : ∀ (a b c : List Nat), ltCps a c = true → ltCps a b = true ∨ ltCps b c = true
  | [], [], c, h => .inr h
  | [], _ :: _, _, _ => .inl rfl
  | _ :: _, _, [], h => nomatch h
  | x :: a, [], z :: c, h => .inr rfl
  | x :: a, y :: b, z :: c, h => by
    have h : (decide (x < z) || (x == z && ltCps a c)) = true := h
    show (decide (x < y) || (x == y && ltCps a b)) = true ∨ (decide (y < z) || (y == z && ltCps b c)) = true
    rcases Nat.lt_trichotomy x y with h1 | h1 | h1
    · exact .inl (by rw [decide_eq_true h1]; rfl)
    · subst h1
      rcases Bool.or_eq_true_iff.mp h with h2 | h2
      · exact .inr (by rw [h2]; rfl)
      · obtain ⟨h3, h4⟩ := Bool.and_eq_true_iff.mp h2
        rcases lt_split a b c h4 with h5 | h5
        · exact .inl (by rw [h5]; simp)
        · exact .inr (by rw [h3, h5]; simp)
    · have h6 : y < z := by
        rcases Bool.or_eq_true_iff.mp h with h2 | h2
        · exact Nat.lt_trans h1 (of_decide_eq_true h2)
        · obtain ⟨h3, _⟩ := Bool.and_eq_true_iff.mp h2
          rw [← eq_of_beq h3]; exact h1
      exact .inr (by rw [decide_eq_true h6]; rfl)
theorem le_trans {a b c : List Nat} (h1 : le a b) (h2 : le b c) : le a c := by
  unfold le at *
  cases e : ltCps c a with
  | false => rfl
  | true =>
    rcases lt_split c b a e with h | h
    · rw [h2] at h; cases h
    · rw [h1] at h; cases h
theorem le_anti : ∀ {a b : List Nat}, le a b → le b a → a = b
  | [], [], _, _ => rfl
  | [], _ :: _, _, h => nomatch h
  | _ :: _, [], h, _ => nomatch h
  | x :: a, y :: b, h1, h2 => by
    have h1 : (decide (y < x) || (y == x && ltCps b a)) = false := h1
    have h2 : (decide (x < y) || (x == y && ltCps a b)) = false := h2
    rw [Bool.or_eq_false_iff] at h1 h2
    have e : x = y := by
      have a1 := of_decide_eq_false h1.1
      have a2 := of_decide_eq_false h2.1
      omega
    subst e
    have h3 : ltCps b a = false := by have := h1.2; simpa using this
    have h4 : ltCps a b = false := by have := h2.2; simpa using this
    rw [le_anti (a := a) (b := b) h3 h4]
def leS (a b : Str) : Prop := le (TL.tl a) (TL.tl b)
theorem rising : ∀ (p : Str) (l : List Str), risingS p l = true → (p :: l).Pairwise leS
  | p, [], _ => List.pairwise_singleton _ _
  | p, x :: r, h => by
    have h : (!ltCps x.cps.toList p.cps.toList && risingS x r) = true := h
    obtain ⟨h1, h2⟩ := Bool.and_eq_true_iff.mp h
    have i := rising x r h2
    refine List.pairwise_cons.mpr ⟨fun z hz => ?_, i⟩
    have a : leS p x := by
      show ltCps (TL.tl x) (TL.tl p) = false
      have h1 : (!ltCps (TL.tl x) (TL.tl p)) = true := h1
      cases e : ltCps (TL.tl x) (TL.tl p) with
      | false => rfl
      | true => rw [e] at h1; cases h1
    rcases List.mem_cons.mp hz with rfl | hz
    · exact a
    · exact le_trans a ((List.pairwise_cons.mp i).1 z hz)
theorem sorted_pw : ∀ {l : List Str}, sortedS l = true → l.Pairwise leS
  | [], _ => List.Pairwise.nil
  | x :: r, h => rising x r h
theorem uniq : ∀ {l m : List Str}, l.Perm m → l.Pairwise leS → m.Pairwise leS → l = m
  | [], m, hp, _, _ => by rw [List.nil_perm.mp hp]
  | x :: r, m, hp, h1, h2 => by
    cases m with
    | nil => exact absurd hp.length_eq (by simp)
    | cons y t =>
      obtain ⟨a1, a2⟩ := List.pairwise_cons.mp h1
      obtain ⟨b1, b2⟩ := List.pairwise_cons.mp h2
      have e : x = y := by
        have hx : x ∈ y :: t := hp.mem_iff.mp List.mem_cons_self
        have hy : y ∈ x :: r := hp.mem_iff.mpr List.mem_cons_self
        rcases List.mem_cons.mp hx with rfl | hx
        · rfl
        rcases List.mem_cons.mp hy with rfl | hy
        · rfl
        exact TL.ext_tl (le_anti (a1 y hy) (b1 x hx))
      subst e
      rw [uniq ((List.perm_cons x).mp hp) a2 b2]
/-- a sorted row's part is that part, sorted -/
theorem sorted_filter {xs ys zs : List Str} {p : Str → Bool} (h1 : ys.Perm xs) (h2 : sortedS ys = true) (h3 : zs.Perm (xs.filter p)) (h4 : sortedS zs = true) : zs = ys.filter p :=
  uniq (h3.trans (h1.symm.filter p)) (sorted_pw h4) ((sorted_pw h2).filter p)
end RE

set_option Elab.async false
set_option linter.all false
set_option maxRecDepth 100000
set_option maxHeartbeats 4000000
/-! Further rules of dicts: d.update(d2). -/
namespace RF
open PySem PySem.Spec PyProof.Rows L2
def rUpdD : V → List V → Hp → VK → Prop := fun x xs H Q => ∃ (d o : Addr) (kvs more : List (Key × V)), x = .ref d ∧ xs = [.ref o] ∧ H d = some (.dK kvs) ∧ Rd H o (.dK more) ∧ d ≠ o ∧ kvs.length + more.length ≤ sizeLine ∧ (mergeK kvs more).length ≤ sizeLine ∧ Q .non (upd H d (.dK (mergeK kvs more)))
theorem mt_updD {X : Cx} : MtR X "dict.update" rUpdD := by
  intro pins s σ H x xs v us Q I rx rxs h
  obtain ⟨d, o, kvs, more, rfl, rfl, hd, ho, hne, hl, hl2, q⟩ := h
  cases rx
  obtain rfl := Vals.ref1 rxs
  obtain ⟨z, lo, vs, rel, dd⟩ := dk_of I.hok hd
  obtain ⟨z2, lo2, vs2, rel2, dd2⟩ := dk_rd I.hok ho
  refine call_meetsIn PySem.F.slot_dict_update dd.typeIs PySem.F.entry_dict_update (PySem.F.args_dict_update_2 _ _) (meets_dict_update (mixKind X.prog X.w) d o hne lo2)
    ⟨vs, vs2, dd, dd2, (by rw [← rel.length, ← rel2.length]; exact hl), fun h' hmm _ hs => ?_⟩
  have he : ∃ q, h'.get? d = some q := let ⟨q, _, _, hq, _⟩ := hmm; ⟨q, hq⟩
  refine d_write I (by rw [hd]; exact True.intro) hs he (dk_new hl2 lo (KV.merge rel2 rel) hmm) |> fun I' => ⟨.non, _, I', rfl, q⟩
/-- list(o.values()) -/
def tListVals (td : TE) : TE := fun σ H Q => td σ H fun x H1 => ∃ a kvs, x = V.ref a ∧ H1 a = some (.dK kvs) ∧ ∀ q, H1 q = none → Q (.ref q) (upd H1 q (.lst (kvs.map (·.2))))
section
variable {X : Cx} {o : Expr} {p pos apos mpos : Pos} {td : TE}
theorem pe_listVals (hc : X.calm = true) (hg : Gl X "list") (hm : X.mg "list" = none) (hd : PE X o td) (hbase : attributeBase o "values" X.env (eval o X.env) = eval o X.env := by rfl) (hline : (apos.endLine == mpos.line) = true := by rfl)
    (hse : starEach [Expr.Call (.Attribute o "values" apos) [] [] mpos] X.env = [(false, eval (Expr.Call (.Attribute o "values" apos) [] [] mpos) X.env)] := by rfl) :
    PE X (.Call (.Name "list" p) [.Call (.Attribute o "values" apos) [] [] mpos] [] pos) (tListVals td) := by
  refine ⟨fun pins s σ H Q I h => ?_⟩
  refine wpAny_Call_Name_kw (ld_blt I hg hm (u := .type "list") (by first | rfl | decide +kernel) ?_ (by first | decide +kernel | decide) (by first | decide +kernel | decide))
  rw [hse]
  refine PySem.callWith_type1 (wpAny_Call_method0_late hbase hline (thn (hd.run pins s σ H _ I h) fun v s1 ⟨x, H1, I1, r1, a, kvs, ex, ha, q⟩ => ?_))
  subst ex
  obtain rfl : v = Value.ref a := r1
  obtain ⟨z, hsys, vs, rel, dof⟩ := dk_of I1.hok ha
  obtain ⟨ep, dat⟩ := dof.dictAt
  have dat' := dat
  obtain ⟨ob, es, ho, ex, hdat, hko, hpr, hnd⟩ := dat'
  refine ⟨"dict", "dict.values", F.plainAttrs_dict, F.slot_dict_values, F.type_dict_values, ⟨ob, ho, ex.1⟩, fun b e => ?_, Calls.callWith_builtin rfl (PySem.evalArgs_none ?_)⟩
  · cases e
    exact ⟨ob, ho, ex.2.1⟩
  refine call_meetsIn F.slot_dict_values ⟨ob, ho, ex.1⟩ F.entry_dict_values (F.args_dict_values_1 _) (meets_dict_values (mixKind X.prog X.w) a hsys) ⟨⟨vs, dof⟩, ?_⟩
  have k1 : ∀ b u, s1.heap.get? b = some u → (s1.heap.push { cls := .type "dict_values", data := .fields #[.ref a] }).get? b = some u := fun b u e => Heap.get?_push_of_some _ e
  have dat1 : (s1.heap.push { cls := .type "dict_values", data := .fields #[.ref a] }).DictAt (mixKind X.prog X.w) a vs ep := dat.keep k1
  have I2 : Inv X pins σ H1 { s1 with heap := s1.heap.push { cls := .type "dict_values", data := .fields #[.ref a] } } := I1.kept (t' := s1.toks) k1
  have hl : kvs.length = vs.length := Paired.length rel
  refine PySem.W.kdl_call (PySem.W.kdl_values (knd := mixKind X.prog X.w) (r := s1.heap.objs.size) (d := a) (kvs := vs) (ep := ep)) (I1.ok.hd hc) ⟨⟨_, Heap.get?_push_size _ rfl, rfl, rfl⟩, dat1⟩ (by rw [← hl]; exact z) fun h' tk acc' c' hkeep hS hacc => ?_
  refine ⟨.ref _, upd H1 _ (.lst (kvs.map (·.2))), I2.laid hkeep (Nat.le_refl _) (show ObjOk X.prog X.w _ _ _ (.lst (kvs.map (·.2))) from ⟨?_, acc'.toList, c', ?_, ?_⟩), rfl, q _ (I2.hok.fresh (Nat.le_refl _))⟩
  · rw [List.length_map]; exact z
  · have el : acc'.toList.length = acc'.size := by simp
    refine vals_of_at (by rw [List.length_map, el, hacc.1, hl]) fun j x w h1 h2 => ?_
    obtain ⟨k, hk⟩ := hacc.2 j w (by rw [← Array.getElem?_toList]; exact h2)
    obtain ⟨x', h3, h4⟩ := KV.at' rel hk
    rw [List.getElem?_map, h3] at h1
    cases h1
    exact h4
  · rw [Array.toArray_toList]; exact hS
end
/-- d[i] = v as one of several targets -/
def rSetD : TSet := fun o i v H Q => ∃ (a : Addr) (H' : Hp), o = .ref a ∧ DPut H a i v H' ∧ Q H'
theorem set_dict {X : Cx} (hu : X.A.units + 1 < cLine) : PSet X rSetD := by
  intro pins s σ H o i v ov iv u Q I ro ri rv h
  obtain ⟨a, H', rfl, g, q⟩ := h
  cases ro
  exact d_setItem hu I g ri rv fun s' I' => ⟨H', I', q⟩
end RF

set_option Elab.async false
set_option linter.all false
set_option maxRecDepth 100000
set_option maxHeartbeats 4000000
/-! Rules that name the written part, for a comprehension's block. -/
namespace RG
open PySem PySem.Spec PyProof.Rows L2
theorem pg_tupK {X : Cx} {K : PySem.W.Frag} {es : List Expr} {k n : Nat} {pos : Pos} {t : TGs} (hc : X.calm = true) (h : PGs X es t) (hn : (assignEach es X.env).length = n := by rfl) (hst : (assignEach es X.env).findIdx? (·.1) = none := by rfl) (z : X.K = K := by rfl) :
    PG X (.Tuple es k pos) (gTup K n t) := z ▸ pg_tup hc h hn hst
end RG

set_option Elab.async false
set_option linter.all false
set_option maxRecDepth 100000
set_option maxHeartbeats 4000000
/-! What a walk by itself leans on: facts of the heap carried over changes. -/
namespace RW
open PySem PySem.Spec PyProof.Rows L2 RC
section
variable {H H1 H2 : Hp} {p q s l : Addr} {o o' u : HO}
theorem at_same (e : Same H H1) (h : H p = some o) : H1 p = some o := e _ _ h
theorem at_old (e : Old s l H H1) (h1 : p ≠ s) (h2 : p ≠ l) (h : H p = some o) : H1 p = some o := e _ _ h1 h2 h
theorem at_upd (n : q ≠ p) (h : H q = some u) : upd H p o q = some u := by rw [upd_ne n]; exact h
theorem no_upd (n : q ≠ p) (h : H q = none) : upd H p o q = none := by rw [upd_ne n]; exact h
theorem ne_new (h : H p = none) (h2 : H q = some u) : q ≠ p := ne_of_none h2 h
theorem ne_new' (h : H p = none) (h2 : H q = some u) : p ≠ q := Ne.symm (ne_of_none h2 h)
theorem ne_kind (h : H p = some o) (h' : H q = some u) (n : o ≠ u) : p ≠ q := fun z => n (by rw [z] at h; exact Option.some.inj (h.symm.trans h'))
theorem same_put_new (e : Same H H1) (h : H1 p = none) : Same H (upd H1 p o) := e.trans (same_new h o)
theorem same_put (e : Same H H1) (h : H p = none) : Same H (upd H1 p o) := fun b x hb => by rw [upd_ne (ne_of_none hb h)]; exact e _ _ hb
theorem same_then (h : Same H1 H2) (e : Same H H1) : Same H H2 := e.trans h
theorem free_same (e : Same H H1) (h : H1 p = none) : H p = none := e.free h
theorem free_upd (h : upd H p o q = none) : H q = none := (upd_none h).2
theorem ne_upd (h : upd H p o q = none) : q ≠ p := (upd_none h).1
theorem some_ref {xs : List V} {K : PySem.W.Frag} (h : H p = some (.lst xs)) : SqL K H p xs := SqL.of h
theorem rd_of (h : H p = some o) : Rd H p o := .inl h
theorem fr {R : Addr → Prop} (h : ∀ x, H x = none → x ≠ p → R x) : ∀ x, upd H p o x = none → R x := fun x hx => h x (upd_none hx).2 (upd_none hx).1
theorem fr_same {R : Addr → Prop} (e : Same H H1) (h : ∀ x, H x = none → H1 x = none → R x) : ∀ x, H1 x = none → R x := fun x hx => h x (e.free hx) hx
theorem gHp (h : H p = some o) : H p = some o := h
theorem gStm {n : Nat} (h : Stm H s l n) : Stm H s l n := h
theorem stm_upd {n : Nat} (h1 : p ≠ s) (h2 : p ≠ l) (h : Stm H s l n) : Stm (upd H p o) s l n := by
  obtain ⟨ne, ns, x, c, d, g1, g2, g3⟩ := h
  exact ⟨ne, ns, x, c, d, by rw [upd_ne (Ne.symm h1)]; exact g1, by rw [upd_ne (Ne.symm h2)]; exact g2, g3⟩
theorem stm_at {n : Nat} (h : Stm H s l n) : (∃ o, H s = some o) ∧ (∃ o, H l = some o) ∧ s ≠ l := by
  obtain ⟨ne, ns, x, c, d, g1, g2, g3⟩ := h
  exact ⟨⟨_, g1⟩, ⟨_, g2⟩, ne⟩
theorem stm_same {n : Nat} (h : Stm H s l n) (e : Same H H1) : Stm H1 s l n := h.same e
theorem old_upd (e : Old s l H H1) (h : H p = none) : Old s l H (upd H1 p o) := fun b x h1 h2 hb => by rw [upd_ne (ne_of_none hb h)]; exact e _ _ h1 h2 hb
theorem old_same (e : Old s l H H1) (h : Same H1 H2) : Old s l H H2 := fun b x h1 h2 hb => h _ _ (e _ _ h1 h2 hb)
theorem old_then (h : Old s l H1 H2) (e : Old s l H H1) : Old s l H H2 := e.trans h
theorem old_of (e : Same H H1) : Old s l H H1 := Old.of_same e
theorem gOld (h : Old s l H H1) : Old s l H H1 := h
theorem gCp {i j : Int} (h : 0 ≤ j ∧ j ≤ 1000000 ∧ i.natAbs < 2 ^ 64) : CPow i j := h
theorem gNe (h : p ≠ q) : p ≠ q := h
theorem isMut {d : Addr} {w : HO} {R : Prop} (h : H d = some w ∧ Mut (H d) ∧ R) : H d = some w ∧ Mut (H d) ∧ R := h
theorem isMut2 {d : Addr} {w : HO} {R : Prop} (h : H d = some w ∧ Mut (some w) ∧ R) : H d = some w ∧ Mut (some w) ∧ R := h
theorem gSm (h : Same H H1) : Same H H1 := h
theorem gCls {K : PySem.W.Frag} {C : Addr} (h : Cls K C) : Cls K C := h
theorem gNo {K : PySem.W.Frag} {C : Addr} {f : Str} (h : NoAttr K C f) : NoAttr K C f := h
theorem gCv {c : V} {u : Value} (h : ClsV c u) : ClsV c u := h
theorem gTy {K : PySem.W.Frag} {c : V} {u : Value} (h : TyX K H c u) : TyX K H c u := h
theorem gKit {K : PySem.W.Frag} {t c : Value} {b : Bool} (h : PySem.W.kitOne K t c = some b) : PySem.W.kitOne K t c = some b := h
theorem gKita {K : PySem.W.Frag} {t : Value} {c : List Value} {b : Bool} (h : PySem.W.kitAny K t c = some b) : PySem.W.kitAny K t c = some b := h
theorem gSl {K : PySem.W.Frag} {xs : List V} (h : SqL K H p xs) : SqL K H p xs := h
theorem gSt {K : PySem.W.Frag} {xs : List V} (h : SqT K H p xs) : SqT K H p xs := h
theorem gPr {cs : List V} {us : List Value} (h : Paired ClsV cs us) : Paired ClsV cs us := h
theorem gKi {K : PySem.W.Frag} {t : Value} {b : Bool} (h : PySem.W.kitOne K t (.type "int") = some b) : PySem.W.kitOne K t (.type "int") = some b := h
theorem gKb {K : PySem.W.Frag} {t : Value} {b : Bool} (h : PySem.W.kitOne K t (.type "bool") = some b) : PySem.W.kitOne K t (.type "bool") = some b := h
theorem gKs {K : PySem.W.Frag} {t : Value} {b : Bool} (h : PySem.W.kitOne K t (.type "str") = some b) : PySem.W.kitOne K t (.type "str") = some b := h
theorem gKl {K : PySem.W.Frag} {t : Value} {b : Bool} (h : PySem.W.kitOne K t (.type "list") = some b) : PySem.W.kitOne K t (.type "list") = some b := h
theorem gKt {K : PySem.W.Frag} {t : Value} {b : Bool} (h : PySem.W.kitOne K t (.type "tuple") = some b) : PySem.W.kitOne K t (.type "tuple") = some b := h
theorem gKd {K : PySem.W.Frag} {t : Value} {b : Bool} (h : PySem.W.kitOne K t (.type "dict") = some b) : PySem.W.kitOne K t (.type "dict") = some b := h
theorem cxK {P : Program} {w : World} {K : PySem.W.Frag} {mg : Str → Option Value} {base : Heap} {N : List Str} {qual : Str} {scope : Scope} {f : Addr} {cd : Value} {A : Around} {outer : List Env} {sh : Shared} {E : XK} :
    (cxOf CX0 P w K mg base N qual scope f cd A outer sh H E).nox.K = K := rfl
end
section
variable {H : Hp} {K : PySem.W.Frag} {a p : Addr} {kvs : List (Key × V)} {x y : Str} {i j : Int} {o : Option V} {od : Obj} {v : V} {xs : List V}
theorem dget_s (h : H a = some (.dK kvs)) (e : valV kvs (Sum.inr x) = o) : DGet H a (.str x) o := .inl ⟨kvs, Sum.inr x, .inl h, rfl, e.symm⟩
theorem dget_i (h : H a = some (.dK kvs)) (e : valV kvs (Sum.inl i) = o) : DGet H a (.int i) o := .inl ⟨kvs, Sum.inl i, .inl h, rfl, e.symm⟩
theorem dget_sF (h : H a = some (.frz od (.dK kvs))) (e : valV kvs (Sum.inr x) = o) : DGet H a (.str x) o := .inl ⟨kvs, Sum.inr x, .inr ⟨od, h⟩, rfl, e.symm⟩
theorem dget_sR (h : Rd H a (.dK kvs)) (e : valV kvs (Sum.inr x) = o) : DGet H a (.str x) o := .inl ⟨kvs, Sum.inr x, h, rfl, e.symm⟩
theorem dput_s (h : H a = some (.dK kvs)) (hl : kvs.length < sizeLine) : DPut H a (.str x) v (upd H a (.dK (putK kvs (Sum.inr x) v))) := DPut.k (k := Sum.inr x) h hl
theorem dput_i (h : H a = some (.dK kvs)) (hl : kvs.length < sizeLine) : DPut H a (.int i) v (upd H a (.dK (putK kvs (Sum.inl i) v))) := DPut.k (k := Sum.inl i) h hl
theorem sql_of (h : H p = some (.lst xs)) : ∃ ys, SqL K H p ys := ⟨xs, SqL.of h⟩
theorem sqt_of (h : H p = some (.tup xs)) : ∃ ys, SqT K H p ys := ⟨xs, SqT.of h⟩
theorem disp1 {a0 : Str} {v0 : V} {R : List (Key × V) → Prop} (h : R [((Sum.inr a0 : Key), v0)]) : ∃ kvs : List (Key × V), [(V.str a0, v0)] = kvs.map (fun kv => (kV kv.1, kv.2)) ∧ kvs.length ≤ 15 ∧ R kvs := ⟨[((Sum.inr a0 : Key), v0)], rfl, Nat.le_of_ble_eq_true rfl, h⟩
theorem disp2 {a0 a1 : Str} {v0 v1 : V} {R : List (Key × V) → Prop} (h : R [((Sum.inr a0 : Key), v0), ((Sum.inr a1 : Key), v1)]) : ∃ kvs : List (Key × V), [(V.str a0, v0), (V.str a1, v1)] = kvs.map (fun kv => (kV kv.1, kv.2)) ∧ kvs.length ≤ 15 ∧ R kvs := ⟨[((Sum.inr a0 : Key), v0), ((Sum.inr a1 : Key), v1)], rfl, Nat.le_of_ble_eq_true rfl, h⟩
theorem disp3 {a0 a1 a2 : Str} {v0 v1 v2 : V} {R : List (Key × V) → Prop} (h : R [((Sum.inr a0 : Key), v0), ((Sum.inr a1 : Key), v1), ((Sum.inr a2 : Key), v2)]) : ∃ kvs : List (Key × V), [(V.str a0, v0), (V.str a1, v1), (V.str a2, v2)] = kvs.map (fun kv => (kV kv.1, kv.2)) ∧ kvs.length ≤ 15 ∧ R kvs := ⟨[((Sum.inr a0 : Key), v0), ((Sum.inr a1 : Key), v1), ((Sum.inr a2 : Key), v2)], rfl, Nat.le_of_ble_eq_true rfl, h⟩
theorem disp4 {a0 a1 a2 a3 : Str} {v0 v1 v2 v3 : V} {R : List (Key × V) → Prop} (h : R [((Sum.inr a0 : Key), v0), ((Sum.inr a1 : Key), v1), ((Sum.inr a2 : Key), v2), ((Sum.inr a3 : Key), v3)]) : ∃ kvs : List (Key × V), [(V.str a0, v0), (V.str a1, v1), (V.str a2, v2), (V.str a3, v3)] = kvs.map (fun kv => (kV kv.1, kv.2)) ∧ kvs.length ≤ 15 ∧ R kvs := ⟨[((Sum.inr a0 : Key), v0), ((Sum.inr a1 : Key), v1), ((Sum.inr a2 : Key), v2), ((Sum.inr a3 : Key), v3)], rfl, Nat.le_of_ble_eq_true rfl, h⟩
theorem disp5 {a0 a1 a2 a3 a4 : Str} {v0 v1 v2 v3 v4 : V} {R : List (Key × V) → Prop} (h : R [((Sum.inr a0 : Key), v0), ((Sum.inr a1 : Key), v1), ((Sum.inr a2 : Key), v2), ((Sum.inr a3 : Key), v3), ((Sum.inr a4 : Key), v4)]) : ∃ kvs : List (Key × V), [(V.str a0, v0), (V.str a1, v1), (V.str a2, v2), (V.str a3, v3), (V.str a4, v4)] = kvs.map (fun kv => (kV kv.1, kv.2)) ∧ kvs.length ≤ 15 ∧ R kvs := ⟨[((Sum.inr a0 : Key), v0), ((Sum.inr a1 : Key), v1), ((Sum.inr a2 : Key), v2), ((Sum.inr a3 : Key), v3), ((Sum.inr a4 : Key), v4)], rfl, Nat.le_of_ble_eq_true rfl, h⟩
theorem disp6 {a0 a1 a2 a3 a4 a5 : Str} {v0 v1 v2 v3 v4 v5 : V} {R : List (Key × V) → Prop} (h : R [((Sum.inr a0 : Key), v0), ((Sum.inr a1 : Key), v1), ((Sum.inr a2 : Key), v2), ((Sum.inr a3 : Key), v3), ((Sum.inr a4 : Key), v4), ((Sum.inr a5 : Key), v5)]) : ∃ kvs : List (Key × V), [(V.str a0, v0), (V.str a1, v1), (V.str a2, v2), (V.str a3, v3), (V.str a4, v4), (V.str a5, v5)] = kvs.map (fun kv => (kV kv.1, kv.2)) ∧ kvs.length ≤ 15 ∧ R kvs := ⟨[((Sum.inr a0 : Key), v0), ((Sum.inr a1 : Key), v1), ((Sum.inr a2 : Key), v2), ((Sum.inr a3 : Key), v3), ((Sum.inr a4 : Key), v4), ((Sum.inr a5 : Key), v5)], rfl, Nat.le_of_ble_eq_true rfl, h⟩
theorem disp7 {a0 a1 a2 a3 a4 a5 a6 : Str} {v0 v1 v2 v3 v4 v5 v6 : V} {R : List (Key × V) → Prop} (h : R [((Sum.inr a0 : Key), v0), ((Sum.inr a1 : Key), v1), ((Sum.inr a2 : Key), v2), ((Sum.inr a3 : Key), v3), ((Sum.inr a4 : Key), v4), ((Sum.inr a5 : Key), v5), ((Sum.inr a6 : Key), v6)]) : ∃ kvs : List (Key × V), [(V.str a0, v0), (V.str a1, v1), (V.str a2, v2), (V.str a3, v3), (V.str a4, v4), (V.str a5, v5), (V.str a6, v6)] = kvs.map (fun kv => (kV kv.1, kv.2)) ∧ kvs.length ≤ 15 ∧ R kvs := ⟨[((Sum.inr a0 : Key), v0), ((Sum.inr a1 : Key), v1), ((Sum.inr a2 : Key), v2), ((Sum.inr a3 : Key), v3), ((Sum.inr a4 : Key), v4), ((Sum.inr a5 : Key), v5), ((Sum.inr a6 : Key), v6)], rfl, Nat.le_of_ble_eq_true rfl, h⟩
theorem disp8 {a0 a1 a2 a3 a4 a5 a6 a7 : Str} {v0 v1 v2 v3 v4 v5 v6 v7 : V} {R : List (Key × V) → Prop} (h : R [((Sum.inr a0 : Key), v0), ((Sum.inr a1 : Key), v1), ((Sum.inr a2 : Key), v2), ((Sum.inr a3 : Key), v3), ((Sum.inr a4 : Key), v4), ((Sum.inr a5 : Key), v5), ((Sum.inr a6 : Key), v6), ((Sum.inr a7 : Key), v7)]) : ∃ kvs : List (Key × V), [(V.str a0, v0), (V.str a1, v1), (V.str a2, v2), (V.str a3, v3), (V.str a4, v4), (V.str a5, v5), (V.str a6, v6), (V.str a7, v7)] = kvs.map (fun kv => (kV kv.1, kv.2)) ∧ kvs.length ≤ 15 ∧ R kvs := ⟨[((Sum.inr a0 : Key), v0), ((Sum.inr a1 : Key), v1), ((Sum.inr a2 : Key), v2), ((Sum.inr a3 : Key), v3), ((Sum.inr a4 : Key), v4), ((Sum.inr a5 : Key), v5), ((Sum.inr a6 : Key), v6), ((Sum.inr a7 : Key), v7)], rfl, Nat.le_of_ble_eq_true rfl, h⟩
theorem len_sl (h : SqL K H p xs) : LenV K (.ref p) H xs.length := .inl ⟨xs, h, rfl⟩
theorem len_st (h : SqT K H p xs) : LenV K (.ref p) H xs.length := .inr ⟨xs, h, rfl⟩
theorem sql_same {H' : Hp} (h : SqL K H p xs) (e : Same H H') : SqL K H' p xs := e.seq h
theorem sqt_same {H' : Hp} (h : SqT K H p xs) (e : Same H H') : SqT K H' p xs := e.seqT h
theorem ka1 {t c : Value} {b : Bool} (h : PySem.W.kitOne K t c = some b) : PySem.W.kitAny K t [c] = some (b || false) := kitAny_cons h (fun e => by rw [e]; rfl) (fun e => by rw [e]; rfl)
theorem kac {t c : Value} {cs : List Value} {b r : Bool} (h : PySem.W.kitOne K t c = some b) (h2 : PySem.W.kitAny K t cs = some r) : PySem.W.kitAny K t (c :: cs) = some (b || r) := kitAny_cons h (fun e => by rw [e]; exact h2) (fun e => by rw [e]; rfl)
theorem ka2 {t c1 c2 : Value} {b1 b2 : Bool} (h1 : PySem.W.kitOne K t c1 = some b1) (h2 : PySem.W.kitOne K t c2 = some b2) : PySem.W.kitAny K t [c1, c2] = some (b1 || (b2 || false)) := kac h1 (ka1 h2)
theorem ka3 {t c1 c2 c3 : Value} {b1 b2 b3 : Bool} (h1 : PySem.W.kitOne K t c1 = some b1) (h2 : PySem.W.kitOne K t c2 = some b2) (h3 : PySem.W.kitOne K t c3 = some b3) : PySem.W.kitAny K t [c1, c2, c3] = some (b1 || (b2 || (b3 || false))) := kac h1 (ka2 h2 h3)
theorem ka4 {t c1 c2 c3 c4 : Value} {b1 b2 b3 b4 : Bool} (h1 : PySem.W.kitOne K t c1 = some b1) (h2 : PySem.W.kitOne K t c2 = some b2) (h3 : PySem.W.kitOne K t c3 = some b3) (h4 : PySem.W.kitOne K t c4 = some b4) : PySem.W.kitAny K t [c1, c2, c3, c4] = some (b1 || (b2 || (b3 || (b4 || false)))) := kac h1 (ka3 h2 h3 h4)
theorem ka5 {t c1 c2 c3 c4 c5 : Value} {b1 b2 b3 b4 b5 : Bool} (h1 : PySem.W.kitOne K t c1 = some b1) (h2 : PySem.W.kitOne K t c2 = some b2) (h3 : PySem.W.kitOne K t c3 = some b3) (h4 : PySem.W.kitOne K t c4 = some b4) (h5 : PySem.W.kitOne K t c5 = some b5) : PySem.W.kitAny K t [c1, c2, c3, c4, c5] = some (b1 || (b2 || (b3 || (b4 || (b5 || false))))) := kac h1 (ka4 h2 h3 h4 h5)
theorem len_l (h : H p = some (.lst xs)) : LenV K (.ref p) H xs.length := .inl ⟨xs, SqL.of h, rfl⟩
theorem tyv_l (h : H p = some (.lst xs)) : tyV K "list" (.ref p) H := .inl ⟨rfl, _, SqL.of h⟩
theorem tyv_s (h : SqL K H p xs) : tyV K "list" (.ref p) H := .inl ⟨rfl, _, h⟩
theorem isd (h : H a = some (.dK kvs)) : IsD H a := .inl ⟨kvs, .inl h⟩
theorem cSsT (h : x = y) : decide (V.str x = V.str y) = true := decide_eq_true (congrArg V.str h)
theorem cSsF (h : x ≠ y) : decide (V.str x = V.str y) = false := decide_eq_false fun z => h (V.str.inj z)
theorem cNsT (h : x ≠ y) : (!decide (V.str x = V.str y)) = true := by rw [cSsF h]; rfl
theorem cNsF (h : x = y) : (!decide (V.str x = V.str y)) = false := by rw [cSsT h]; rfl
theorem cSiT (h : i = j) : decide (V.int i = V.int j) = true := decide_eq_true (congrArg V.int h)
theorem cSiF (h : i ≠ j) : decide (V.int i = V.int j) = false := decide_eq_false fun z => h (V.int.inj z)
theorem cNiT (h : i ≠ j) : (!decide (V.int i = V.int j)) = true := by rw [cSiF h]; rfl
theorem cNiF (h : i = j) : (!decide (V.int i = V.int j)) = false := by rw [cSiT h]; rfl
theorem someT (h : o = some v) : o.isSome = true := by rw [h]; rfl
theorem someF (h : o = none) : o.isSome = false := by rw [h]; rfl
theorem nsomeT (h : o = none) : (!o.isSome) = true := by rw [h]; rfl
theorem nsomeF (h : o = some v) : (!o.isSome) = false := by rw [h]; rfl
end
theorem k_int_int {K : PySem.W.Frag} : PySem.W.kitOne K (.type "int") (.type "int") = some true := kit_ty (by decide +kernel)
theorem k_int_bool {K : PySem.W.Frag} : PySem.W.kitOne K (.type "int") (.type "bool") = some false := kit_ty (by decide +kernel)
theorem k_int_str {K : PySem.W.Frag} : PySem.W.kitOne K (.type "int") (.type "str") = some false := kit_ty (by decide +kernel)
theorem k_int_list {K : PySem.W.Frag} : PySem.W.kitOne K (.type "int") (.type "list") = some false := kit_ty (by decide +kernel)
theorem k_int_tuple {K : PySem.W.Frag} : PySem.W.kitOne K (.type "int") (.type "tuple") = some false := kit_ty (by decide +kernel)
theorem k_int_dict {K : PySem.W.Frag} : PySem.W.kitOne K (.type "int") (.type "dict") = some false := kit_ty (by decide +kernel)
theorem k_bool_int {K : PySem.W.Frag} : PySem.W.kitOne K (.type "bool") (.type "int") = some true := kit_ty (by decide +kernel)
theorem k_bool_bool {K : PySem.W.Frag} : PySem.W.kitOne K (.type "bool") (.type "bool") = some true := kit_ty (by decide +kernel)
theorem k_bool_str {K : PySem.W.Frag} : PySem.W.kitOne K (.type "bool") (.type "str") = some false := kit_ty (by decide +kernel)
theorem k_bool_list {K : PySem.W.Frag} : PySem.W.kitOne K (.type "bool") (.type "list") = some false := kit_ty (by decide +kernel)
theorem k_bool_tuple {K : PySem.W.Frag} : PySem.W.kitOne K (.type "bool") (.type "tuple") = some false := kit_ty (by decide +kernel)
theorem k_bool_dict {K : PySem.W.Frag} : PySem.W.kitOne K (.type "bool") (.type "dict") = some false := kit_ty (by decide +kernel)
theorem k_str_int {K : PySem.W.Frag} : PySem.W.kitOne K (.type "str") (.type "int") = some false := kit_ty (by decide +kernel)
theorem k_str_bool {K : PySem.W.Frag} : PySem.W.kitOne K (.type "str") (.type "bool") = some false := kit_ty (by decide +kernel)
theorem k_str_str {K : PySem.W.Frag} : PySem.W.kitOne K (.type "str") (.type "str") = some true := kit_ty (by decide +kernel)
theorem k_str_list {K : PySem.W.Frag} : PySem.W.kitOne K (.type "str") (.type "list") = some false := kit_ty (by decide +kernel)
theorem k_str_tuple {K : PySem.W.Frag} : PySem.W.kitOne K (.type "str") (.type "tuple") = some false := kit_ty (by decide +kernel)
theorem k_str_dict {K : PySem.W.Frag} : PySem.W.kitOne K (.type "str") (.type "dict") = some false := kit_ty (by decide +kernel)
theorem k_NoneType_int {K : PySem.W.Frag} : PySem.W.kitOne K (.type "NoneType") (.type "int") = some false := kit_ty (by decide +kernel)
theorem k_NoneType_bool {K : PySem.W.Frag} : PySem.W.kitOne K (.type "NoneType") (.type "bool") = some false := kit_ty (by decide +kernel)
theorem k_NoneType_str {K : PySem.W.Frag} : PySem.W.kitOne K (.type "NoneType") (.type "str") = some false := kit_ty (by decide +kernel)
theorem k_NoneType_list {K : PySem.W.Frag} : PySem.W.kitOne K (.type "NoneType") (.type "list") = some false := kit_ty (by decide +kernel)
theorem k_NoneType_tuple {K : PySem.W.Frag} : PySem.W.kitOne K (.type "NoneType") (.type "tuple") = some false := kit_ty (by decide +kernel)
theorem k_NoneType_dict {K : PySem.W.Frag} : PySem.W.kitOne K (.type "NoneType") (.type "dict") = some false := kit_ty (by decide +kernel)
theorem k_list_int {K : PySem.W.Frag} : PySem.W.kitOne K (.type "list") (.type "int") = some false := kit_ty (by decide +kernel)
theorem k_list_bool {K : PySem.W.Frag} : PySem.W.kitOne K (.type "list") (.type "bool") = some false := kit_ty (by decide +kernel)
theorem k_list_str {K : PySem.W.Frag} : PySem.W.kitOne K (.type "list") (.type "str") = some false := kit_ty (by decide +kernel)
theorem k_list_list {K : PySem.W.Frag} : PySem.W.kitOne K (.type "list") (.type "list") = some true := kit_ty (by decide +kernel)
theorem k_list_tuple {K : PySem.W.Frag} : PySem.W.kitOne K (.type "list") (.type "tuple") = some false := kit_ty (by decide +kernel)
theorem k_list_dict {K : PySem.W.Frag} : PySem.W.kitOne K (.type "list") (.type "dict") = some false := kit_ty (by decide +kernel)
theorem k_tuple_int {K : PySem.W.Frag} : PySem.W.kitOne K (.type "tuple") (.type "int") = some false := kit_ty (by decide +kernel)
theorem k_tuple_bool {K : PySem.W.Frag} : PySem.W.kitOne K (.type "tuple") (.type "bool") = some false := kit_ty (by decide +kernel)
theorem k_tuple_str {K : PySem.W.Frag} : PySem.W.kitOne K (.type "tuple") (.type "str") = some false := kit_ty (by decide +kernel)
theorem k_tuple_list {K : PySem.W.Frag} : PySem.W.kitOne K (.type "tuple") (.type "list") = some false := kit_ty (by decide +kernel)
theorem k_tuple_tuple {K : PySem.W.Frag} : PySem.W.kitOne K (.type "tuple") (.type "tuple") = some true := kit_ty (by decide +kernel)
theorem k_tuple_dict {K : PySem.W.Frag} : PySem.W.kitOne K (.type "tuple") (.type "dict") = some false := kit_ty (by decide +kernel)
theorem k_dict_int {K : PySem.W.Frag} : PySem.W.kitOne K (.type "dict") (.type "int") = some false := kit_ty (by decide +kernel)
theorem k_dict_bool {K : PySem.W.Frag} : PySem.W.kitOne K (.type "dict") (.type "bool") = some false := kit_ty (by decide +kernel)
theorem k_dict_str {K : PySem.W.Frag} : PySem.W.kitOne K (.type "dict") (.type "str") = some false := kit_ty (by decide +kernel)
theorem k_dict_list {K : PySem.W.Frag} : PySem.W.kitOne K (.type "dict") (.type "list") = some false := kit_ty (by decide +kernel)
theorem k_dict_tuple {K : PySem.W.Frag} : PySem.W.kitOne K (.type "dict") (.type "tuple") = some false := kit_ty (by decide +kernel)
theorem k_dict_dict {K : PySem.W.Frag} : PySem.W.kitOne K (.type "dict") (.type "dict") = some true := kit_ty (by decide +kernel)
end RW

set_option Elab.async false
set_option linter.all false
set_option maxRecDepth 100000
set_option maxHeartbeats 0
namespace K17
open PySem PySem.Spec PyProof.Rows L2 RC
/-! ### the text -/
def top (i : Nat) : Stmt := PySem.Challenge.pw_recordyard_k43_whole_rows_of_rotating_fi.main.body.getD i (.Pass ⟨0, 0, 0, 0⟩)
abbrev s_Filterer_init : Stmt := inClass (top 19) 0
abbrev nm_Filterer_init : List Str := ["self"]
theorem sc_Filterer_init : FnScope nm_Filterer_init ["self"] (defScope s_Filterer_init) := ⟨rfl, rfl, rfl, by decide +kernel, rfl, by decide +kernel, by decide +kernel⟩
def dd_Filterer_init : He.DefD := ⟨("Filterer", some "__init__"), "__init__", "Filterer.__init__", defArgs s_Filterer_init, defBody s_Filterer_init, defScope s_Filterer_init, [], []⟩
abbrev s_copied_value : Stmt := top 12
abbrev nm_copied_value : List Str := ["thing", "part", "name"]
theorem sc_copied_value : FnScope nm_copied_value ["thing"] (defScope s_copied_value) := ⟨rfl, rfl, rfl, by decide +kernel, rfl, by decide +kernel, by decide +kernel⟩
def dd_copied_value : He.DefD := ⟨("copied_value", none), "copied_value", "copied_value", defArgs s_copied_value, defBody s_copied_value, defScope s_copied_value, [], []⟩
abbrev s_message_of : Stmt := top 13
abbrev nm_message_of : List Str := ["msg", "args", "found", "at", "used", "sign", "pair"]
theorem sc_message_of : FnScope nm_message_of ["msg", "args"] (defScope s_message_of) := ⟨rfl, rfl, rfl, by decide +kernel, rfl, by decide +kernel, by decide +kernel⟩
def dd_message_of : He.DefD := ⟨("message_of", none), "message_of", "message_of", defArgs s_message_of, defBody s_message_of, defScope s_message_of, [], []⟩
abbrev s_BadMessage_init : Stmt := inClass (top 5) 0
abbrev nm_BadMessage_init : List Str := ["self", "msg"]
theorem sc_BadMessage_init : FnScope nm_BadMessage_init ["self", "msg"] (defScope s_BadMessage_init) := ⟨rfl, rfl, rfl, by decide +kernel, rfl, by decide +kernel, by decide +kernel⟩
def dd_BadMessage_init : He.DefD := ⟨("BadMessage", some "__init__"), "__init__", "BadMessage.__init__", defArgs s_BadMessage_init, defBody s_BadMessage_init, defScope s_BadMessage_init, [], []⟩
abbrev s_BadField_init : Stmt := inClass (top 6) 0
abbrev nm_BadField_init : List Str := ["self", "name"]
theorem sc_BadField_init : FnScope nm_BadField_init ["self", "name"] (defScope s_BadField_init) := ⟨rfl, rfl, rfl, by decide +kernel, rfl, by decide +kernel, by decide +kernel⟩
def dd_BadField_init : He.DefD := ⟨("BadField", some "__init__"), "__init__", "BadField.__init__", defArgs s_BadField_init, defBody s_BadField_init, defScope s_BadField_init, [], []⟩
abbrev s_LogRecord_init : Stmt := inClass (top 14) 0
abbrev nm_LogRecord_init : List Str := ["self", "name", "levelno", "levelname", "msg", "args", "created", "extra"]
theorem sc_LogRecord_init : FnScope nm_LogRecord_init ["self", "name", "levelno", "levelname", "msg", "args", "created", "extra"] (defScope s_LogRecord_init) := ⟨rfl, rfl, rfl, by decide +kernel, rfl, by decide +kernel, by decide +kernel⟩
def dd_LogRecord_init : He.DefD := ⟨("LogRecord", some "__init__"), "__init__", "LogRecord.__init__", defArgs s_LogRecord_init, defBody s_LogRecord_init, defScope s_LogRecord_init, [], []⟩
abbrev s_LogRecord_message : Stmt := inClass (top 14) 1
abbrev nm_LogRecord_message : List Str := ["self"]
theorem sc_LogRecord_message : FnScope nm_LogRecord_message ["self"] (defScope s_LogRecord_message) := ⟨rfl, rfl, rfl, by decide +kernel, rfl, by decide +kernel, by decide +kernel⟩
def dd_LogRecord_message : He.DefD := ⟨("LogRecord", some "message"), "message", "LogRecord.message", defArgs s_LogRecord_message, defBody s_LogRecord_message, defScope s_LogRecord_message, [], []⟩
abbrev s_LogRecord_field : Stmt := inClass (top 14) 2
abbrev nm_LogRecord_field : List Str := ["self", "name", "own", "values"]
theorem sc_LogRecord_field : FnScope nm_LogRecord_field ["self", "name"] (defScope s_LogRecord_field) := ⟨rfl, rfl, rfl, by decide +kernel, rfl, by decide +kernel, by decide +kernel⟩
def dd_LogRecord_field : He.DefD := ⟨("LogRecord", some "field"), "field", "LogRecord.field", defArgs s_LogRecord_field, defBody s_LogRecord_field, defScope s_LogRecord_field, [], []⟩
abbrev s_Handler_init : Stmt := inClass (top 21) 0
abbrev nm_Handler_init : List Str := ["self", "yard"]
theorem sc_Handler_init : FnScope nm_Handler_init ["self", "yard"] (defScope s_Handler_init) := ⟨rfl, rfl, rfl, by decide +kernel, rfl, by decide +kernel, by decide +kernel⟩
def dd_Handler_init : He.DefD := ⟨("Handler", some "__init__"), "__init__", "Handler.__init__", defArgs s_Handler_init, defBody s_Handler_init, defScope s_Handler_init, [], []⟩
abbrev s_Handler_close : Stmt := inClass (top 21) 10
abbrev nm_Handler_close : List Str := ["self"]
theorem sc_Handler_close : FnScope nm_Handler_close ["self"] (defScope s_Handler_close) := ⟨rfl, rfl, rfl, by decide +kernel, rfl, by decide +kernel, by decide +kernel⟩
def dd_Handler_close : He.DefD := ⟨("Handler", some "close"), "close", "Handler.close", defArgs s_Handler_close, defBody s_Handler_close, defScope s_Handler_close, [], []⟩
abbrev s_StreamHandler_init : Stmt := inClass (top 22) 0
abbrev nm_StreamHandler_init : List Str := ["self", "yard", "stream"]
theorem sc_StreamHandler_init : FnScope nm_StreamHandler_init ["self", "yard", "stream"] (defScope s_StreamHandler_init) := ⟨rfl, rfl, rfl, by decide +kernel, rfl, by decide +kernel, by decide +kernel⟩
def dd_StreamHandler_init : He.DefD := ⟨("StreamHandler", some "__init__"), "__init__", "StreamHandler.__init__", defArgs s_StreamHandler_init, defBody s_StreamHandler_init, defScope s_StreamHandler_init, [.str "stderr"], []⟩
abbrev s_FileHandler_init : Stmt := inClass (top 24) 0
abbrev nm_FileHandler_init : List Str := ["self", "yard", "filename", "mode", "delay"]
theorem sc_FileHandler_init : FnScope nm_FileHandler_init ["self", "yard", "filename", "mode", "delay"] (defScope s_FileHandler_init) := ⟨rfl, rfl, rfl, by decide +kernel, rfl, by decide +kernel, by decide +kernel⟩
def dd_FileHandler_init : He.DefD := ⟨("FileHandler", some "__init__"), "__init__", "FileHandler.__init__", defArgs s_FileHandler_init, defBody s_FileHandler_init, defScope s_FileHandler_init, [.str "a", .bl false], []⟩
abbrev s_FileHandler_emit : Stmt := inClass (top 24) 2
abbrev nm_FileHandler_emit : List Str := ["self", "record", "text"]
theorem sc_FileHandler_emit : FnScope nm_FileHandler_emit ["self", "record"] (defScope s_FileHandler_emit) := ⟨rfl, rfl, rfl, by decide +kernel, rfl, by decide +kernel, by decide +kernel⟩
def dd_FileHandler_emit : He.DefD := ⟨("FileHandler", some "emit"), "emit", "FileHandler.emit", defArgs s_FileHandler_emit, defBody s_FileHandler_emit, defScope s_FileHandler_emit, [], []⟩
abbrev s_RotatingFileHandler_init : Stmt := inClass (top 26) 0
abbrev nm_RotatingFileHandler_init : List Str := ["self", "yard", "filename", "mode", "maxBytes", "backupCount", "delay"]
theorem sc_RotatingFileHandler_init : FnScope nm_RotatingFileHandler_init ["self", "yard", "filename", "mode", "maxBytes", "backupCount", "delay"] (defScope s_RotatingFileHandler_init) := ⟨rfl, rfl, rfl, by decide +kernel, rfl, by decide +kernel, by decide +kernel⟩
def dd_RotatingFileHandler_init : He.DefD := ⟨("RotatingFileHandler", some "__init__"), "__init__", "RotatingFileHandler.__init__", defArgs s_RotatingFileHandler_init, defBody s_RotatingFileHandler_init, defScope s_RotatingFileHandler_init, [.str "a", .int 0, .int 0, .bl false], []⟩
abbrev s_Filterer_filtered : Stmt := inClass (top 19) 3
abbrev nm_Filterer_filtered : List Str := ["self", "record", "found", "one"]
theorem sc_Filterer_filtered : FnScope nm_Filterer_filtered ["self", "record"] (defScope s_Filterer_filtered) := ⟨rfl, rfl, rfl, by decide +kernel, rfl, by decide +kernel, by decide +kernel⟩
def dd_RotatingFileHandler_filtered : He.DefD := ⟨("RotatingFileHandler", some "filtered"), "filtered", "Filterer.filtered", defArgs s_Filterer_filtered, defBody s_Filterer_filtered, defScope s_Filterer_filtered, [], []⟩
abbrev s_Handler_setFormatter : Stmt := inClass (top 21) 2
abbrev nm_Handler_setFormatter : List Str := ["self", "formatter"]
theorem sc_Handler_setFormatter : FnScope nm_Handler_setFormatter ["self", "formatter"] (defScope s_Handler_setFormatter) := ⟨rfl, rfl, rfl, by decide +kernel, rfl, by decide +kernel, by decide +kernel⟩
def dd_RotatingFileHandler_setFormatter : He.DefD := ⟨("RotatingFileHandler", some "setFormatter"), "setFormatter", "Handler.setFormatter", defArgs s_Handler_setFormatter, defBody s_Handler_setFormatter, defScope s_Handler_setFormatter, [], []⟩
abbrev s_Handler_handle : Stmt := inClass (top 21) 5
abbrev nm_Handler_handle : List Str := ["self", "record", "found"]
theorem sc_Handler_handle : FnScope nm_Handler_handle ["self", "record"] (defScope s_Handler_handle) := ⟨rfl, rfl, rfl, by decide +kernel, rfl, by decide +kernel, by decide +kernel⟩
def dd_RotatingFileHandler_handle : He.DefD := ⟨("RotatingFileHandler", some "handle"), "handle", "Handler.handle", defArgs s_Handler_handle, defBody s_Handler_handle, defScope s_Handler_handle, [], []⟩
abbrev s_RotatingFileHandler_emit : Stmt := inClass (top 26) 7
abbrev nm_RotatingFileHandler_emit : List Str := ["self", "record", "rolls"]
theorem sc_RotatingFileHandler_emit : FnScope nm_RotatingFileHandler_emit ["self", "record"] (defScope s_RotatingFileHandler_emit) := ⟨rfl, rfl, rfl, by decide +kernel, rfl, by decide +kernel, by decide +kernel⟩
def dd_RotatingFileHandler_emit : He.DefD := ⟨("RotatingFileHandler", some "emit"), "emit", "RotatingFileHandler.emit", defArgs s_RotatingFileHandler_emit, defBody s_RotatingFileHandler_emit, defScope s_RotatingFileHandler_emit, [], []⟩
abbrev s_Handler_formatted : Stmt := inClass (top 21) 7
abbrev nm_Handler_formatted : List Str := ["self", "record"]
theorem sc_Handler_formatted : FnScope nm_Handler_formatted ["self", "record"] (defScope s_Handler_formatted) := ⟨rfl, rfl, rfl, by decide +kernel, rfl, by decide +kernel, by decide +kernel⟩
def dd_RotatingFileHandler_formatted : He.DefD := ⟨("RotatingFileHandler", some "formatted"), "formatted", "Handler.formatted", defArgs s_Handler_formatted, defBody s_Handler_formatted, defScope s_Handler_formatted, [], []⟩
abbrev s_Handler_text_of : Stmt := inClass (top 21) 8
abbrev nm_Handler_text_of : List Str := ["self", "record", "found"]
theorem sc_Handler_text_of : FnScope nm_Handler_text_of ["self", "record"] (defScope s_Handler_text_of) := ⟨rfl, rfl, rfl, by decide +kernel, rfl, by decide +kernel, by decide +kernel⟩
def dd_RotatingFileHandler_text_of : He.DefD := ⟨("RotatingFileHandler", some "text_of"), "text_of", "Handler.text_of", defArgs s_Handler_text_of, defBody s_Handler_text_of, defScope s_Handler_text_of, [], []⟩
abbrev s_FileHandler_close : Stmt := inClass (top 24) 3
abbrev nm_FileHandler_close : List Str := ["self"]
theorem sc_FileHandler_close : FnScope nm_FileHandler_close ["self"] (defScope s_FileHandler_close) := ⟨rfl, rfl, rfl, by decide +kernel, rfl, by decide +kernel, by decide +kernel⟩
def dd_RotatingFileHandler_close : He.DefD := ⟨("RotatingFileHandler", some "close"), "close", "FileHandler.close", defArgs s_FileHandler_close, defBody s_FileHandler_close, defScope s_FileHandler_close, [], []⟩
abbrev s_FileHandler_open_file : Stmt := inClass (top 24) 1
abbrev nm_FileHandler_open_file : List Str := ["self"]
theorem sc_FileHandler_open_file : FnScope nm_FileHandler_open_file ["self"] (defScope s_FileHandler_open_file) := ⟨rfl, rfl, rfl, by decide +kernel, rfl, by decide +kernel, by decide +kernel⟩
def dd_RotatingFileHandler_open_file : He.DefD := ⟨("RotatingFileHandler", some "open_file"), "open_file", "FileHandler.open_file", defArgs s_FileHandler_open_file, defBody s_FileHandler_open_file, defScope s_FileHandler_open_file, [], []⟩
abbrev s_RotatingFileHandler_backup_name : Stmt := inClass (top 26) 2
abbrev nm_RotatingFileHandler_backup_name : List Str := ["self", "number", "name"]
theorem sc_RotatingFileHandler_backup_name : FnScope nm_RotatingFileHandler_backup_name ["self", "number"] (defScope s_RotatingFileHandler_backup_name) := ⟨rfl, rfl, rfl, by decide +kernel, rfl, by decide +kernel, by decide +kernel⟩
def dd_RotatingFileHandler_backup_name : He.DefD := ⟨("RotatingFileHandler", some "backup_name"), "backup_name", "RotatingFileHandler.backup_name", defArgs s_RotatingFileHandler_backup_name, defBody s_RotatingFileHandler_backup_name, defScope s_RotatingFileHandler_backup_name, [], []⟩
abbrev s_RotatingFileHandler_shouldRollover : Stmt := inClass (top 26) 3
abbrev nm_RotatingFileHandler_shouldRollover : List Str := ["self", "record", "size"]
theorem sc_RotatingFileHandler_shouldRollover : FnScope nm_RotatingFileHandler_shouldRollover ["self", "record"] (defScope s_RotatingFileHandler_shouldRollover) := ⟨rfl, rfl, rfl, by decide +kernel, rfl, by decide +kernel, by decide +kernel⟩
def dd_RotatingFileHandler_shouldRollover : He.DefD := ⟨("RotatingFileHandler", some "shouldRollover"), "shouldRollover", "RotatingFileHandler.shouldRollover", defArgs s_RotatingFileHandler_shouldRollover, defBody s_RotatingFileHandler_shouldRollover, defScope s_RotatingFileHandler_shouldRollover, [], []⟩
abbrev s_RotatingFileHandler_move : Stmt := inClass (top 26) 4
abbrev nm_RotatingFileHandler_move : List Str := ["self", "name", "other"]
theorem sc_RotatingFileHandler_move : FnScope nm_RotatingFileHandler_move ["self", "name", "other"] (defScope s_RotatingFileHandler_move) := ⟨rfl, rfl, rfl, by decide +kernel, rfl, by decide +kernel, by decide +kernel⟩
def dd_RotatingFileHandler_move : He.DefD := ⟨("RotatingFileHandler", some "move"), "move", "RotatingFileHandler.move", defArgs s_RotatingFileHandler_move, defBody s_RotatingFileHandler_move, defScope s_RotatingFileHandler_move, [], []⟩
abbrev s_RotatingFileHandler_doRollover : Stmt := inClass (top 26) 5
abbrev nm_RotatingFileHandler_doRollover : List Str := ["self", "number"]
theorem sc_RotatingFileHandler_doRollover : FnScope nm_RotatingFileHandler_doRollover ["self"] (defScope s_RotatingFileHandler_doRollover) := ⟨rfl, rfl, rfl, by decide +kernel, rfl, by decide +kernel, by decide +kernel⟩
def dd_RotatingFileHandler_doRollover : He.DefD := ⟨("RotatingFileHandler", some "doRollover"), "doRollover", "RotatingFileHandler.doRollover", defArgs s_RotatingFileHandler_doRollover, defBody s_RotatingFileHandler_doRollover, defScope s_RotatingFileHandler_doRollover, [], []⟩
abbrev s_RotatingFileHandler_rolls_for : Stmt := inClass (top 26) 6
abbrev nm_RotatingFileHandler_rolls_for : List Str := ["self", "record", "found"]
theorem sc_RotatingFileHandler_rolls_for : FnScope nm_RotatingFileHandler_rolls_for ["self", "record"] (defScope s_RotatingFileHandler_rolls_for) := ⟨rfl, rfl, rfl, by decide +kernel, rfl, by decide +kernel, by decide +kernel⟩
def dd_RotatingFileHandler_rolls_for : He.DefD := ⟨("RotatingFileHandler", some "rolls_for"), "rolls_for", "RotatingFileHandler.rolls_for", defArgs s_RotatingFileHandler_rolls_for, defBody s_RotatingFileHandler_rolls_for, defScope s_RotatingFileHandler_rolls_for, [], []⟩
abbrev s_is_integer : Stmt := top 36
abbrev nm_is_integer : List Str := ["thing"]
theorem sc_is_integer : FnScope nm_is_integer ["thing"] (defScope s_is_integer) := ⟨rfl, rfl, rfl, by decide +kernel, rfl, by decide +kernel, by decide +kernel⟩
def dd_is_integer : He.DefD := ⟨("is_integer", none), "is_integer", "is_integer", defArgs s_is_integer, defBody s_is_integer, defScope s_is_integer, [], []⟩
abbrev s_Field_init : Stmt := inClass (top 40) 0
abbrev nm_Field_init : List Str := ["self", "name", "conversion", "fill", "align", "width"]
theorem sc_Field_init : FnScope nm_Field_init ["self", "name", "conversion", "fill", "align", "width"] (defScope s_Field_init) := ⟨rfl, rfl, rfl, by decide +kernel, rfl, by decide +kernel, by decide +kernel⟩
def dd_Field_init : He.DefD := ⟨("Field", some "__init__"), "__init__", "Field.__init__", defArgs s_Field_init, defBody s_Field_init, defScope s_Field_init, [.str "", .str " ", .str "", .int 0], []⟩
abbrev s_Field_side_of : Stmt := inClass (top 40) 1
abbrev nm_Field_side_of : List Str := ["self", "value"]
theorem sc_Field_side_of : FnScope nm_Field_side_of ["self", "value"] (defScope s_Field_side_of) := ⟨rfl, rfl, rfl, by decide +kernel, rfl, by decide +kernel, by decide +kernel⟩
def dd_Field_side_of : He.DefD := ⟨("Field", some "side_of"), "side_of", "Field.side_of", defArgs s_Field_side_of, defBody s_Field_side_of, defScope s_Field_side_of, [], []⟩
abbrev s_Field_written : Stmt := inClass (top 40) 2
abbrev nm_Field_written : List Str := ["self", "value", "text", "more", "ahead"]
theorem sc_Field_written : FnScope nm_Field_written ["self", "value"] (defScope s_Field_written) := ⟨rfl, rfl, rfl, by decide +kernel, rfl, by decide +kernel, by decide +kernel⟩
def dd_Field_written : He.DefD := ⟨("Field", some "written"), "written", "Field.written", defArgs s_Field_written, defBody s_Field_written, defScope s_Field_written, [], []⟩
abbrev s_name_end : Stmt := top 41
abbrev nm_name_end : List Str := ["text", "start", "end"]
theorem sc_name_end : FnScope nm_name_end ["text", "start"] (defScope s_name_end) := ⟨rfl, rfl, rfl, by decide +kernel, rfl, by decide +kernel, by decide +kernel⟩
def dd_name_end : He.DefD := ⟨("name_end", none), "name_end", "name_end", defArgs s_name_end, defBody s_name_end, defScope s_name_end, [], []⟩
abbrev s_field_of : Stmt := top 46
abbrev nm_field_of : List Str := ["body", "end", "name", "rest", "conversion", "spec"]
theorem sc_field_of : FnScope nm_field_of ["body"] (defScope s_field_of) := ⟨rfl, rfl, rfl, by decide +kernel, rfl, by decide +kernel, by decide +kernel⟩
def dd_field_of : He.DefD := ⟨("field_of", none), "field_of", "field_of", defArgs s_field_of, defBody s_field_of, defScope s_field_of, [], []⟩
abbrev s_parts_of_braces : Stmt := top 47
abbrev nm_parts_of_braces : List Str := ["fmt", "found", "at", "end", "part"]
theorem sc_parts_of_braces : FnScope nm_parts_of_braces ["fmt"] (defScope s_parts_of_braces) := ⟨rfl, rfl, rfl, by decide +kernel, rfl, by decide +kernel, by decide +kernel⟩
def dd_parts_of_braces : He.DefD := ⟨("parts_of_braces", none), "parts_of_braces", "parts_of_braces", defArgs s_parts_of_braces, defBody s_parts_of_braces, defScope s_parts_of_braces, [], []⟩
abbrev s_joined_texts : Stmt := top 63
abbrev nm_joined_texts : List Str := ["parts", "found", "part"]
theorem sc_joined_texts : FnScope nm_joined_texts ["parts"] (defScope s_joined_texts) := ⟨rfl, rfl, rfl, by decide +kernel, rfl, by decide +kernel, by decide +kernel⟩
def dd_joined_texts : He.DefD := ⟨("joined_texts", none), "joined_texts", "joined_texts", defArgs s_joined_texts, defBody s_joined_texts, defScope s_joined_texts, [], []⟩
abbrev s_Formatter_init : Stmt := inClass (top 64) 0
abbrev nm_Formatter_init : List Str := ["self", "fmt", "style", "validate", "defaults", "text", "parts", "part"]
theorem sc_Formatter_init : FnScope nm_Formatter_init ["self", "fmt", "style", "validate", "defaults"] (defScope s_Formatter_init) := ⟨rfl, rfl, rfl, by decide +kernel, rfl, by decide +kernel, by decide +kernel⟩
def dd_Formatter_init : He.DefD := ⟨("Formatter", some "__init__"), "__init__", "Formatter.__init__", defArgs s_Formatter_init, defBody s_Formatter_init, defScope s_Formatter_init, [.non, .str "{", .bl true, .non], []⟩
abbrev s_Formatter_value_of : Stmt := inClass (top 64) 1
abbrev nm_Formatter_value_of : List Str := ["self", "name", "record", "found"]
theorem sc_Formatter_value_of : FnScope nm_Formatter_value_of ["self", "name", "record"] (defScope s_Formatter_value_of) := ⟨rfl, rfl, rfl, by decide +kernel, rfl, by decide +kernel, by decide +kernel⟩
def dd_Formatter_value_of : He.DefD := ⟨("Formatter", some "value_of"), "value_of", "Formatter.value_of", defArgs s_Formatter_value_of, defBody s_Formatter_value_of, defScope s_Formatter_value_of, [], []⟩
abbrev s_Formatter_formatted : Stmt := inClass (top 64) 2
abbrev nm_Formatter_formatted : List Str := ["self", "record", "found", "part"]
theorem sc_Formatter_formatted : FnScope nm_Formatter_formatted ["self", "record"] (defScope s_Formatter_formatted) := ⟨rfl, rfl, rfl, by decide +kernel, rfl, by decide +kernel, by decide +kernel⟩
def dd_Formatter_formatted : He.DefD := ⟨("Formatter", some "formatted"), "formatted", "Formatter.formatted", defArgs s_Formatter_formatted, defBody s_Formatter_formatted, defScope s_Formatter_formatted, [], []⟩
abbrev s_Logger_init : Stmt := inClass (top 66) 0
abbrev nm_Logger_init : List Str := ["self", "yard", "name", "level"]
theorem sc_Logger_init : FnScope nm_Logger_init ["self", "yard", "name", "level"] (defScope s_Logger_init) := ⟨rfl, rfl, rfl, by decide +kernel, rfl, by decide +kernel, by decide +kernel⟩
def dd_Logger_init : He.DefD := ⟨("Logger", some "__init__"), "__init__", "Logger.__init__", defArgs s_Logger_init, defBody s_Logger_init, defScope s_Logger_init, [], []⟩
abbrev s_Yard_init : Stmt := inClass (top 68) 0
abbrev nm_Yard_init : List Str := ["self", "now"]
theorem sc_Yard_init : FnScope nm_Yard_init ["self", "now"] (defScope s_Yard_init) := ⟨rfl, rfl, rfl, by decide +kernel, rfl, by decide +kernel, by decide +kernel⟩
def dd_Yard_init : He.DefD := ⟨("Yard", some "__init__"), "__init__", "Yard.__init__", defArgs s_Yard_init, defBody s_Yard_init, defScope s_Yard_init, [.int 0], []⟩
abbrev s_Yard_files : Stmt := inClass (top 68) 6
abbrev nm_Yard_files : List Str := ["self", "name"]
theorem sc_Yard_files : FnScope nm_Yard_files ["self"] (defScope s_Yard_files) := ⟨rfl, rfl, rfl, by decide +kernel, rfl, by decide +kernel, by decide +kernel⟩
def dd_Yard_files : He.DefD := ⟨("Yard", some "files"), "files", "Yard.files", defArgs s_Yard_files, defBody s_Yard_files, defScope s_Yard_files, [], []⟩
abbrev s_Yard_put_file : Stmt := inClass (top 68) 7
abbrev nm_Yard_put_file : List Str := ["self", "name", "text"]
theorem sc_Yard_put_file : FnScope nm_Yard_put_file ["self", "name", "text"] (defScope s_Yard_put_file) := ⟨rfl, rfl, rfl, by decide +kernel, rfl, by decide +kernel, by decide +kernel⟩
def dd_Yard_put_file : He.DefD := ⟨("Yard", some "put_file"), "put_file", "Yard.put_file", defArgs s_Yard_put_file, defBody s_Yard_put_file, defScope s_Yard_put_file, [], []⟩
abbrev s_Yard_has_file : Stmt := inClass (top 68) 9
abbrev nm_Yard_has_file : List Str := ["self", "name"]
theorem sc_Yard_has_file : FnScope nm_Yard_has_file ["self", "name"] (defScope s_Yard_has_file) := ⟨rfl, rfl, rfl, by decide +kernel, rfl, by decide +kernel, by decide +kernel⟩
def dd_Yard_has_file : He.DefD := ⟨("Yard", some "has_file"), "has_file", "Yard.has_file", defArgs s_Yard_has_file, defBody s_Yard_has_file, defScope s_Yard_has_file, [], []⟩
abbrev s_Yard_file_text : Stmt := inClass (top 68) 10
abbrev nm_Yard_file_text : List Str := ["self", "name"]
theorem sc_Yard_file_text : FnScope nm_Yard_file_text ["self", "name"] (defScope s_Yard_file_text) := ⟨rfl, rfl, rfl, by decide +kernel, rfl, by decide +kernel, by decide +kernel⟩
def dd_Yard_file_text : He.DefD := ⟨("Yard", some "file_text"), "file_text", "Yard.file_text", defArgs s_Yard_file_text, defBody s_Yard_file_text, defScope s_Yard_file_text, [], []⟩
abbrev s_Yard_make_file : Stmt := inClass (top 68) 12
abbrev nm_Yard_make_file : List Str := ["self", "name"]
theorem sc_Yard_make_file : FnScope nm_Yard_make_file ["self", "name"] (defScope s_Yard_make_file) := ⟨rfl, rfl, rfl, by decide +kernel, rfl, by decide +kernel, by decide +kernel⟩
def dd_Yard_make_file : He.DefD := ⟨("Yard", some "make_file"), "make_file", "Yard.make_file", defArgs s_Yard_make_file, defBody s_Yard_make_file, defScope s_Yard_make_file, [], []⟩
abbrev s_Yard_write_file : Stmt := inClass (top 68) 13
abbrev nm_Yard_write_file : List Str := ["self", "name", "text"]
theorem sc_Yard_write_file : FnScope nm_Yard_write_file ["self", "name", "text"] (defScope s_Yard_write_file) := ⟨rfl, rfl, rfl, by decide +kernel, rfl, by decide +kernel, by decide +kernel⟩
def dd_Yard_write_file : He.DefD := ⟨("Yard", some "write_file"), "write_file", "Yard.write_file", defArgs s_Yard_write_file, defBody s_Yard_write_file, defScope s_Yard_write_file, [], []⟩
abbrev s_Yard_rename_file : Stmt := inClass (top 68) 14
abbrev nm_Yard_rename_file : List Str := ["self", "name", "other"]
theorem sc_Yard_rename_file : FnScope nm_Yard_rename_file ["self", "name", "other"] (defScope s_Yard_rename_file) := ⟨rfl, rfl, rfl, by decide +kernel, rfl, by decide +kernel, by decide +kernel⟩
def dd_Yard_rename_file : He.DefD := ⟨("Yard", some "rename_file"), "rename_file", "Yard.rename_file", defArgs s_Yard_rename_file, defBody s_Yard_rename_file, defScope s_Yard_rename_file, [], []⟩
abbrev s_Yard_level_name : Stmt := inClass (top 68) 16
abbrev nm_Yard_level_name : List Str := ["self", "level"]
theorem sc_Yard_level_name : FnScope nm_Yard_level_name ["self", "level"] (defScope s_Yard_level_name) := ⟨rfl, rfl, rfl, by decide +kernel, rfl, by decide +kernel, by decide +kernel⟩
def dd_Yard_level_name : He.DefD := ⟨("Yard", some "level_name"), "level_name", "Yard.level_name", defArgs s_Yard_level_name, defBody s_Yard_level_name, defScope s_Yard_level_name, [], []⟩
abbrev s_Yard_level_of : Stmt := inClass (top 68) 18
abbrev nm_Yard_level_of : List Str := ["self", "level"]
theorem sc_Yard_level_of : FnScope nm_Yard_level_of ["self", "level"] (defScope s_Yard_level_of) := ⟨rfl, rfl, rfl, by decide +kernel, rfl, by decide +kernel, by decide +kernel⟩
def dd_Yard_level_of : He.DefD := ⟨("Yard", some "level_of"), "level_of", "Yard.level_of", defArgs s_Yard_level_of, defBody s_Yard_level_of, defScope s_Yard_level_of, [], []⟩
abbrev s_Yard_make_record : Stmt := inClass (top 68) 19
abbrev nm_Yard_make_record : List Str := ["self", "name", "level", "msg", "args", "extra", "number", "more", "bad", "key"]
theorem sc_Yard_make_record : FnScope nm_Yard_make_record ["self", "name", "level", "msg", "args", "extra"] (defScope s_Yard_make_record) := ⟨rfl, rfl, rfl, by decide +kernel, rfl, by decide +kernel, by decide +kernel⟩
def dd_Yard_make_record : He.DefD := ⟨("Yard", some "make_record"), "make_record", "Yard.make_record", defArgs s_Yard_make_record, defBody s_Yard_make_record, defScope s_Yard_make_record, [.adr (He.dflAt ("Yard", some "make_record") 0), .non], []⟩
abbrev s_Yard_enrol : Stmt := inClass (top 68) 24
abbrev nm_Yard_enrol : List Str := ["self", "handler"]
theorem sc_Yard_enrol : FnScope nm_Yard_enrol ["self", "handler"] (defScope s_Yard_enrol) := ⟨rfl, rfl, rfl, by decide +kernel, rfl, by decide +kernel, by decide +kernel⟩
def dd_Yard_enrol : He.DefD := ⟨("Yard", some "enrol"), "enrol", "Yard.enrol", defArgs s_Yard_enrol, defBody s_Yard_enrol, defScope s_Yard_enrol, [], []⟩
abbrev s_Yard_forget_name : Stmt := inClass (top 68) 26
abbrev nm_Yard_forget_name : List Str := ["self", "handler"]
theorem sc_Yard_forget_name : FnScope nm_Yard_forget_name ["self", "handler"] (defScope s_Yard_forget_name) := ⟨rfl, rfl, rfl, by decide +kernel, rfl, by decide +kernel, by decide +kernel⟩
def dd_Yard_forget_name : He.DefD := ⟨("Yard", some "forget_name"), "forget_name", "Yard.forget_name", defArgs s_Yard_forget_name, defBody s_Yard_forget_name, defScope s_Yard_forget_name, [], []⟩
abbrev s_Yard_failures : Stmt := inClass (top 68) 30
abbrev nm_Yard_failures : List Str := ["self"]
theorem sc_Yard_failures : FnScope nm_Yard_failures ["self"] (defScope s_Yard_failures) := ⟨rfl, rfl, rfl, by decide +kernel, rfl, by decide +kernel, by decide +kernel⟩
def dd_Yard_failures : He.DefD := ⟨("Yard", some "failures"), "failures", "Yard.failures", defArgs s_Yard_failures, defBody s_Yard_failures, defScope s_Yard_failures, [], []⟩
abbrev s__law_draw : Stmt := top 70
abbrev nm__law_draw : List Str := ["_law_stream", "_law_many", "_law_digit", "_law_mixed", "_law_last"]
theorem sc__law_draw : FnScope nm__law_draw ["_law_stream", "_law_many"] (defScope s__law_draw) := ⟨rfl, rfl, rfl, by decide +kernel, rfl, by decide +kernel, by decide +kernel⟩
def dd__law_draw : He.DefD := ⟨("_law_draw", none), "_law_draw", "_law_draw", defArgs s__law_draw, defBody s__law_draw, defScope s__law_draw, [], []⟩
abbrev s__law_pick : Stmt := top 71
abbrev nm__law_pick : List Str := ["_law_stream", "_law_some"]
theorem sc__law_pick : FnScope nm__law_pick ["_law_stream", "_law_some"] (defScope s__law_pick) := ⟨rfl, rfl, rfl, by decide +kernel, rfl, by decide +kernel, by decide +kernel⟩
def dd__law_pick : He.DefD := ⟨("_law_pick", none), "_law_pick", "_law_pick", defArgs s__law_pick, defBody s__law_pick, defScope s__law_pick, [], []⟩
abbrev s__law_parts : Stmt := top 72
abbrev nm__law_parts : List Str := ["_law_files", "_law_many", "_law_names", "_law_k", "_law_name"]
theorem sc__law_parts : FnScope nm__law_parts ["_law_files", "_law_many"] (defScope s__law_parts) := ⟨rfl, rfl, rfl, by decide +kernel, rfl, by decide +kernel, by decide +kernel⟩
def dd__law_parts : He.DefD := ⟨("_law_parts", none), "_law_parts", "_law_parts", defArgs s__law_parts, defBody s__law_parts, defScope s__law_parts, [], []⟩
abbrev s__law_cut_right : Stmt := top 73
abbrev nm__law_cut_right : List Str := ["_law_parts_here", "_law_rows", "_law_size", "_law_at", "_law_k", "_law_first"]
theorem sc__law_cut_right : FnScope nm__law_cut_right ["_law_parts_here", "_law_rows", "_law_size"] (defScope s__law_cut_right) := ⟨rfl, rfl, rfl, by decide +kernel, rfl, by decide +kernel, by decide +kernel⟩
def dd__law_cut_right : He.DefD := ⟨("_law_cut_right", none), "_law_cut_right", "_law_cut_right", defArgs s__law_cut_right, defBody s__law_cut_right, defScope s__law_cut_right, [], []⟩
abbrev s_law : Stmt := top 74
abbrev nm_law : List Str := ["_law_script", "_law_stream", "_law_turn", "_law_yard", "_law_size", "_law_many", "_law_delay", "_law_front", "_law_mode", "_law_rows", "_law_handler", "_law_k", "_law_text", "_law_sign", "_law_parts_here"]
theorem sc_law : FnScope nm_law ["_law_script"] (defScope s_law) := ⟨rfl, rfl, rfl, by decide +kernel, rfl, by decide +kernel, by decide +kernel⟩
def dd_law : He.DefD := ⟨("law", none), "law", "law", defArgs s_law, defBody s_law, defScope s_law, [], []⟩
def kv_FIRST_NAMES : List (Key × He.Dv) := [(Sum.inl (50), .str "CRITICAL"), (Sum.inl (40), .str "ERROR"), (Sum.inl (30), .str "WARNING"), (Sum.inl (20), .str "INFO"), (Sum.inl (10), .str "DEBUG"), (Sum.inl (0), .str "NOTSET")]
def kv_FIRST_NUMBERS : List (Key × He.Dv) := [(Sum.inr "CRITICAL", .int (50)), (Sum.inr "FATAL", .int (50)), (Sum.inr "ERROR", .int (40)), (Sum.inr "WARNING", .int (30)), (Sum.inr "WARN", .int (30)), (Sum.inr "INFO", .int (20)), (Sum.inr "DEBUG", .int (10)), (Sum.inr "NOTSET", .int (0))]
def kv_MESSAGE_ALONE : List (Key × He.Dv) := [(Sum.inr "{", .str "{message}"), (Sum.inr "$", .str "$message")]
def fa : List He.Fa := ([.glo "BadMessage", .glo "BadField", .glo "LogRecord", .glo "Filterer", .glo "Handler", .glo "StreamHandler", .glo "FileHandler", .glo "RotatingFileHandler", .glo "Field", .glo "Formatter", .glo "Logger", .glo "Yard"] : List He.Fa) ++ ([.glo "copied_value", .glo "message_of", .glo "is_integer", .glo "name_end", .glo "field_of", .glo "parts_of_braces", .glo "joined_texts", .glo "_law_draw", .glo "_law_pick", .glo "_law_parts", .glo "_law_cut_right", .glo "law"] : List He.Fa) ++ ([.int "WARNING" 30, .int "NOTSET" 0, .glo "OWN_FIELDS", .glo "FIRST_NAMES", .glo "FIRST_NUMBERS", .str "LETTERS" "abcdefghijklmnopqrstuvwxyzABCDEFGHIJKLMNOPQRSTUVWXYZ_", .str "DIGITS" "0123456789", .glo "MESSAGE_ALONE", .free "len", .free "isinstance", .free "int", .free "str"] : List He.Fa) ++ ([.free "list", .free "tuple", .free "bool", .free "dict", .free "range", .free "sorted", .free "all", .free "max", .cls "LogRecord", .noat "LogRecord" "name", .noat "LogRecord" "levelno", .noat "LogRecord" "levelname"] : List He.Fa) ++ ([.noat "LogRecord" "msg", .noat "LogRecord" "given", .noat "LogRecord" "created", .noat "LogRecord" "extra", .cls "StreamHandler", .noat "StreamHandler" "filters", .noat "StreamHandler" "yard", .noat "StreamHandler" "level", .noat "StreamHandler" "formatter", .noat "StreamHandler" "name", .noat "StreamHandler" "terminator", .noat "StreamHandler" "closed"] : List He.Fa) ++ ([.noat "StreamHandler" "stream", .cls "RotatingFileHandler", .noat "RotatingFileHandler" "filters", .noat "RotatingFileHandler" "yard", .noat "RotatingFileHandler" "level", .noat "RotatingFileHandler" "formatter", .noat "RotatingFileHandler" "name", .noat "RotatingFileHandler" "terminator", .noat "RotatingFileHandler" "closed", .noat "RotatingFileHandler" "filename", .noat "RotatingFileHandler" "mode", .noat "RotatingFileHandler" "delay"] : List He.Fa) ++ ([.noat "RotatingFileHandler" "is_open", .noat "RotatingFileHandler" "shut", .noat "RotatingFileHandler" "max_bytes", .noat "RotatingFileHandler" "backup_count", .noat "RotatingFileHandler" "namer", .cls "Field", .noat "Field" "name", .noat "Field" "conversion", .noat "Field" "fill", .noat "Field" "align", .noat "Field" "width", .cls "Formatter"] : List He.Fa) ++ ([.noat "Formatter" "fmt", .noat "Formatter" "style", .noat "Formatter" "parts", .noat "Formatter" "defaults", .cls "Logger", .noat "Logger" "filters", .noat "Logger" "yard", .noat "Logger" "name", .noat "Logger" "level", .noat "Logger" "propagate", .noat "Logger" "disabled", .noat "Logger" "handlers"] : List He.Fa) ++ ([.noat "Logger" "parent", .cls "Yard", .noat "Yard" "clock", .noat "Yard" "stream_texts", .noat "Yard" "file_rows", .noat "Yard" "names_of", .noat "Yard" "numbers_of", .noat "Yard" "bar_level", .noat "Yard" "logger_map", .noat "Yard" "made", .noat "Yard" "handler_names", .noat "Yard" "failure_rows"] : List He.Fa) ++ ([.noat "Yard" "root", .noat "Yard" "last_resort", .meth "LogRecord" "message", .meth "LogRecord" "field", .meth "Handler" "close", .meth "FileHandler" "emit", .meth "RotatingFileHandler" "filtered", .meth "RotatingFileHandler" "setFormatter", .meth "RotatingFileHandler" "handle", .meth "RotatingFileHandler" "emit", .meth "RotatingFileHandler" "formatted", .meth "RotatingFileHandler" "text_of"] : List He.Fa) ++ ([.meth "RotatingFileHandler" "close", .meth "RotatingFileHandler" "open_file", .meth "RotatingFileHandler" "backup_name", .meth "RotatingFileHandler" "shouldRollover", .meth "RotatingFileHandler" "move", .meth "RotatingFileHandler" "doRollover", .meth "RotatingFileHandler" "rolls_for", .meth "Field" "side_of", .meth "Field" "written", .meth "Formatter" "value_of", .meth "Formatter" "formatted", .meth "Yard" "files"] : List He.Fa) ++ ([.meth "Yard" "put_file", .meth "Yard" "has_file", .meth "Yard" "file_text", .meth "Yard" "make_file", .meth "Yard" "write_file", .meth "Yard" "rename_file", .meth "Yard" "level_name", .meth "Yard" "level_of", .meth "Yard" "make_record", .meth "Yard" "enrol", .meth "Yard" "forget_name", .meth "Yard" "failures"] : List He.Fa) ++ ([.mkr "LogRecord", .mkr "StreamHandler", .mkr "RotatingFileHandler", .mkr "Field", .mkr "Formatter", .mkr "Logger", .mkr "Yard"] : List He.Fa)
def fx : List RB.Fx := ([.exc "BadMessage" "msg", .exc "BadField" "name", .exm "BadMessage" "BadMessage" true, .exm "BadMessage" "BadField" false, .exm "BadField" "BadMessage" false, .exm "BadField" "BadField" true, .pl "Logger", .pl "StreamHandler", .pl "LogRecord", .pl "RotatingFileHandler", .sub "Logger" "Logger", .sub "StreamHandler" "StreamHandler"] : List RB.Fx) ++ ([.sub "LogRecord" "LogRecord", .sub "RotatingFileHandler" "RotatingFileHandler", .cf "Filterer" "__init__", .cf "Handler" "__init__", .cf "FileHandler" "__init__", .cf "FileHandler" "emit", .cf "Handler" "close", .ty "Field", .kiy "Field" "str" false, .dtup ("Yard", some "make_record") 0] : List RB.Fx)
def fn : List He.DefD := ([dd_Filterer_init, dd_copied_value, dd_message_of, dd_BadMessage_init, dd_BadField_init, dd_LogRecord_init, dd_LogRecord_message, dd_LogRecord_field, dd_Handler_init, dd_Handler_close, dd_StreamHandler_init, dd_FileHandler_init] : List He.DefD) ++ ([dd_FileHandler_emit, dd_RotatingFileHandler_init, dd_RotatingFileHandler_filtered, dd_RotatingFileHandler_setFormatter, dd_RotatingFileHandler_handle, dd_RotatingFileHandler_emit, dd_RotatingFileHandler_formatted, dd_RotatingFileHandler_text_of, dd_RotatingFileHandler_close, dd_RotatingFileHandler_open_file, dd_RotatingFileHandler_backup_name, dd_RotatingFileHandler_shouldRollover] : List He.DefD) ++ ([dd_RotatingFileHandler_move, dd_RotatingFileHandler_doRollover, dd_RotatingFileHandler_rolls_for, dd_is_integer, dd_Field_init, dd_Field_side_of, dd_Field_written, dd_name_end, dd_field_of, dd_parts_of_braces, dd_joined_texts, dd_Formatter_init] : List He.DefD) ++ ([dd_Formatter_value_of, dd_Formatter_formatted, dd_Logger_init, dd_Yard_init, dd_Yard_files, dd_Yard_put_file, dd_Yard_has_file, dd_Yard_file_text, dd_Yard_make_file, dd_Yard_write_file, dd_Yard_rename_file, dd_Yard_level_name] : List He.DefD) ++ ([dd_Yard_level_of, dd_Yard_make_record, dd_Yard_enrol, dd_Yard_forget_name, dd_Yard_failures, dd__law_draw, dd__law_pick, dd__law_parts, dd__law_cut_right, dd_law] : List He.DefD)
def ts : List RB.Tb := ([("FIRST_NAMES", kv_FIRST_NAMES), ("FIRST_NUMBERS", kv_FIRST_NUMBERS), ("MESSAGE_ALONE", kv_MESSAGE_ALONE)] : List RB.Tb)
def names : List PySem.Str := (["_wall", "YardError", "BadLevel", "BadExtra", "BadMessage", "BadField", "BadFormat", "BadStyle", "BadMode", "OWN_FIELDS", "copied_value", "message_of"] : List PySem.Str) ++ (["LogRecord", "is_below", "let_by", "Filter", "Filterer", "Handler", "StreamHandler", "FileHandler", "RotatingFileHandler", "CRITICAL", "ERROR", "WARNING"] : List PySem.Str) ++ (["INFO", "DEBUG", "NOTSET", "FIRST_NAMES", "FIRST_NUMBERS", "is_integer", "LETTERS", "DIGITS", "Field", "name_end", "ALIGNS", "is_width"] : List PySem.Str) ++ (["spec_of", "field_of", "parts_of_braces", "DAY", "MONTHS", "is_leap", "first_day", "date_of", "padded", "date_text", "clock_parts", "shown_time"] : List PySem.Str) ++ (["field_behind", "parts_of_dollars", "MESSAGE_ALONE", "joined_texts", "Formatter", "Logger", "Yard", "_law_draw", "_law_pick", "_law_parts", "_law_cut_right"] : List PySem.Str)
/-- what the text is, behind the top -/
structure Txt (P : Program) (w : World) (K : PySem.W.Frag) (mg : Str → Option Value) : Prop where
  g_BadMessage : mg "BadMessage" = some (.ref (He.ga K "BadMessage"))
  g_BadField : mg "BadField" = some (.ref (He.ga K "BadField"))
  g_LogRecord : mg "LogRecord" = some (.ref (He.ga K "LogRecord"))
  g_Filterer : mg "Filterer" = some (.ref (He.ga K "Filterer"))
  g_Handler : mg "Handler" = some (.ref (He.ga K "Handler"))
  g_StreamHandler : mg "StreamHandler" = some (.ref (He.ga K "StreamHandler"))
  g_FileHandler : mg "FileHandler" = some (.ref (He.ga K "FileHandler"))
  g_RotatingFileHandler : mg "RotatingFileHandler" = some (.ref (He.ga K "RotatingFileHandler"))
  g_Field : mg "Field" = some (.ref (He.ga K "Field"))
  g_Formatter : mg "Formatter" = some (.ref (He.ga K "Formatter"))
  g_Logger : mg "Logger" = some (.ref (He.ga K "Logger"))
  g_Yard : mg "Yard" = some (.ref (He.ga K "Yard"))
  g_copied_value : mg "copied_value" = some (.ref (He.ga K "copied_value"))
  g_message_of : mg "message_of" = some (.ref (He.ga K "message_of"))
  g_is_integer : mg "is_integer" = some (.ref (He.ga K "is_integer"))
  g_name_end : mg "name_end" = some (.ref (He.ga K "name_end"))
  g_field_of : mg "field_of" = some (.ref (He.ga K "field_of"))
  g_parts_of_braces : mg "parts_of_braces" = some (.ref (He.ga K "parts_of_braces"))
  g_joined_texts : mg "joined_texts" = some (.ref (He.ga K "joined_texts"))
  g__law_draw : mg "_law_draw" = some (.ref (He.ga K "_law_draw"))
  g__law_pick : mg "_law_pick" = some (.ref (He.ga K "_law_pick"))
  g__law_parts : mg "_law_parts" = some (.ref (He.ga K "_law_parts"))
  g__law_cut_right : mg "_law_cut_right" = some (.ref (He.ga K "_law_cut_right"))
  g_law : mg "law" = some (.ref (He.ga K "law"))
  g_WARNING : ∃ t, mg "WARNING" = some (.int 30 t)
  g_NOTSET : ∃ t, mg "NOTSET" = some (.int 0 t)
  g_OWN_FIELDS : mg "OWN_FIELDS" = some (.ref (He.ga K "OWN_FIELDS"))
  g_FIRST_NAMES : mg "FIRST_NAMES" = some (.ref (He.ga K "FIRST_NAMES"))
  g_FIRST_NUMBERS : mg "FIRST_NUMBERS" = some (.ref (He.ga K "FIRST_NUMBERS"))
  g_LETTERS : ∃ t, mg "LETTERS" = some (.str "abcdefghijklmnopqrstuvwxyzABCDEFGHIJKLMNOPQRSTUVWXYZ_" t)
  g_DIGITS : ∃ t, mg "DIGITS" = some (.str "0123456789" t)
  g_MESSAGE_ALONE : mg "MESSAGE_ALONE" = some (.ref (He.ga K "MESSAGE_ALONE"))
  b_len : mg "len" = none
  b_isinstance : mg "isinstance" = none
  b_int : mg "int" = none
  b_str : mg "str" = none
  b_list : mg "list" = none
  b_tuple : mg "tuple" = none
  b_bool : mg "bool" = none
  b_dict : mg "dict" = none
  b_range : mg "range" = none
  b_sorted : mg "sorted" = none
  b_all : mg "all" = none
  b_max : mg "max" = none
  c_LogRecord : Cls K (He.ga K "LogRecord")
  n_LogRecord_name : NoAttr K (He.ga K "LogRecord") "name"
  n_LogRecord_levelno : NoAttr K (He.ga K "LogRecord") "levelno"
  n_LogRecord_levelname : NoAttr K (He.ga K "LogRecord") "levelname"
  n_LogRecord_msg : NoAttr K (He.ga K "LogRecord") "msg"
  n_LogRecord_given : NoAttr K (He.ga K "LogRecord") "given"
  n_LogRecord_created : NoAttr K (He.ga K "LogRecord") "created"
  n_LogRecord_extra : NoAttr K (He.ga K "LogRecord") "extra"
  c_StreamHandler : Cls K (He.ga K "StreamHandler")
  n_StreamHandler_filters : NoAttr K (He.ga K "StreamHandler") "filters"
  n_StreamHandler_yard : NoAttr K (He.ga K "StreamHandler") "yard"
  n_StreamHandler_level : NoAttr K (He.ga K "StreamHandler") "level"
  n_StreamHandler_formatter : NoAttr K (He.ga K "StreamHandler") "formatter"
  n_StreamHandler_name : NoAttr K (He.ga K "StreamHandler") "name"
  n_StreamHandler_terminator : NoAttr K (He.ga K "StreamHandler") "terminator"
  n_StreamHandler_closed : NoAttr K (He.ga K "StreamHandler") "closed"
  n_StreamHandler_stream : NoAttr K (He.ga K "StreamHandler") "stream"
  c_RotatingFileHandler : Cls K (He.ga K "RotatingFileHandler")
  n_RotatingFileHandler_filters : NoAttr K (He.ga K "RotatingFileHandler") "filters"
  n_RotatingFileHandler_yard : NoAttr K (He.ga K "RotatingFileHandler") "yard"
  n_RotatingFileHandler_level : NoAttr K (He.ga K "RotatingFileHandler") "level"
  n_RotatingFileHandler_formatter : NoAttr K (He.ga K "RotatingFileHandler") "formatter"
  n_RotatingFileHandler_name : NoAttr K (He.ga K "RotatingFileHandler") "name"
  n_RotatingFileHandler_terminator : NoAttr K (He.ga K "RotatingFileHandler") "terminator"
  n_RotatingFileHandler_closed : NoAttr K (He.ga K "RotatingFileHandler") "closed"
  n_RotatingFileHandler_filename : NoAttr K (He.ga K "RotatingFileHandler") "filename"
  n_RotatingFileHandler_mode : NoAttr K (He.ga K "RotatingFileHandler") "mode"
  n_RotatingFileHandler_delay : NoAttr K (He.ga K "RotatingFileHandler") "delay"
  n_RotatingFileHandler_is_open : NoAttr K (He.ga K "RotatingFileHandler") "is_open"
  n_RotatingFileHandler_shut : NoAttr K (He.ga K "RotatingFileHandler") "shut"
  n_RotatingFileHandler_max_bytes : NoAttr K (He.ga K "RotatingFileHandler") "max_bytes"
  n_RotatingFileHandler_backup_count : NoAttr K (He.ga K "RotatingFileHandler") "backup_count"
  n_RotatingFileHandler_namer : NoAttr K (He.ga K "RotatingFileHandler") "namer"
  c_Field : Cls K (He.ga K "Field")
  n_Field_name : NoAttr K (He.ga K "Field") "name"
  n_Field_conversion : NoAttr K (He.ga K "Field") "conversion"
  n_Field_fill : NoAttr K (He.ga K "Field") "fill"
  n_Field_align : NoAttr K (He.ga K "Field") "align"
  n_Field_width : NoAttr K (He.ga K "Field") "width"
  c_Formatter : Cls K (He.ga K "Formatter")
  n_Formatter_fmt : NoAttr K (He.ga K "Formatter") "fmt"
  n_Formatter_style : NoAttr K (He.ga K "Formatter") "style"
  n_Formatter_parts : NoAttr K (He.ga K "Formatter") "parts"
  n_Formatter_defaults : NoAttr K (He.ga K "Formatter") "defaults"
  c_Logger : Cls K (He.ga K "Logger")
  n_Logger_filters : NoAttr K (He.ga K "Logger") "filters"
  n_Logger_yard : NoAttr K (He.ga K "Logger") "yard"
  n_Logger_name : NoAttr K (He.ga K "Logger") "name"
  n_Logger_level : NoAttr K (He.ga K "Logger") "level"
  n_Logger_propagate : NoAttr K (He.ga K "Logger") "propagate"
  n_Logger_disabled : NoAttr K (He.ga K "Logger") "disabled"
  n_Logger_handlers : NoAttr K (He.ga K "Logger") "handlers"
  n_Logger_parent : NoAttr K (He.ga K "Logger") "parent"
  c_Yard : Cls K (He.ga K "Yard")
  n_Yard_clock : NoAttr K (He.ga K "Yard") "clock"
  n_Yard_stream_texts : NoAttr K (He.ga K "Yard") "stream_texts"
  n_Yard_file_rows : NoAttr K (He.ga K "Yard") "file_rows"
  n_Yard_names_of : NoAttr K (He.ga K "Yard") "names_of"
  n_Yard_numbers_of : NoAttr K (He.ga K "Yard") "numbers_of"
  n_Yard_bar_level : NoAttr K (He.ga K "Yard") "bar_level"
  n_Yard_logger_map : NoAttr K (He.ga K "Yard") "logger_map"
  n_Yard_made : NoAttr K (He.ga K "Yard") "made"
  n_Yard_handler_names : NoAttr K (He.ga K "Yard") "handler_names"
  n_Yard_failure_rows : NoAttr K (He.ga K "Yard") "failure_rows"
  n_Yard_root : NoAttr K (He.ga K "Yard") "root"
  n_Yard_last_resort : NoAttr K (He.ga K "Yard") "last_resort"
  m_LogRecord_message : Meth K (He.ga K "LogRecord") "message" (He.ma K (He.ga K "LogRecord") "message")
  m_LogRecord_field : Meth K (He.ga K "LogRecord") "field" (He.ma K (He.ga K "LogRecord") "field")
  m_Handler_close : Meth K (He.ga K "Handler") "close" (He.ma K (He.ga K "Handler") "close")
  m_FileHandler_emit : Meth K (He.ga K "FileHandler") "emit" (He.ma K (He.ga K "FileHandler") "emit")
  m_RotatingFileHandler_filtered : Meth K (He.ga K "RotatingFileHandler") "filtered" (He.ma K (He.ga K "RotatingFileHandler") "filtered")
  m_RotatingFileHandler_setFormatter : Meth K (He.ga K "RotatingFileHandler") "setFormatter" (He.ma K (He.ga K "RotatingFileHandler") "setFormatter")
  m_RotatingFileHandler_handle : Meth K (He.ga K "RotatingFileHandler") "handle" (He.ma K (He.ga K "RotatingFileHandler") "handle")
  m_RotatingFileHandler_emit : Meth K (He.ga K "RotatingFileHandler") "emit" (He.ma K (He.ga K "RotatingFileHandler") "emit")
  m_RotatingFileHandler_formatted : Meth K (He.ga K "RotatingFileHandler") "formatted" (He.ma K (He.ga K "RotatingFileHandler") "formatted")
  m_RotatingFileHandler_text_of : Meth K (He.ga K "RotatingFileHandler") "text_of" (He.ma K (He.ga K "RotatingFileHandler") "text_of")
  m_RotatingFileHandler_close : Meth K (He.ga K "RotatingFileHandler") "close" (He.ma K (He.ga K "RotatingFileHandler") "close")
  m_RotatingFileHandler_open_file : Meth K (He.ga K "RotatingFileHandler") "open_file" (He.ma K (He.ga K "RotatingFileHandler") "open_file")
  m_RotatingFileHandler_backup_name : Meth K (He.ga K "RotatingFileHandler") "backup_name" (He.ma K (He.ga K "RotatingFileHandler") "backup_name")
  m_RotatingFileHandler_shouldRollover : Meth K (He.ga K "RotatingFileHandler") "shouldRollover" (He.ma K (He.ga K "RotatingFileHandler") "shouldRollover")
  m_RotatingFileHandler_move : Meth K (He.ga K "RotatingFileHandler") "move" (He.ma K (He.ga K "RotatingFileHandler") "move")
  m_RotatingFileHandler_doRollover : Meth K (He.ga K "RotatingFileHandler") "doRollover" (He.ma K (He.ga K "RotatingFileHandler") "doRollover")
  m_RotatingFileHandler_rolls_for : Meth K (He.ga K "RotatingFileHandler") "rolls_for" (He.ma K (He.ga K "RotatingFileHandler") "rolls_for")
  m_Field_side_of : Meth K (He.ga K "Field") "side_of" (He.ma K (He.ga K "Field") "side_of")
  m_Field_written : Meth K (He.ga K "Field") "written" (He.ma K (He.ga K "Field") "written")
  m_Formatter_value_of : Meth K (He.ga K "Formatter") "value_of" (He.ma K (He.ga K "Formatter") "value_of")
  m_Formatter_formatted : Meth K (He.ga K "Formatter") "formatted" (He.ma K (He.ga K "Formatter") "formatted")
  m_Yard_files : Meth K (He.ga K "Yard") "files" (He.ma K (He.ga K "Yard") "files")
  m_Yard_put_file : Meth K (He.ga K "Yard") "put_file" (He.ma K (He.ga K "Yard") "put_file")
  m_Yard_has_file : Meth K (He.ga K "Yard") "has_file" (He.ma K (He.ga K "Yard") "has_file")
  m_Yard_file_text : Meth K (He.ga K "Yard") "file_text" (He.ma K (He.ga K "Yard") "file_text")
  m_Yard_make_file : Meth K (He.ga K "Yard") "make_file" (He.ma K (He.ga K "Yard") "make_file")
  m_Yard_write_file : Meth K (He.ga K "Yard") "write_file" (He.ma K (He.ga K "Yard") "write_file")
  m_Yard_rename_file : Meth K (He.ga K "Yard") "rename_file" (He.ma K (He.ga K "Yard") "rename_file")
  m_Yard_level_name : Meth K (He.ga K "Yard") "level_name" (He.ma K (He.ga K "Yard") "level_name")
  m_Yard_level_of : Meth K (He.ga K "Yard") "level_of" (He.ma K (He.ga K "Yard") "level_of")
  m_Yard_make_record : Meth K (He.ga K "Yard") "make_record" (He.ma K (He.ga K "Yard") "make_record")
  m_Yard_enrol : Meth K (He.ga K "Yard") "enrol" (He.ma K (He.ga K "Yard") "enrol")
  m_Yard_forget_name : Meth K (He.ga K "Yard") "forget_name" (He.ma K (He.ga K "Yard") "forget_name")
  m_Yard_failures : Meth K (He.ga K "Yard") "failures" (He.ma K (He.ga K "Yard") "failures")
  k_LogRecord : Mk K (He.ga K "LogRecord") (He.ma K (He.ga K "LogRecord") "__init__")
  k_StreamHandler : Mk K (He.ga K "StreamHandler") (He.ma K (He.ga K "StreamHandler") "__init__")
  k_RotatingFileHandler : Mk K (He.ga K "RotatingFileHandler") (He.ma K (He.ga K "RotatingFileHandler") "__init__")
  k_Field : Mk K (He.ga K "Field") (He.ma K (He.ga K "Field") "__init__")
  k_Formatter : Mk K (He.ga K "Formatter") (He.ma K (He.ga K "Formatter") "__init__")
  k_Logger : Mk K (He.ga K "Logger") (He.ma K (He.ga K "Logger") "__init__")
  k_Yard : Mk K (He.ga K "Yard") (He.ma K (He.ga K "Yard") "__init__")
  x_BadMessage : RB.ExcF K (He.ga K "BadMessage") "msg"
  x_BadField : RB.ExcF K (He.ga K "BadField") "name"
  e_BadMessage_BadMessage : PySem.W.exmOne K (.ref (He.ga K "BadMessage")) (.ref (He.ga K "BadMessage")) = some true
  e_BadMessage_BadField : PySem.W.exmOne K (.ref (He.ga K "BadMessage")) (.ref (He.ga K "BadField")) = some false
  e_BadField_BadMessage : PySem.W.exmOne K (.ref (He.ga K "BadField")) (.ref (He.ga K "BadMessage")) = some false
  e_BadField_BadField : PySem.W.exmOne K (.ref (He.ga K "BadField")) (.ref (He.ga K "BadField")) = some true
  p_Logger : RA.PlainC K (He.ga K "Logger")
  p_StreamHandler : RA.PlainC K (He.ga K "StreamHandler")
  p_LogRecord : RA.PlainC K (He.ga K "LogRecord")
  p_RotatingFileHandler : RA.PlainC K (He.ga K "RotatingFileHandler")
  sub_Logger_Logger : RA.PairC K (He.ga K "Logger") (He.ga K "Logger")
  sub_StreamHandler_StreamHandler : RA.PairC K (He.ga K "StreamHandler") (He.ga K "StreamHandler")
  sub_LogRecord_LogRecord : RA.PairC K (He.ga K "LogRecord") (He.ga K "LogRecord")
  sub_RotatingFileHandler_RotatingFileHandler : RA.PairC K (He.ga K "RotatingFileHandler") (He.ga K "RotatingFileHandler")
  cf_Filterer_init : RA.CFun K (He.ga K "Filterer") "__init__" (He.ma K (He.ga K "Filterer") "__init__")
  cf_Handler_init : RA.CFun K (He.ga K "Handler") "__init__" (He.ma K (He.ga K "Handler") "__init__")
  cf_FileHandler_init : RA.CFun K (He.ga K "FileHandler") "__init__" (He.ma K (He.ga K "FileHandler") "__init__")
  cf_FileHandler_emit : RA.CFun K (He.ga K "FileHandler") "emit" (He.ma K (He.ga K "FileHandler") "emit")
  cf_Handler_close : RA.CFun K (He.ga K "Handler") "close" (He.ma K (He.ga K "Handler") "close")
  ty_Field : RB.TyC K (He.ga K "Field")
  kiy_Field_str : PySem.W.kitOne K (.ref (He.ga K "Field")) (.type "str") = some false
  dt_Yard_make_record_0 : ∀ H : Hp, SqT K H (He.dflAt ("Yard", some "make_record") 0 K) []
  d_Filterer_init : Stands K "__init__" "Filterer.__init__" s_Filterer_init [] (He.fAd K ("Filterer", some "__init__"))
  d_copied_value : Stands K "copied_value" "copied_value" s_copied_value [] (He.fAd K ("copied_value", none))
  d_message_of : Stands K "message_of" "message_of" s_message_of [] (He.fAd K ("message_of", none))
  d_BadMessage_init : Stands K "__init__" "BadMessage.__init__" s_BadMessage_init [] (He.fAd K ("BadMessage", some "__init__"))
  d_BadField_init : Stands K "__init__" "BadField.__init__" s_BadField_init [] (He.fAd K ("BadField", some "__init__"))
  d_LogRecord_init : Stands K "__init__" "LogRecord.__init__" s_LogRecord_init [] (He.fAd K ("LogRecord", some "__init__"))
  d_LogRecord_message : Stands K "message" "LogRecord.message" s_LogRecord_message [] (He.fAd K ("LogRecord", some "message"))
  d_LogRecord_field : Stands K "field" "LogRecord.field" s_LogRecord_field [] (He.fAd K ("LogRecord", some "field"))
  d_Handler_init : Stands K "__init__" "Handler.__init__" s_Handler_init [] (He.fAd K ("Handler", some "__init__"))
  d_Handler_close : Stands K "close" "Handler.close" s_Handler_close [] (He.fAd K ("Handler", some "close"))
  d_StreamHandler_init : Stands K "__init__" "StreamHandler.__init__" s_StreamHandler_init [(He.Dv.str "stderr" : He.Dv).v K] (He.fAd K ("StreamHandler", some "__init__"))
  d_FileHandler_init : Stands K "__init__" "FileHandler.__init__" s_FileHandler_init [(He.Dv.str "a" : He.Dv).v K, (He.Dv.bl false : He.Dv).v K] (He.fAd K ("FileHandler", some "__init__"))
  d_FileHandler_emit : Stands K "emit" "FileHandler.emit" s_FileHandler_emit [] (He.fAd K ("FileHandler", some "emit"))
  d_RotatingFileHandler_init : Stands K "__init__" "RotatingFileHandler.__init__" s_RotatingFileHandler_init [(He.Dv.str "a" : He.Dv).v K, (He.Dv.int 0 : He.Dv).v K, (He.Dv.int 0 : He.Dv).v K, (He.Dv.bl false : He.Dv).v K] (He.fAd K ("RotatingFileHandler", some "__init__"))
  d_RotatingFileHandler_filtered : Stands K "filtered" "Filterer.filtered" s_Filterer_filtered [] (He.fAd K ("RotatingFileHandler", some "filtered"))
  d_RotatingFileHandler_setFormatter : Stands K "setFormatter" "Handler.setFormatter" s_Handler_setFormatter [] (He.fAd K ("RotatingFileHandler", some "setFormatter"))
  d_RotatingFileHandler_handle : Stands K "handle" "Handler.handle" s_Handler_handle [] (He.fAd K ("RotatingFileHandler", some "handle"))
  d_RotatingFileHandler_emit : Stands K "emit" "RotatingFileHandler.emit" s_RotatingFileHandler_emit [] (He.fAd K ("RotatingFileHandler", some "emit"))
  d_RotatingFileHandler_formatted : Stands K "formatted" "Handler.formatted" s_Handler_formatted [] (He.fAd K ("RotatingFileHandler", some "formatted"))
  d_RotatingFileHandler_text_of : Stands K "text_of" "Handler.text_of" s_Handler_text_of [] (He.fAd K ("RotatingFileHandler", some "text_of"))
  d_RotatingFileHandler_close : Stands K "close" "FileHandler.close" s_FileHandler_close [] (He.fAd K ("RotatingFileHandler", some "close"))
  d_RotatingFileHandler_open_file : Stands K "open_file" "FileHandler.open_file" s_FileHandler_open_file [] (He.fAd K ("RotatingFileHandler", some "open_file"))
  d_RotatingFileHandler_backup_name : Stands K "backup_name" "RotatingFileHandler.backup_name" s_RotatingFileHandler_backup_name [] (He.fAd K ("RotatingFileHandler", some "backup_name"))
  d_RotatingFileHandler_shouldRollover : Stands K "shouldRollover" "RotatingFileHandler.shouldRollover" s_RotatingFileHandler_shouldRollover [] (He.fAd K ("RotatingFileHandler", some "shouldRollover"))
  d_RotatingFileHandler_move : Stands K "move" "RotatingFileHandler.move" s_RotatingFileHandler_move [] (He.fAd K ("RotatingFileHandler", some "move"))
  d_RotatingFileHandler_doRollover : Stands K "doRollover" "RotatingFileHandler.doRollover" s_RotatingFileHandler_doRollover [] (He.fAd K ("RotatingFileHandler", some "doRollover"))
  d_RotatingFileHandler_rolls_for : Stands K "rolls_for" "RotatingFileHandler.rolls_for" s_RotatingFileHandler_rolls_for [] (He.fAd K ("RotatingFileHandler", some "rolls_for"))
  d_is_integer : Stands K "is_integer" "is_integer" s_is_integer [] (He.fAd K ("is_integer", none))
  d_Field_init : Stands K "__init__" "Field.__init__" s_Field_init [(He.Dv.str "" : He.Dv).v K, (He.Dv.str " " : He.Dv).v K, (He.Dv.str "" : He.Dv).v K, (He.Dv.int 0 : He.Dv).v K] (He.fAd K ("Field", some "__init__"))
  d_Field_side_of : Stands K "side_of" "Field.side_of" s_Field_side_of [] (He.fAd K ("Field", some "side_of"))
  d_Field_written : Stands K "written" "Field.written" s_Field_written [] (He.fAd K ("Field", some "written"))
  d_name_end : Stands K "name_end" "name_end" s_name_end [] (He.fAd K ("name_end", none))
  d_field_of : Stands K "field_of" "field_of" s_field_of [] (He.fAd K ("field_of", none))
  d_parts_of_braces : Stands K "parts_of_braces" "parts_of_braces" s_parts_of_braces [] (He.fAd K ("parts_of_braces", none))
  d_joined_texts : Stands K "joined_texts" "joined_texts" s_joined_texts [] (He.fAd K ("joined_texts", none))
  d_Formatter_init : Stands K "__init__" "Formatter.__init__" s_Formatter_init [(He.Dv.non : He.Dv).v K, (He.Dv.str "{" : He.Dv).v K, (He.Dv.bl true : He.Dv).v K, (He.Dv.non : He.Dv).v K] (He.fAd K ("Formatter", some "__init__"))
  d_Formatter_value_of : Stands K "value_of" "Formatter.value_of" s_Formatter_value_of [] (He.fAd K ("Formatter", some "value_of"))
  d_Formatter_formatted : Stands K "formatted" "Formatter.formatted" s_Formatter_formatted [] (He.fAd K ("Formatter", some "formatted"))
  d_Logger_init : Stands K "__init__" "Logger.__init__" s_Logger_init [] (He.fAd K ("Logger", some "__init__"))
  d_Yard_init : Stands K "__init__" "Yard.__init__" s_Yard_init [(He.Dv.int 0 : He.Dv).v K] (He.fAd K ("Yard", some "__init__"))
  d_Yard_files : Stands K "files" "Yard.files" s_Yard_files [] (He.fAd K ("Yard", some "files"))
  d_Yard_put_file : Stands K "put_file" "Yard.put_file" s_Yard_put_file [] (He.fAd K ("Yard", some "put_file"))
  d_Yard_has_file : Stands K "has_file" "Yard.has_file" s_Yard_has_file [] (He.fAd K ("Yard", some "has_file"))
  d_Yard_file_text : Stands K "file_text" "Yard.file_text" s_Yard_file_text [] (He.fAd K ("Yard", some "file_text"))
  d_Yard_make_file : Stands K "make_file" "Yard.make_file" s_Yard_make_file [] (He.fAd K ("Yard", some "make_file"))
  d_Yard_write_file : Stands K "write_file" "Yard.write_file" s_Yard_write_file [] (He.fAd K ("Yard", some "write_file"))
  d_Yard_rename_file : Stands K "rename_file" "Yard.rename_file" s_Yard_rename_file [] (He.fAd K ("Yard", some "rename_file"))
  d_Yard_level_name : Stands K "level_name" "Yard.level_name" s_Yard_level_name [] (He.fAd K ("Yard", some "level_name"))
  d_Yard_level_of : Stands K "level_of" "Yard.level_of" s_Yard_level_of [] (He.fAd K ("Yard", some "level_of"))
  d_Yard_make_record : Stands K "make_record" "Yard.make_record" s_Yard_make_record [(He.Dv.adr (He.dflAt ("Yard", some "make_record") 0) : He.Dv).v K, (He.Dv.non : He.Dv).v K] (He.fAd K ("Yard", some "make_record"))
  d_Yard_enrol : Stands K "enrol" "Yard.enrol" s_Yard_enrol [] (He.fAd K ("Yard", some "enrol"))
  d_Yard_forget_name : Stands K "forget_name" "Yard.forget_name" s_Yard_forget_name [] (He.fAd K ("Yard", some "forget_name"))
  d_Yard_failures : Stands K "failures" "Yard.failures" s_Yard_failures [] (He.fAd K ("Yard", some "failures"))
  d__law_draw : Stands K "_law_draw" "_law_draw" s__law_draw [] (He.fAd K ("_law_draw", none))
  d__law_pick : Stands K "_law_pick" "_law_pick" s__law_pick [] (He.fAd K ("_law_pick", none))
  d__law_parts : Stands K "_law_parts" "_law_parts" s__law_parts [] (He.fAd K ("_law_parts", none))
  d__law_cut_right : Stands K "_law_cut_right" "_law_cut_right" s__law_cut_right [] (He.fAd K ("_law_cut_right", none))
  d_law : Stands K "law" "law" s_law [] (He.fAd K ("law", none))
  t_FIRST_NAMES : RB.KD P w K (He.ga K "FIRST_NAMES") (kv_FIRST_NAMES.map fun q => (q.1, q.2.v K))
  t_FIRST_NUMBERS : RB.KD P w K (He.ga K "FIRST_NUMBERS") (kv_FIRST_NUMBERS.map fun q => (q.1, q.2.v K))
  t_MESSAGE_ALONE : RB.KD P w K (He.ga K "MESSAGE_ALONE") (kv_MESSAGE_ALONE.map fun q => (q.1, q.2.v K))
theorem Txt.of {P : Program} {w : World} {K : PySem.W.Frag} {h : Heap} {mg : Str → Option Value} (X : K.In h) (G : h.Ns mainGlobals mg) (c : RB.SaysB fa fx fn ts w K) : Txt P w K mg where
    g_BadMessage := He.glo_ok X G (c.fact 0 (f := .glo "BadMessage") (by rfl))
    g_BadField := He.glo_ok X G (c.fact 1 (f := .glo "BadField") (by rfl))
    g_LogRecord := He.glo_ok X G (c.fact 2 (f := .glo "LogRecord") (by rfl))
    g_Filterer := He.glo_ok X G (c.fact 3 (f := .glo "Filterer") (by rfl))
    g_Handler := He.glo_ok X G (c.fact 4 (f := .glo "Handler") (by rfl))
    g_StreamHandler := He.glo_ok X G (c.fact 5 (f := .glo "StreamHandler") (by rfl))
    g_FileHandler := He.glo_ok X G (c.fact 6 (f := .glo "FileHandler") (by rfl))
    g_RotatingFileHandler := He.glo_ok X G (c.fact 7 (f := .glo "RotatingFileHandler") (by rfl))
    g_Field := He.glo_ok X G (c.fact 8 (f := .glo "Field") (by rfl))
    g_Formatter := He.glo_ok X G (c.fact 9 (f := .glo "Formatter") (by rfl))
    g_Logger := He.glo_ok X G (c.fact 10 (f := .glo "Logger") (by rfl))
    g_Yard := He.glo_ok X G (c.fact 11 (f := .glo "Yard") (by rfl))
    g_copied_value := He.glo_ok X G (c.fact 12 (f := .glo "copied_value") (by rfl))
    g_message_of := He.glo_ok X G (c.fact 13 (f := .glo "message_of") (by rfl))
    g_is_integer := He.glo_ok X G (c.fact 14 (f := .glo "is_integer") (by rfl))
    g_name_end := He.glo_ok X G (c.fact 15 (f := .glo "name_end") (by rfl))
    g_field_of := He.glo_ok X G (c.fact 16 (f := .glo "field_of") (by rfl))
    g_parts_of_braces := He.glo_ok X G (c.fact 17 (f := .glo "parts_of_braces") (by rfl))
    g_joined_texts := He.glo_ok X G (c.fact 18 (f := .glo "joined_texts") (by rfl))
    g__law_draw := He.glo_ok X G (c.fact 19 (f := .glo "_law_draw") (by rfl))
    g__law_pick := He.glo_ok X G (c.fact 20 (f := .glo "_law_pick") (by rfl))
    g__law_parts := He.glo_ok X G (c.fact 21 (f := .glo "_law_parts") (by rfl))
    g__law_cut_right := He.glo_ok X G (c.fact 22 (f := .glo "_law_cut_right") (by rfl))
    g_law := He.glo_ok X G (c.fact 23 (f := .glo "law") (by rfl))
    g_WARNING := He.int_ok X G (c.fact 24 (f := .int "WARNING" 30) (by rfl))
    g_NOTSET := He.int_ok X G (c.fact 25 (f := .int "NOTSET" 0) (by rfl))
    g_OWN_FIELDS := He.glo_ok X G (c.fact 26 (f := .glo "OWN_FIELDS") (by rfl))
    g_FIRST_NAMES := He.glo_ok X G (c.fact 27 (f := .glo "FIRST_NAMES") (by rfl))
    g_FIRST_NUMBERS := He.glo_ok X G (c.fact 28 (f := .glo "FIRST_NUMBERS") (by rfl))
    g_LETTERS := He.str_ok X G (c.fact 29 (f := .str "LETTERS" "abcdefghijklmnopqrstuvwxyzABCDEFGHIJKLMNOPQRSTUVWXYZ_") (by rfl))
    g_DIGITS := He.str_ok X G (c.fact 30 (f := .str "DIGITS" "0123456789") (by rfl))
    g_MESSAGE_ALONE := He.glo_ok X G (c.fact 31 (f := .glo "MESSAGE_ALONE") (by rfl))
    b_len := He.free_ok X G (c.fact 32 (f := .free "len") (by rfl))
    b_isinstance := He.free_ok X G (c.fact 33 (f := .free "isinstance") (by rfl))
    b_int := He.free_ok X G (c.fact 34 (f := .free "int") (by rfl))
    b_str := He.free_ok X G (c.fact 35 (f := .free "str") (by rfl))
    b_list := He.free_ok X G (c.fact 36 (f := .free "list") (by rfl))
    b_tuple := He.free_ok X G (c.fact 37 (f := .free "tuple") (by rfl))
    b_bool := He.free_ok X G (c.fact 38 (f := .free "bool") (by rfl))
    b_dict := He.free_ok X G (c.fact 39 (f := .free "dict") (by rfl))
    b_range := He.free_ok X G (c.fact 40 (f := .free "range") (by rfl))
    b_sorted := He.free_ok X G (c.fact 41 (f := .free "sorted") (by rfl))
    b_all := He.free_ok X G (c.fact 42 (f := .free "all") (by rfl))
    b_max := He.free_ok X G (c.fact 43 (f := .free "max") (by rfl))
    c_LogRecord := He.cls_ok (c.fact 44 (f := .cls "LogRecord") (by rfl))
    n_LogRecord_name := He.noat_ok (c.fact 45 (f := .noat "LogRecord" "name") (by rfl))
    n_LogRecord_levelno := He.noat_ok (c.fact 46 (f := .noat "LogRecord" "levelno") (by rfl))
    n_LogRecord_levelname := He.noat_ok (c.fact 47 (f := .noat "LogRecord" "levelname") (by rfl))
    n_LogRecord_msg := He.noat_ok (c.fact 48 (f := .noat "LogRecord" "msg") (by rfl))
    n_LogRecord_given := He.noat_ok (c.fact 49 (f := .noat "LogRecord" "given") (by rfl))
    n_LogRecord_created := He.noat_ok (c.fact 50 (f := .noat "LogRecord" "created") (by rfl))
    n_LogRecord_extra := He.noat_ok (c.fact 51 (f := .noat "LogRecord" "extra") (by rfl))
    c_StreamHandler := He.cls_ok (c.fact 52 (f := .cls "StreamHandler") (by rfl))
    n_StreamHandler_filters := He.noat_ok (c.fact 53 (f := .noat "StreamHandler" "filters") (by rfl))
    n_StreamHandler_yard := He.noat_ok (c.fact 54 (f := .noat "StreamHandler" "yard") (by rfl))
    n_StreamHandler_level := He.noat_ok (c.fact 55 (f := .noat "StreamHandler" "level") (by rfl))
    n_StreamHandler_formatter := He.noat_ok (c.fact 56 (f := .noat "StreamHandler" "formatter") (by rfl))
    n_StreamHandler_name := He.noat_ok (c.fact 57 (f := .noat "StreamHandler" "name") (by rfl))
    n_StreamHandler_terminator := He.noat_ok (c.fact 58 (f := .noat "StreamHandler" "terminator") (by rfl))
    n_StreamHandler_closed := He.noat_ok (c.fact 59 (f := .noat "StreamHandler" "closed") (by rfl))
    n_StreamHandler_stream := He.noat_ok (c.fact 60 (f := .noat "StreamHandler" "stream") (by rfl))
    c_RotatingFileHandler := He.cls_ok (c.fact 61 (f := .cls "RotatingFileHandler") (by rfl))
    n_RotatingFileHandler_filters := He.noat_ok (c.fact 62 (f := .noat "RotatingFileHandler" "filters") (by rfl))
    n_RotatingFileHandler_yard := He.noat_ok (c.fact 63 (f := .noat "RotatingFileHandler" "yard") (by rfl))
    n_RotatingFileHandler_level := He.noat_ok (c.fact 64 (f := .noat "RotatingFileHandler" "level") (by rfl))
    n_RotatingFileHandler_formatter := He.noat_ok (c.fact 65 (f := .noat "RotatingFileHandler" "formatter") (by rfl))
    n_RotatingFileHandler_name := He.noat_ok (c.fact 66 (f := .noat "RotatingFileHandler" "name") (by rfl))
    n_RotatingFileHandler_terminator := He.noat_ok (c.fact 67 (f := .noat "RotatingFileHandler" "terminator") (by rfl))
    n_RotatingFileHandler_closed := He.noat_ok (c.fact 68 (f := .noat "RotatingFileHandler" "closed") (by rfl))
    n_RotatingFileHandler_filename := He.noat_ok (c.fact 69 (f := .noat "RotatingFileHandler" "filename") (by rfl))
    n_RotatingFileHandler_mode := He.noat_ok (c.fact 70 (f := .noat "RotatingFileHandler" "mode") (by rfl))
    n_RotatingFileHandler_delay := He.noat_ok (c.fact 71 (f := .noat "RotatingFileHandler" "delay") (by rfl))
    n_RotatingFileHandler_is_open := He.noat_ok (c.fact 72 (f := .noat "RotatingFileHandler" "is_open") (by rfl))
    n_RotatingFileHandler_shut := He.noat_ok (c.fact 73 (f := .noat "RotatingFileHandler" "shut") (by rfl))
    n_RotatingFileHandler_max_bytes := He.noat_ok (c.fact 74 (f := .noat "RotatingFileHandler" "max_bytes") (by rfl))
    n_RotatingFileHandler_backup_count := He.noat_ok (c.fact 75 (f := .noat "RotatingFileHandler" "backup_count") (by rfl))
    n_RotatingFileHandler_namer := He.noat_ok (c.fact 76 (f := .noat "RotatingFileHandler" "namer") (by rfl))
    c_Field := He.cls_ok (c.fact 77 (f := .cls "Field") (by rfl))
    n_Field_name := He.noat_ok (c.fact 78 (f := .noat "Field" "name") (by rfl))
    n_Field_conversion := He.noat_ok (c.fact 79 (f := .noat "Field" "conversion") (by rfl))
    n_Field_fill := He.noat_ok (c.fact 80 (f := .noat "Field" "fill") (by rfl))
    n_Field_align := He.noat_ok (c.fact 81 (f := .noat "Field" "align") (by rfl))
    n_Field_width := He.noat_ok (c.fact 82 (f := .noat "Field" "width") (by rfl))
    c_Formatter := He.cls_ok (c.fact 83 (f := .cls "Formatter") (by rfl))
    n_Formatter_fmt := He.noat_ok (c.fact 84 (f := .noat "Formatter" "fmt") (by rfl))
    n_Formatter_style := He.noat_ok (c.fact 85 (f := .noat "Formatter" "style") (by rfl))
    n_Formatter_parts := He.noat_ok (c.fact 86 (f := .noat "Formatter" "parts") (by rfl))
    n_Formatter_defaults := He.noat_ok (c.fact 87 (f := .noat "Formatter" "defaults") (by rfl))
    c_Logger := He.cls_ok (c.fact 88 (f := .cls "Logger") (by rfl))
    n_Logger_filters := He.noat_ok (c.fact 89 (f := .noat "Logger" "filters") (by rfl))
    n_Logger_yard := He.noat_ok (c.fact 90 (f := .noat "Logger" "yard") (by rfl))
    n_Logger_name := He.noat_ok (c.fact 91 (f := .noat "Logger" "name") (by rfl))
    n_Logger_level := He.noat_ok (c.fact 92 (f := .noat "Logger" "level") (by rfl))
    n_Logger_propagate := He.noat_ok (c.fact 93 (f := .noat "Logger" "propagate") (by rfl))
    n_Logger_disabled := He.noat_ok (c.fact 94 (f := .noat "Logger" "disabled") (by rfl))
    n_Logger_handlers := He.noat_ok (c.fact 95 (f := .noat "Logger" "handlers") (by rfl))
    n_Logger_parent := He.noat_ok (c.fact 96 (f := .noat "Logger" "parent") (by rfl))
    c_Yard := He.cls_ok (c.fact 97 (f := .cls "Yard") (by rfl))
    n_Yard_clock := He.noat_ok (c.fact 98 (f := .noat "Yard" "clock") (by rfl))
    n_Yard_stream_texts := He.noat_ok (c.fact 99 (f := .noat "Yard" "stream_texts") (by rfl))
    n_Yard_file_rows := He.noat_ok (c.fact 100 (f := .noat "Yard" "file_rows") (by rfl))
    n_Yard_names_of := He.noat_ok (c.fact 101 (f := .noat "Yard" "names_of") (by rfl))
    n_Yard_numbers_of := He.noat_ok (c.fact 102 (f := .noat "Yard" "numbers_of") (by rfl))
    n_Yard_bar_level := He.noat_ok (c.fact 103 (f := .noat "Yard" "bar_level") (by rfl))
    n_Yard_logger_map := He.noat_ok (c.fact 104 (f := .noat "Yard" "logger_map") (by rfl))
    n_Yard_made := He.noat_ok (c.fact 105 (f := .noat "Yard" "made") (by rfl))
    n_Yard_handler_names := He.noat_ok (c.fact 106 (f := .noat "Yard" "handler_names") (by rfl))
    n_Yard_failure_rows := He.noat_ok (c.fact 107 (f := .noat "Yard" "failure_rows") (by rfl))
    n_Yard_root := He.noat_ok (c.fact 108 (f := .noat "Yard" "root") (by rfl))
    n_Yard_last_resort := He.noat_ok (c.fact 109 (f := .noat "Yard" "last_resort") (by rfl))
    m_LogRecord_message := He.meth_ok (c.fact 110 (f := .meth "LogRecord" "message") (by rfl))
    m_LogRecord_field := He.meth_ok (c.fact 111 (f := .meth "LogRecord" "field") (by rfl))
    m_Handler_close := He.meth_ok (c.fact 112 (f := .meth "Handler" "close") (by rfl))
    m_FileHandler_emit := He.meth_ok (c.fact 113 (f := .meth "FileHandler" "emit") (by rfl))
    m_RotatingFileHandler_filtered := He.meth_ok (c.fact 114 (f := .meth "RotatingFileHandler" "filtered") (by rfl))
    m_RotatingFileHandler_setFormatter := He.meth_ok (c.fact 115 (f := .meth "RotatingFileHandler" "setFormatter") (by rfl))
    m_RotatingFileHandler_handle := He.meth_ok (c.fact 116 (f := .meth "RotatingFileHandler" "handle") (by rfl))
    m_RotatingFileHandler_emit := He.meth_ok (c.fact 117 (f := .meth "RotatingFileHandler" "emit") (by rfl))
    m_RotatingFileHandler_formatted := He.meth_ok (c.fact 118 (f := .meth "RotatingFileHandler" "formatted") (by rfl))
    m_RotatingFileHandler_text_of := He.meth_ok (c.fact 119 (f := .meth "RotatingFileHandler" "text_of") (by rfl))
    m_RotatingFileHandler_close := He.meth_ok (c.fact 120 (f := .meth "RotatingFileHandler" "close") (by rfl))
    m_RotatingFileHandler_open_file := He.meth_ok (c.fact 121 (f := .meth "RotatingFileHandler" "open_file") (by rfl))
    m_RotatingFileHandler_backup_name := He.meth_ok (c.fact 122 (f := .meth "RotatingFileHandler" "backup_name") (by rfl))
    m_RotatingFileHandler_shouldRollover := He.meth_ok (c.fact 123 (f := .meth "RotatingFileHandler" "shouldRollover") (by rfl))
    m_RotatingFileHandler_move := He.meth_ok (c.fact 124 (f := .meth "RotatingFileHandler" "move") (by rfl))
    m_RotatingFileHandler_doRollover := He.meth_ok (c.fact 125 (f := .meth "RotatingFileHandler" "doRollover") (by rfl))
    m_RotatingFileHandler_rolls_for := He.meth_ok (c.fact 126 (f := .meth "RotatingFileHandler" "rolls_for") (by rfl))
    m_Field_side_of := He.meth_ok (c.fact 127 (f := .meth "Field" "side_of") (by rfl))
    m_Field_written := He.meth_ok (c.fact 128 (f := .meth "Field" "written") (by rfl))
    m_Formatter_value_of := He.meth_ok (c.fact 129 (f := .meth "Formatter" "value_of") (by rfl))
    m_Formatter_formatted := He.meth_ok (c.fact 130 (f := .meth "Formatter" "formatted") (by rfl))
    m_Yard_files := He.meth_ok (c.fact 131 (f := .meth "Yard" "files") (by rfl))
    m_Yard_put_file := He.meth_ok (c.fact 132 (f := .meth "Yard" "put_file") (by rfl))
    m_Yard_has_file := He.meth_ok (c.fact 133 (f := .meth "Yard" "has_file") (by rfl))
    m_Yard_file_text := He.meth_ok (c.fact 134 (f := .meth "Yard" "file_text") (by rfl))
    m_Yard_make_file := He.meth_ok (c.fact 135 (f := .meth "Yard" "make_file") (by rfl))
    m_Yard_write_file := He.meth_ok (c.fact 136 (f := .meth "Yard" "write_file") (by rfl))
    m_Yard_rename_file := He.meth_ok (c.fact 137 (f := .meth "Yard" "rename_file") (by rfl))
    m_Yard_level_name := He.meth_ok (c.fact 138 (f := .meth "Yard" "level_name") (by rfl))
    m_Yard_level_of := He.meth_ok (c.fact 139 (f := .meth "Yard" "level_of") (by rfl))
    m_Yard_make_record := He.meth_ok (c.fact 140 (f := .meth "Yard" "make_record") (by rfl))
    m_Yard_enrol := He.meth_ok (c.fact 141 (f := .meth "Yard" "enrol") (by rfl))
    m_Yard_forget_name := He.meth_ok (c.fact 142 (f := .meth "Yard" "forget_name") (by rfl))
    m_Yard_failures := He.meth_ok (c.fact 143 (f := .meth "Yard" "failures") (by rfl))
    k_LogRecord := He.mkr_ok (c.fact 144 (f := .mkr "LogRecord") (by rfl))
    k_StreamHandler := He.mkr_ok (c.fact 145 (f := .mkr "StreamHandler") (by rfl))
    k_RotatingFileHandler := He.mkr_ok (c.fact 146 (f := .mkr "RotatingFileHandler") (by rfl))
    k_Field := He.mkr_ok (c.fact 147 (f := .mkr "Field") (by rfl))
    k_Formatter := He.mkr_ok (c.fact 148 (f := .mkr "Formatter") (by rfl))
    k_Logger := He.mkr_ok (c.fact 149 (f := .mkr "Logger") (by rfl))
    k_Yard := He.mkr_ok (c.fact 150 (f := .mkr "Yard") (by rfl))
    x_BadMessage := RB.exc_ok (c.more 0 (f := .exc "BadMessage" "msg") (by rfl))
    x_BadField := RB.exc_ok (c.more 1 (f := .exc "BadField" "name") (by rfl))
    e_BadMessage_BadMessage := RB.exm_ok (c.more 2 (f := .exm "BadMessage" "BadMessage" true) (by rfl))
    e_BadMessage_BadField := RB.exm_ok (c.more 3 (f := .exm "BadMessage" "BadField" false) (by rfl))
    e_BadField_BadMessage := RB.exm_ok (c.more 4 (f := .exm "BadField" "BadMessage" false) (by rfl))
    e_BadField_BadField := RB.exm_ok (c.more 5 (f := .exm "BadField" "BadField" true) (by rfl))
    p_Logger := RB.pl_ok (c.more 6 (f := .pl "Logger") (by rfl))
    p_StreamHandler := RB.pl_ok (c.more 7 (f := .pl "StreamHandler") (by rfl))
    p_LogRecord := RB.pl_ok (c.more 8 (f := .pl "LogRecord") (by rfl))
    p_RotatingFileHandler := RB.pl_ok (c.more 9 (f := .pl "RotatingFileHandler") (by rfl))
    sub_Logger_Logger := RB.sub_ok (c.more 10 (f := .sub "Logger" "Logger") (by rfl))
    sub_StreamHandler_StreamHandler := RB.sub_ok (c.more 11 (f := .sub "StreamHandler" "StreamHandler") (by rfl))
    sub_LogRecord_LogRecord := RB.sub_ok (c.more 12 (f := .sub "LogRecord" "LogRecord") (by rfl))
    sub_RotatingFileHandler_RotatingFileHandler := RB.sub_ok (c.more 13 (f := .sub "RotatingFileHandler" "RotatingFileHandler") (by rfl))
    cf_Filterer_init := RB.cf_ok (c.more 14 (f := .cf "Filterer" "__init__") (by rfl))
    cf_Handler_init := RB.cf_ok (c.more 15 (f := .cf "Handler" "__init__") (by rfl))
    cf_FileHandler_init := RB.cf_ok (c.more 16 (f := .cf "FileHandler" "__init__") (by rfl))
    cf_FileHandler_emit := RB.cf_ok (c.more 17 (f := .cf "FileHandler" "emit") (by rfl))
    cf_Handler_close := RB.cf_ok (c.more 18 (f := .cf "Handler" "close") (by rfl))
    ty_Field := RB.ty_ok (c.more 19 (f := .ty "Field") (by rfl))
    kiy_Field_str := RB.kiy_ok (c.more 20 (f := .kiy "Field" "str" false) (by rfl))
    dt_Yard_make_record_0 := RB.dtup_ok (c.more 21 (f := .dtup ("Yard", some "make_record") 0) (by rfl))
    d_Filterer_init := c.d.def_ 0 (d := dd_Filterer_init) (by rfl)
    d_copied_value := c.d.def_ 1 (d := dd_copied_value) (by rfl)
    d_message_of := c.d.def_ 2 (d := dd_message_of) (by rfl)
    d_BadMessage_init := c.d.def_ 3 (d := dd_BadMessage_init) (by rfl)
    d_BadField_init := c.d.def_ 4 (d := dd_BadField_init) (by rfl)
    d_LogRecord_init := c.d.def_ 5 (d := dd_LogRecord_init) (by rfl)
    d_LogRecord_message := c.d.def_ 6 (d := dd_LogRecord_message) (by rfl)
    d_LogRecord_field := c.d.def_ 7 (d := dd_LogRecord_field) (by rfl)
    d_Handler_init := c.d.def_ 8 (d := dd_Handler_init) (by rfl)
    d_Handler_close := c.d.def_ 9 (d := dd_Handler_close) (by rfl)
    d_StreamHandler_init := c.d.def_ 10 (d := dd_StreamHandler_init) (by rfl)
    d_FileHandler_init := c.d.def_ 11 (d := dd_FileHandler_init) (by rfl)
    d_FileHandler_emit := c.d.def_ 12 (d := dd_FileHandler_emit) (by rfl)
    d_RotatingFileHandler_init := c.d.def_ 13 (d := dd_RotatingFileHandler_init) (by rfl)
    d_RotatingFileHandler_filtered := c.d.def_ 14 (d := dd_RotatingFileHandler_filtered) (by rfl)
    d_RotatingFileHandler_setFormatter := c.d.def_ 15 (d := dd_RotatingFileHandler_setFormatter) (by rfl)
    d_RotatingFileHandler_handle := c.d.def_ 16 (d := dd_RotatingFileHandler_handle) (by rfl)
    d_RotatingFileHandler_emit := c.d.def_ 17 (d := dd_RotatingFileHandler_emit) (by rfl)
    d_RotatingFileHandler_formatted := c.d.def_ 18 (d := dd_RotatingFileHandler_formatted) (by rfl)
    d_RotatingFileHandler_text_of := c.d.def_ 19 (d := dd_RotatingFileHandler_text_of) (by rfl)
    d_RotatingFileHandler_close := c.d.def_ 20 (d := dd_RotatingFileHandler_close) (by rfl)
    d_RotatingFileHandler_open_file := c.d.def_ 21 (d := dd_RotatingFileHandler_open_file) (by rfl)
    d_RotatingFileHandler_backup_name := c.d.def_ 22 (d := dd_RotatingFileHandler_backup_name) (by rfl)
    d_RotatingFileHandler_shouldRollover := c.d.def_ 23 (d := dd_RotatingFileHandler_shouldRollover) (by rfl)
    d_RotatingFileHandler_move := c.d.def_ 24 (d := dd_RotatingFileHandler_move) (by rfl)
    d_RotatingFileHandler_doRollover := c.d.def_ 25 (d := dd_RotatingFileHandler_doRollover) (by rfl)
    d_RotatingFileHandler_rolls_for := c.d.def_ 26 (d := dd_RotatingFileHandler_rolls_for) (by rfl)
    d_is_integer := c.d.def_ 27 (d := dd_is_integer) (by rfl)
    d_Field_init := c.d.def_ 28 (d := dd_Field_init) (by rfl)
    d_Field_side_of := c.d.def_ 29 (d := dd_Field_side_of) (by rfl)
    d_Field_written := c.d.def_ 30 (d := dd_Field_written) (by rfl)
    d_name_end := c.d.def_ 31 (d := dd_name_end) (by rfl)
    d_field_of := c.d.def_ 32 (d := dd_field_of) (by rfl)
    d_parts_of_braces := c.d.def_ 33 (d := dd_parts_of_braces) (by rfl)
    d_joined_texts := c.d.def_ 34 (d := dd_joined_texts) (by rfl)
    d_Formatter_init := c.d.def_ 35 (d := dd_Formatter_init) (by rfl)
    d_Formatter_value_of := c.d.def_ 36 (d := dd_Formatter_value_of) (by rfl)
    d_Formatter_formatted := c.d.def_ 37 (d := dd_Formatter_formatted) (by rfl)
    d_Logger_init := c.d.def_ 38 (d := dd_Logger_init) (by rfl)
    d_Yard_init := c.d.def_ 39 (d := dd_Yard_init) (by rfl)
    d_Yard_files := c.d.def_ 40 (d := dd_Yard_files) (by rfl)
    d_Yard_put_file := c.d.def_ 41 (d := dd_Yard_put_file) (by rfl)
    d_Yard_has_file := c.d.def_ 42 (d := dd_Yard_has_file) (by rfl)
    d_Yard_file_text := c.d.def_ 43 (d := dd_Yard_file_text) (by rfl)
    d_Yard_make_file := c.d.def_ 44 (d := dd_Yard_make_file) (by rfl)
    d_Yard_write_file := c.d.def_ 45 (d := dd_Yard_write_file) (by rfl)
    d_Yard_rename_file := c.d.def_ 46 (d := dd_Yard_rename_file) (by rfl)
    d_Yard_level_name := c.d.def_ 47 (d := dd_Yard_level_name) (by rfl)
    d_Yard_level_of := c.d.def_ 48 (d := dd_Yard_level_of) (by rfl)
    d_Yard_make_record := c.d.def_ 49 (d := dd_Yard_make_record) (by rfl)
    d_Yard_enrol := c.d.def_ 50 (d := dd_Yard_enrol) (by rfl)
    d_Yard_forget_name := c.d.def_ 51 (d := dd_Yard_forget_name) (by rfl)
    d_Yard_failures := c.d.def_ 52 (d := dd_Yard_failures) (by rfl)
    d__law_draw := c.d.def_ 53 (d := dd__law_draw) (by rfl)
    d__law_pick := c.d.def_ 54 (d := dd__law_pick) (by rfl)
    d__law_parts := c.d.def_ 55 (d := dd__law_parts) (by rfl)
    d__law_cut_right := c.d.def_ 56 (d := dd__law_cut_right) (by rfl)
    d_law := c.d.def_ 57 (d := dd_law) (by rfl)
    t_FIRST_NAMES := c.tb 0 (t := ("FIRST_NAMES", kv_FIRST_NAMES)) (by rfl) P
    t_FIRST_NUMBERS := c.tb 1 (t := ("FIRST_NUMBERS", kv_FIRST_NUMBERS)) (by rfl) P
    t_MESSAGE_ALONE := c.tb 2 (t := ("MESSAGE_ALONE", kv_MESSAGE_ALONE)) (by rfl) P
end K17

set_option Elab.async false
set_option linter.all false
set_option maxRecDepth 100000
set_option maxHeartbeats 4000000
/-! The head's facts over the objects that the module's names reach, level by level. -/
namespace RHd
open PySem PySem.Spec PyProof.Rows L2 He RB
/-- what the objects at a level name -/
def lvl (g : Addr → Option Obj) : Nat → List Addr → List Addr
  | 0, as => as
  | n + 1, as => as ++ lvl g n (as.flatMap fun a => match g a with
    | some o => (refsD o).filter fun b => !Nat.beq b a
    | none => [])
def asL (g : Addr → Option Obj) (n : Nat) : List Addr := lvl g n [mainGlobals]
def obsLG (n : Nat) (fa : List Fa) (fx : List Fx) (fn : List DefD) (ts : List Tb) (g : Addr → Option Obj) : AlB := obsB fa fx fn ts (frG g (extraB g fx (asL g n)))
def hookL (n : Nat) (fa : List Fa) (fx : List Fx) (fn : List DefD) (ts : List Tb) : PySem.W.Hook where
  α := AlB
  obs := fun s => obsLG n fa fx fn ts s.heap.get?
  val := fun w => valB fn ts w
  says := fun w h => ∃ K : PySem.W.Frag, K.In h ∧ SaysB fa fx fn ts w K
  of := fun _ _ e => ⟨_, frG_in, e⟩
  keeps := fun _ _ _ ⟨K, hK, c⟩ k => ⟨K, PySem.W.Frag.In.keeps hK k, c⟩
theorem obsLG_eq {n : Nat} {fa : List Fa} {fx : List Fx} {fn : List DefD} {ts : List Tb} {g : Addr → Option Obj} {s : Shared} (h : ∀ a, g a = s.heap.get? a) : obsLG n fa fx fn ts g = (hookL n fa fx fn ts).obs s := by
  have e : g = s.heap.get? := funext h
  rw [e] <;> rfl
end RHd

set_option Elab.async false
set_option linter.all false
set_option maxRecDepth 100000
set_option maxHeartbeats 0
namespace K17
open PySem PySem.Spec PyProof.Rows L2 RC
/-! ### the head -/
abbrev R : PySem.W.OpenRow := PySem.W.OpenLaw.row PySem.Challenge.rw_recordyard_k43_whole_rows_of_rotating_fi
abbrev hk : PySem.W.Hook := RHd.hookL 4 fa fx fn ts
def ob (s : PySem.W.SharedT) : RB.AlB := RHd.obsLG 4 fa fx fn ts (HandSHeadRun.getT s)
theorem ob_eq (s : PySem.W.SharedT) : ob s = hk.obs s.abs := RHd.obsLG_eq (HandSHeadRun.getT_eq s)
open HandSHeadRun PySem.W
abbrev AlR : Type := List (Option (List (Option (Key × Int)))) × Bool
noncomputable def fr (s : PySem.W.SharedT) : PySem.W.Frag := He.frG (HandSHeadRun.getT s) (RB.extraB (HandSHeadRun.getT s) fx (RHd.asL (HandSHeadRun.getT s) 4))
noncomputable def obD (s : PySem.W.SharedT) : He.AlD := He.obsD fa fn (fr s)
noncomputable def obR (s : PySem.W.SharedT) : AlR := (ts.map fun t => RB.tbRow (fr s) t.1, (fx.all fun f => f.ok (fr s)) && ts.all fun t => RB.tbVals (fr s) t)
noncomputable abbrev lk (w : World) (s : PySem.W.SharedT) : Bool := HandSHeadRun.looksF R.prog (boot_heap w.params) s.abs
noncomputable abbrev sn (s : PySem.W.SharedT) := HandSHeadRun.seenQ (PySem.W.view R.prog [74]) names (importedModules R.prog.main.body) (fun s => xlAt (PySem.W.view R.prog [74]) [] s && recOk R.toRowW.records s) s.abs
theorem join3 {S A B D C : Type} {o : Option S} {a : S → A} {b : S → B} {d : S → D} {r : S → C} {x : A} {y : B} {v : D} {z : C} (h1 : o.map (fun s => (a s, b s, r s)) = some (x, y, z)) (h2 : o.map d = some v) : o.map (fun s => (a s, b s, (d s, r s))) = some (x, y, (v, z)) := by
  cases o with
  | none => cases h1
  | some s =>
    have e1 := Option.some.inj h1
    have e2 := Option.some.inj h2
    injection e1 with p1 p2
    injection p2 with p2 p3
    show some (a s, b s, (d s, r s)) = _
    rw [p1, p2, p3, e2]
theorem r1_f (w : World) (os : OsState) : (HandSHeadRun.endF (HandSHeadRun.stepQ (HandSHeadRun.denQ tabQ) R.prog (w.withFollow "special-get-raises" false)) 15000 R.prog (w.withFollow "special-get-raises" false) os).map (fun s => (lk (w.withFollow "special-get-raises" false) s, sn s, obR s)) = some (true, openGood (PySem.W.view R.prog [74]) names, (ts.map fun t => RB.tbWant (w.withFollow "special-get-raises" false).params t.2, true)) := by
  kernel_rfl
theorem r2_f (w : World) (os : OsState) : (HandSHeadRun.endF (HandSHeadRun.stepQ (HandSHeadRun.denQ tabQ) R.prog (w.withFollow "special-get-raises" false)) 15000 R.prog (w.withFollow "special-get-raises" false) os).map obD = some (He.valD fn) := by
  kernel_rfl
theorem run_f (w : World) : HandSHeadRun.RunEq R (PySem.W.view R.prog [74]) hk ob 15000 names (w.withFollow "special-get-raises" false) := fun os => join3 (r1_f w os) (r2_f w os)
theorem r1_t (w : World) (os : OsState) : (HandSHeadRun.endF (HandSHeadRun.stepQ (HandSHeadRun.denQ tabQ) R.prog (w.withFollow "special-get-raises" true)) 15000 R.prog (w.withFollow "special-get-raises" true) os).map (fun s => (lk (w.withFollow "special-get-raises" true) s, sn s, obR s)) = some (true, openGood (PySem.W.view R.prog [74]) names, (ts.map fun t => RB.tbWant (w.withFollow "special-get-raises" true).params t.2, true)) := by
  kernel_rfl
theorem r2_t (w : World) (os : OsState) : (HandSHeadRun.endF (HandSHeadRun.stepQ (HandSHeadRun.denQ tabQ) R.prog (w.withFollow "special-get-raises" true)) 15000 R.prog (w.withFollow "special-get-raises" true) os).map obD = some (He.valD fn) := by
  kernel_rfl
theorem run_t (w : World) : HandSHeadRun.RunEq R (PySem.W.view R.prog [74]) hk ob 15000 names (w.withFollow "special-get-raises" true) := fun os => join3 (r1_t w os) (r2_t w os)
theorem run (w : World) : HandSHeadRun.RunEq R (PySem.W.view R.prog [74]) hk ob 15000 names w := PySem.W.byRow2 "special-get-raises" (P := fun w => HandSHeadRun.RunEq R (PySem.W.view R.prog [74]) hk ob 15000 names w) run_f run_t w
end K17

set_option Elab.async false
set_option linter.all false
set_option maxRecDepth 100000
set_option maxHeartbeats 4000000
/-! What changes: all but some places stay; what is apart from these places. -/
namespace RC
open PySem PySem.Spec PyProof.Rows L2
theorem yes_if {σ : L2.St} {H : Hp} {A B : Hp → Prop} (h : A H) : tYes σ H (fun b H3 => if b = true then A H3 else B H3) := by
  show if true = true then A H else B H
  rw [if_pos rfl]; exact h
theorem seq_of {a b : TS} {D : Ends} {σ : L2.St} {H : Hp} (Mid : L2.St → Hp → Prop) (hA : ∀ b' : TS, (∀ σ' H', Mid σ' H' → b' D σ' H') → tSeq a b' D σ H) (hB : ∀ σ' H', Mid σ' H' → b D σ' H') : tSeq a b D σ H := hA b hB
theorem free_same {H H' : Hp} {a : Addr} (s : Same H H') (h : H' a = none) : H a = none := by
  cases e : H a with
  | none => rfl
  | some o => rw [s _ _ e] at h; cases h
theorem cxK2 {CX : CXT} {P : Program} {w : World} {K : PySem.W.Frag} {mg : Str → Option Value} {base : Heap} {N : List Str} {qual : Str} {scope : Scope} {f : Addr} {cd : Value} {A : Around} {outer : List Env} {sh : Shared} {H : Hp} {E : XK} :
    (cxOf CX P w K mg base N qual scope f cd A outer sh H E).K = K := rfl
theorem cxK3 {CX : CXT} {P : Program} {w : World} {K : PySem.W.Frag} {mg : Str → Option Value} {base : Heap} {N : List Str} {qual : Str} {scope : Scope} {f : Addr} {cd : Value} {A : Around} {outer : List Env} {sh : Shared} {H : Hp} {E : XK} {p : Addr × Obj} :
    (L2H.cxH CX P w K mg base N qual scope f cd A outer sh H E p).K = K := rfl
theorem hu_hot {A : Around} {k : Nat} {h : Option Value} (hr : Room k A) : (A.mark h).units + 1 < cLine := (show A.units + 1 < cLine from hu_of hr)
/-- all that stands outside of ms is as it was -/
def Chg (ms : List Addr) (H H' : Hp) : Prop := ∀ b o, b ∉ ms → H b = some o → H' b = some o
section
variable {ms ns : List Addr} {H H' H'' G : Hp} {a b p : Addr} {o o' : HO}
theorem Chg.refl : Chg ms H H := fun _ _ _ e => e
theorem Chg.of (s : Same H H') : Chg ms H H' := fun b o _ e => s b o e
theorem Chg.trans (c : Chg ms H H') (d : Chg ms H' H'') : Chg ms H H'' := fun b o n e => d b o n (c b o n e)
theorem Chg.mono (c : Chg ms H H') (h : ∀ b ∈ ms, b ∈ ns) : Chg ns H H' := fun b o n e => c b o (fun z => n (h b z)) e
theorem Chg.put (h : a ∈ ms) : Chg ms H (upd H a o) := fun b u n e => by rw [upd_ne (fun z => n (by rw [z]; exact h))]; exact e
theorem Chg.sameR (c : Chg ms H H') (s : Same H' H'') : Chg ms H H'' := fun b o n e => s b o (c b o n e)
theorem Chg.sameL (s : Same H H') (c : Chg ms H' H'') : Chg ms H H'' := fun b o n e => c b o n (s b o e)
theorem Chg.new (c : Chg ms H H') (h : H a = none) : Chg ms H (upd H' a o) := fun b u n e => by rw [upd_ne (ne_of_none e h)]; exact c b u n e
theorem Chg.set (c : Chg ms H H') (h : a ∈ ms) : Chg ms H (upd H' a o) := c.trans (Chg.put h)
theorem nin1 (h : b ≠ a) : b ∉ [a] := fun z => h (List.mem_singleton.mp z)
theorem nin2 {c : Addr} (h : b ≠ a) (k : b ≠ c) : b ∉ [a, c] := fun z => (List.mem_cons.mp z).elim h fun z => k (List.mem_singleton.mp z)
/-- what an apart heap holds stays -/
theorem Chg.apart (c : Chg ms H H') (s : Same G H) (out : ∀ m ∈ ms, G m = none) : Same G H' := fun b o e => c b o (fun z => by rw [out b z] at e; cases e) (s b o e)
/-- the heap without some places -/
noncomputable def rst (S : Addr → Prop) (H : Hp) : Hp := open Classical in fun b => if S b then none else H b
variable {S S' : Addr → Prop}
theorem rst_same : Same (rst S H) H := fun b o e => by
  unfold rst at e
  split at e
  · cases e
  · exact e
theorem rst_at (h : H b = some o) (n : ¬ S b) : rst S H b = some o := by unfold rst; rw [if_neg n]; exact h
theorem rst_none (h : S b) : rst S H b = none := by unfold rst; rw [if_pos h]
theorem rst_next (c : ∀ b o, ¬ S b → H b = some o → H' b = some o) (h : ∀ b, S' b → S b ∨ H b = none) : Same (rst S H) (rst S' H') := fun b o e => by
  have e2 := rst_same _ _ e
  have n : ¬ S b := fun z => by rw [rst_none z] at e; cases e
  refine rst_at (c b o n e2) fun z => ?_
  rcases h b z with k | k
  · exact n k
  · rw [k] at e2; cases e2
end
end RC

set_option Elab.async false
set_option linter.all false
set_option maxRecDepth 100000
set_option maxHeartbeats 4000000
/-! Further rules: two lists of the same objects are equal; a text times an int. -/
namespace RX
open PySem PySem.Spec PyProof.Rows PySem.SeqAt L2
open RD
/-- two lists of objects that are the same, or of unlike lengths -/
def rEqLL (K : PySem.W.Frag) : R2 := fun x y H Q => ∃ (a b : Addr) (as bs : List Addr), x = .ref a ∧ y = .ref b ∧ SqL K H a (as.map V.ref) ∧ SqL K H b (bs.map V.ref) ∧ (as = bs ∨ as.length ≠ bs.length) ∧ Q (.bl (decide (as = bs))) H
def rNeLL (K : PySem.W.Frag) : R2 := fun x y H Q => ∃ (a b : Addr) (as bs : List Addr), x = .ref a ∧ y = .ref b ∧ SqL K H a (as.map V.ref) ∧ SqL K H b (bs.map V.ref) ∧ (as = bs ∨ as.length ≠ bs.length) ∧ Q (.bl (!decide (as = bs))) H
section
variable {X : Cx}
theorem size_ne {as bs : List Addr} (h : as.length ≠ bs.length) : ((as.map Value.ref).toArray.size != (bs.map Value.ref).toArray.size) = true := by simpa using h
theorem op_eqLL (hu : X.A.units < cLine) : OpR X (compareOp .Eq) (rEqLL X.K) := by
  intro pins s σ H x y v u Q I rx ry h
  obtain ⟨a, b, as, bs, rfl, rfl, ha, hb, c, q⟩ := h
  cases rx
  cases ry
  obtain ⟨its, rv, hl, _⟩ := I.list ha
  obtain ⟨its2, rv2, hl2, _⟩ := I.list hb
  obtain rfl := vals_refs rv
  obtain rfl := vals_refs rv2
  rcases c with rfl | c
  · refine eq_listAt (e := fun _ => true) hl.isList hl2.isList rfl hu (fun j h1 h2 => EqAt.same _) ?_
    rw [all_true]
    rw [decide_eq_true rfl] at q
    exact fin_bl I q rfl
  · rw [decide_eq_false (fun z => c (by rw [z]))] at q
    exact eq_list_lengthsAt hl.isList hl2.isList (size_ne c) hu (fin_bl I q rfl)
theorem op_neLL (hu : X.A.units < cLine) : OpR X (compareOp .NotEq) (rNeLL X.K) := by
  intro pins s σ H x y v u Q I rx ry h
  obtain ⟨a, b, as, bs, rfl, rfl, ha, hb, c, q⟩ := h
  cases rx
  cases ry
  obtain ⟨its, rv, hl, _⟩ := I.list ha
  obtain ⟨its2, rv2, hl2, _⟩ := I.list hb
  obtain rfl := vals_refs rv
  obtain rfl := vals_refs rv2
  rcases c with rfl | c
  · refine RcNeAt.lists (e := fun _ => true) hl.isList hl2.isList rfl hu (fun j h1 h2 => EqAt.same _) X.prog X.w X.xe _ ?_
    rw [all_true]
    rw [decide_eq_true rfl] at q
    exact fin_bl I q rfl
  · rw [decide_eq_false (fun z => c (by rw [z]))] at q
    exact RcNeAt.lists_lengths hl.isList hl2.isList (size_ne c) hu X.prog X.w X.xe _ (fin_bl I q rfl)
end
end RX

set_option Elab.async false
set_option linter.all false
set_option maxRecDepth 100000
set_option maxHeartbeats 4000000
/-! How long the text of a number is. -/
namespace RN
open PySem PySem.Spec PyProof.Rows L2
theorem log2_div (n : Nat) (h : 10 ≤ n) : (n / 10).log2 + 1 ≤ n.log2 := by
  have h1 : n / 10 ≤ n / 2 := by omega
  have h2 : n / 10 ≠ 0 := by omega
  have h3 : n ≠ 0 := by omega
  have h4 := Nat.log2_self_le h2
  have h5 : 2 ^ ((n / 10).log2 + 1) ≤ n := by rw [Nat.pow_succ]; omega
  exact (Nat.le_log2 h3).mpr h5
theorem len_numL (n : Nat) : (TL.numL n).length ≤ n.log2 + 1 := by
  induction n using Nat.strongRecOn with
  | ind n ih =>
    by_cases h : n < 10
    · rw [TL.numL_lt h]; simp
    · have h : 10 ≤ n := by omega
      rw [TL.numL_step h, List.length_append]
      have := ih (n / 10) (by omega)
      have := log2_div n h
      simp only [List.length_singleton]
      omega
theorem len_toString (i : Int) : (Str.ofString (toString i)).length ≤ i.natAbs.log2 + 2 := by
  cases i with
  | ofNat n =>
    have e := TL.tl_num n
    rw [TL.len_tl]
    show (TL.tl (Str.ofString (toString ((n : Nat) : Int)))).length ≤ _
    rw [e]
    have := len_numL n
    show _ ≤ n.log2 + 2
    omega
  | negSucc n =>
    have e := TL.tl_num (n + 1)
    have e2 : toString (Int.negSucc n) = "-" ++ toString (((n + 1 : Nat)) : Int) := rfl
    rw [TL.len_tl, e2]
    have e3 : TL.tl (Str.ofString ("-" ++ toString (((n + 1 : Nat)) : Int))) = 45 :: TL.tl (Str.ofString (toString (((n + 1 : Nat)) : Int))) := by
      show (Str.ofString _).cps.toList = 45 :: (Str.ofString _).cps.toList
      rw [signs_ofString, signs_ofString, String.toList_append, List.map_append]; rfl
    rw [e3, e, List.length_cons]
    have := len_numL (n + 1)
    show _ ≤ (n + 1).log2 + 2
    omega
end RN

set_option Elab.async false
set_option linter.all false
set_option maxRecDepth 100000
set_option maxHeartbeats 4000000
/-! Further rules: a list and an empty one. -/
namespace RY
open PySem PySem.Spec PyProof.Rows PySem.SeqAt L2
open RD
def rEqE (K : PySem.W.Frag) : R2 := fun x y H Q => ∃ (a b : Addr) (xs : List V), x = .ref a ∧ y = .ref b ∧ SqL K H a xs ∧ SqL K H b [] ∧ Q (.bl (xs.isEmpty)) H
def rNeE (K : PySem.W.Frag) : R2 := fun x y H Q => ∃ (a b : Addr) (xs : List V), x = .ref a ∧ y = .ref b ∧ SqL K H a xs ∧ SqL K H b [] ∧ Q (.bl (!xs.isEmpty)) H
section
variable {X : Cx}
theorem vals_nil {us : List Value} (h : Vals [] us) : us = [] := by cases h; rfl
theorem vals_cons {x : V} {xs : List V} {us : List Value} (h : Vals (x :: xs) us) : (us.toArray.size != (([] : List Value)).toArray.size) = true := by cases h; simp
theorem op_eqE (hu : X.A.units < cLine) : OpR X (compareOp .Eq) (rEqE X.K) := by
  intro pins s σ H x y v u Q I rx ry h
  obtain ⟨a, b, xs, rfl, rfl, ha, hb, q⟩ := h
  cases rx
  cases ry
  obtain ⟨its, rv, hl, _⟩ := I.list ha
  obtain ⟨its2, rv2, hl2, _⟩ := I.list hb
  obtain rfl := vals_nil rv2
  cases xs with
  | nil =>
    obtain rfl := vals_nil rv
    refine eq_listAt (e := fun _ => true) hl.isList hl2.isList rfl hu (fun j h1 h2 => EqAt.same _) ?_
    rw [all_true]
    exact fin_bl I q rfl
  | cons x xs => exact eq_list_lengthsAt hl.isList hl2.isList (vals_cons rv) hu (fin_bl I q rfl)
theorem op_neE (hu : X.A.units < cLine) : OpR X (compareOp .NotEq) (rNeE X.K) := by
  intro pins s σ H x y v u Q I rx ry h
  obtain ⟨a, b, xs, rfl, rfl, ha, hb, q⟩ := h
  cases rx
  cases ry
  obtain ⟨its, rv, hl, _⟩ := I.list ha
  obtain ⟨its2, rv2, hl2, _⟩ := I.list hb
  obtain rfl := vals_nil rv2
  cases xs with
  | nil =>
    obtain rfl := vals_nil rv
    refine RcNeAt.lists (e := fun _ => true) hl.isList hl2.isList rfl hu (fun j h1 h2 => EqAt.same _) X.prog X.w X.xe _ ?_
    rw [all_true]
    exact fin_bl I q rfl
  | cons x xs => exact RcNeAt.lists_lengths hl.isList hl2.isList (vals_cons rv) hu X.prog X.w X.xe _ (fin_bl I q rfl)

def flatW : V → Bool
  | .int _ => true
  | .bl _ => true
  | .str _ => true
  | .non => true
  | .ref _ => true
  | _ => false
/-- two lists of the same plain values -/
def rEqV (K : PySem.W.Frag) : R2 := fun x y H Q => ∃ (a b : Addr) (xs : List V), x = .ref a ∧ y = .ref b ∧ SqL K H a xs ∧ SqL K H b xs ∧ xs.all flatW = true ∧ Q (.bl true) H
def rNeV (K : PySem.W.Frag) : R2 := fun x y H Q => ∃ (a b : Addr) (xs : List V), x = .ref a ∧ y = .ref b ∧ SqL K H a xs ∧ SqL K H b xs ∧ xs.all flatW = true ∧ Q (.bl false) H
theorem eq_same {A : Around} {s : Shared} {x : V} {u u' : Value} (h : RelV x u) (h' : RelV x u') (hf : flatW x = true) : EqAt A s u u' true := by
  cases x with
  | int i =>
    obtain ⟨t, rfl⟩ := h
    obtain ⟨t', rfl⟩ := h'
    have e := EqAt.int_int (A := A) (s := s) i t i t'
    rw [beq_self_eq_true] at e; exact e
  | str i =>
    obtain ⟨t, rfl⟩ := h
    obtain ⟨t', rfl⟩ := h'
    have e := EqAt.str_str (A := A) (s := s) i t i t'
    rw [beq_self_eq_true] at e; exact e
  | bl b => cases h; cases h'; exact EqAt.same _
  | non => cases h; cases h'; exact EqAt.same _
  | ref a => cases h; cases h'; exact EqAt.same _
  | _ => cases hf
theorem eq_all {A : Around} {s : Shared} : ∀ {xs : List V} {us us' : List Value}, Vals xs us → Vals xs us' → xs.all flatW = true → us.length = us'.length ∧ ∀ (j : Nat) (h1 : j < us.length) (h2 : j < us'.length), EqAt A s us[j] us'[j] true
  | [], _, _, .nil, .nil, _ => ⟨rfl, fun j h1 _ => absurd h1 (Nat.not_lt_zero _)⟩
  | x :: xs, _, _, .cons h t, .cons h' t', hf => by
    rw [List.all_cons, Bool.and_eq_true] at hf
    have ih := eq_all (A := A) (s := s) t t' hf.2
    refine ⟨congrArg (· + 1) ih.1, fun j h1 h2 => ?_⟩
    cases j with
    | zero => exact eq_same h h' hf.1
    | succ j => exact ih.2 j (Nat.lt_of_succ_lt_succ h1) (Nat.lt_of_succ_lt_succ h2)
theorem all_tt (n : Nat) : (List.range n).all (fun _ => true) = true := by simp
theorem op_eqV (hu : X.A.units < cLine) : OpR X (compareOp .Eq) (rEqV X.K) := by
  intro pins s σ H x y v u Q I rx ry h
  obtain ⟨a, b, xs, rfl, rfl, ha, hb, hf, q⟩ := h
  cases rx
  cases ry
  obtain ⟨its, rv, hl, _⟩ := I.list ha
  obtain ⟨its2, rv2, hl2, _⟩ := I.list hb
  have e := eq_all (A := X.A.in1) (s := s) rv rv2 hf
  refine eq_listAt (e := fun _ => true) hl.isList hl2.isList (by simpa using e.1) hu (fun j h1 h2 => by simpa using e.2 j (by simpa using h1) (by simpa using h2)) ?_
  rw [all_tt]
  exact fin_bl I q rfl
theorem op_neV (hu : X.A.units < cLine) : OpR X (compareOp .NotEq) (rNeV X.K) := by
  intro pins s σ H x y v u Q I rx ry h
  obtain ⟨a, b, xs, rfl, rfl, ha, hb, hf, q⟩ := h
  cases rx
  cases ry
  obtain ⟨its, rv, hl, _⟩ := I.list ha
  obtain ⟨its2, rv2, hl2, _⟩ := I.list hb
  have e := eq_all (A := X.A.in1) (s := s) rv rv2 hf
  refine RcNeAt.lists (e := fun _ => true) hl.isList hl2.isList (by simpa using e.1) hu (fun j h1 h2 => by simpa using e.2 j (by simpa using h1) (by simpa using h2)) X.prog X.w X.xe _ ?_
  rw [all_tt]
  exact fin_bl I q rfl
end
end RY

set_option Elab.async false
set_option linter.all false
set_option maxRecDepth 100000
set_option maxHeartbeats 0
namespace K17
open PySem PySem.Spec PyProof.Rows L2 RC
section
variable {P : Program} {w : World} {K : PySem.W.Frag} {mg : Str → Option Value} {base : Heap}
theorem dp_ints {K : PySem.W.Frag} {H : Hp} : ∀ ns : List Int, DpAll K H (ns.map V.int) (ns.map PyData.int)
  | [] => .nil
  | n :: r => .cons (.int n) (dp_ints r)
theorem can_ints : ∀ ns : List Int, PyData.canLayAll0 (ns.map PyData.int) = true
  | [] => by simp [PyData.canLayAll0]
  | n :: r => by simp [PyData.canLayAll0, PyData.canLay0, can_ints r]
theorem dep_ints : ∀ ns : List Int, PyData.depthAll (ns.map PyData.int) = 0
  | [] => by simp [PyData.depthAll]
  | n :: r => by simp [PyData.depthAll, PyData.depth, dep_ints r]
theorem sh_ints (ns : List Int) : SeqAt.shaped (.list (ns.map PyData.int)) = true := by
  unfold SeqAt.shaped
  simp [PyData.canLay0, PyData.depth, can_ints, dep_ints]
theorem seq0 (v : Int) (r : List Int) : seqIndex? 0 ((v :: r).map V.int).length = some 0 := by
  unfold seqIndex?
  simp
def spDraw : Sp := fun vs H Q _ => ∃ (s l : Addr) (n : Nat) (many : Int), vs = [.ref s, .int many] ∧ Stm H s l n ∧ n ≤ 1000000 ∧ 1 ≤ many ∧ many < 1073741824 ∧
  ∀ (H' : Hp) (d : Int), Old s l H H' → Stm H' s l (n + 1) → 0 ≤ d → d < many → Q (.int d) H'
theorem old_upd {s l : Addr} {H H' : Hp} {a : Addr} {o : HO} (h : Old s l H H') (ha : a = s ∨ a = l ∨ H' a = none) : Old s l H (upd H' a o) := fun b u h1 h2 e => by
  have e2 := h b u h1 h2 e
  have hb : b ≠ a := by
    rintro rfl
    rcases ha with z | z | z
    · exact h1 z
    · exact h2 z
    · rw [z] at e2; cases e2
  rw [upd_ne hb]; exact e2
theorem stm_small {d c : Int} (h : 0 ≤ d) (h1 : d < 2147483647) (h2 : 0 ≤ c) (h3 : c ≤ 1000001) : (d + 104729 * c + 17).natAbs < 2 ^ 64 := by omega
theorem stm_small2 {m c : Int} (h : 0 ≤ m) (h1 : m < 2147483629) (h2 : 0 ≤ c) (h3 : c ≤ 1000001) : (m * 48271 + 40503 * c * c + 13).natAbs < 2 ^ 64 := by
  have q1 : 0 ≤ 40503 * c * c := Int.mul_nonneg (by omega) h2
  have q2 : 40503 * c * c ≤ 40503 * c * 1000001 := Int.mul_le_mul_of_nonneg_left h3 (by omega)
  omega
theorem ok_draw {f : Addr} (T : Txt P w K mg) (F : Stands K "_law_draw" "_law_draw" s__law_draw [] f) : Callable P w K mg base 1 f ["_law_stream", "_law_many"] [] spDraw := by
  refine F.call0 sc__law_draw (fun vs H Q E h => ?_) (fun cdv A outer s H vs Q E hr h => ?_) (fun _ _ _ _ _ _ us hl => match us, hl with | [_, _], _ => rfl)
  · obtain ⟨s, l, n, m, rfl, _⟩ := h
    rfl
  obtain ⟨p, l, n, many, rfl, hS, hn, hm1, hm2, hQ⟩ := h
  refine ⟨_, (pss_cons (ps_while PassesOwn.never (PW.pt (pw_and (pt_cmpR op_eq (pe_ix ix_list (pv 0) pe_int (fun _ _ => rfl)) pe_int (nomark _)) (pw_and1 (pt_cmpR (op_neD hr.units) (pe_ix ix_list (pv 0) pe_int (fun _ _ => rfl)) (pe_lst pa_nil) (nomark _))))) (pss_cons (ps_asg (pe_bm PySem.F.plainAttrs_list PySem.F.slot_list_pop PySem.F.type_list_pop mt_popAt (pe_ix ix_list (pv 0) pe_int (fun _ _ => rfl)) (pa_cons pe_int pa_nil)) (pg_sub (pv 0) pe_int set_list))
      (pss_one (ps_if (pt_cmpR op_lt (pe_ix ix_list (pv 0) pe_int (fun _ _ => rfl)) (pe_op op_pow pe_int pe_int) (nomark _)) (pss_cons (ps_asg (pe_op op_mod (pe_callTy call_int1 (by rfl) T.b_int (by decide +kernel) (pa_cons (pe_op op_add (pe_op op_add (pe_op op_mul (pe_ix ix_list (pv 0) pe_int (fun _ _ => rfl)) pe_int) (pe_ix ix_list (pv 0) pe_int (fun _ _ => rfl))) pe_int) pa_nil)) pe_int) (pg_sub (pv 0) pe_int set_list))
      (pss_one (ps_asg pe_int (pg_sub (pv 0) pe_int set_list)))) pss_nil))))
      (pss_cons (ps_if (pt_cmpR op_gt (pe_ix ix_list (pv 0) pe_int (fun _ _ => rfl)) pe_int (nomark _)) (pss_cons (ps_set (i := 2) sc__law_draw.nd rfl (by first | exact Or.inl rfl | exact Or.inr rfl) (pe_op op_mod (pe_callTy call_int1 (by rfl) T.b_int (by decide +kernel) (pa_cons (pe_ix ix_list (pv 0) pe_int (fun _ _ => rfl)) pa_nil)) (pv 1)))
      (pss_cons (ps_asg (pe_op op_fdiv (pe_ix ix_list (pv 0) pe_int (fun _ _ => rfl)) (pv 1)) (pg_sub (pv 0) pe_int set_list))
      (pss_one (ps_ret (pv 2))))) pss_nil)
      (pss_cons (ps_asg (pe_op op_add (pe_ix ix_list (pv 0) pe_int (fun _ _ => rfl)) pe_int) (pg_sub (pv 0) pe_int set_list))
      (pss_cons (ps_set (i := 3) sc__law_draw.nd rfl (by first | exact Or.inl rfl | exact Or.inr rfl) (pe_op op_mod (pe_callTy call_int1 (by rfl) T.b_int (by decide +kernel) (pa_cons (pe_op op_pow (pe_op op_add (pe_op op_add (pe_ix ix_list (pv 0) pe_int (fun _ _ => rfl)) (pe_op op_mul pe_int (pe_ix ix_list (pv 0) pe_int (fun _ _ => rfl)))) pe_int) pe_int) pa_nil)) pe_int))
      (pss_cons (ps_set (i := 4) sc__law_draw.nd rfl (by first | exact Or.inl rfl | exact Or.inr rfl) (pe_op op_mod (pe_callTy call_int1 (by rfl) T.b_int (by decide +kernel) (pa_cons (pe_op op_pow (pe_op op_add (pe_op op_add (pe_op op_mul (pv 3) pe_int) (pe_op op_mul (pe_op op_mul pe_int (pe_ix ix_list (pv 0) pe_int (fun _ _ => rfl))) (pe_ix ix_list (pv 0) pe_int (fun _ _ => rfl)))) pe_int) pe_int) pa_nil)) pe_int))
      (pss_one (ps_ret (pe_op op_mod (pe_callTy call_int1 (by rfl) T.b_int (by decide +kernel) (pa_cons (pv 4) pa_nil)) (pv 1))))))))), ?_⟩
  obtain ⟨hne, ns, x, c, d, h1, h2, h3, h4, h5, h6, h7, h8⟩ := hS
  refine ⟨fun m σ H' => σ = [some (.ref p), some (.int many), none, none, none] ∧ Old p l H H' ∧ ∃ (ns : List Int) (x c d : Int), m = ns.length ∧ H' p = some (.lst [.ref l, .int x, .int c, .int d]) ∧ H' l = some (.lst (ns.map V.int)) ∧ ns.length ≤ 63 ∧ 0 ≤ x ∧ 0 ≤ c ∧ c ≤ n ∧ 0 ≤ d ∧ d < 2147483647,
    ⟨_, rfl, Old.refl _, ns, x, c, d, rfl, h1, h2, h3, h4, h5, h6, h7, h8⟩, ?_⟩
  clear h1 h2 h3 h4 h5 h6 h7 h8 ns x c d
  rintro m σ H1 ⟨rfl, hO, ns, x, c, d, rfl, h1, h2, h3, h4, h5, h6, h7, h8⟩
  refine ⟨_, rfl, p, _, _, _, rfl, rfl, SqL.of h1, rfl, rfl, _, rfl, ?_⟩
  by_cases hx : x = 0
  · subst hx
    refine iteT' (decide_eq_true rfl) ?_
    refine ⟨_, rfl, p, _, _, _, rfl, rfl, SqL.of h1, rfl, (by show 0 ≤ sizeLine; decide), fun q hq => ?_⟩
    have g1 : upd H1 q (.lst []) p = some (.lst [.ref l, .int 0, .int c, .int d]) := by rw [upd_ne (ne_of_none h1 hq)]; exact h1
    have g2 : upd H1 q (.lst []) l = some (.lst (ns.map V.int)) := by rw [upd_ne (ne_of_none h2 hq)]; exact h2
    have gO : Old p l H (upd H1 q (.lst [])) := old_upd hO (.inr (.inr hq))
    refine ⟨_, _, Dp.lst (SqL.of g2) (dp_ints ns), Dp.lst (SqL.of upd_same) .nil, sh_ints ns, by decide +kernel, _, rfl, ?_⟩
    generalize upd H1 q (.lst []) = H2 at g1 g2 gO
    cases ns with
    | cons v r =>
      refine iteT' (by rfl) ?_
      refine ⟨fun σ' H' => ∃ m', m' < (v :: r).length ∧ (σ' = [some (.ref p), some (.int many), none, none, none] ∧ Old p l H H' ∧ ∃ (ns : List Int) (x c d : Int), m' = ns.length ∧ H' p = some (.lst [.ref l, .int x, .int c, .int d]) ∧ H' l = some (.lst (ns.map V.int)) ∧ ns.length ≤ 63 ∧ 0 ≤ x ∧ 0 ≤ c ∧ c ≤ n ∧ 0 ≤ d ∧ d < 2147483647), fun σ' H' z => z, ?_⟩
      -- s[1] = s[0].pop(0)
      refine ⟨_, rfl, p, _, _, _, rfl, rfl, SqL.of g1, rfl, .inl ⟨rfl, _, SqL.of g2⟩, l, (v :: r).map V.int, 0, 0, .int v, rfl, rfl, g2, by decide, by decide, seq0 _ _, rfl, ?_⟩
      generalize e3 : upd H2 l _ = H3
      have k1 : H3 p = some (.lst [.ref l, .int 0, .int c, .int d]) := by rw [← e3, upd_ne hne]; exact g1
      have kO : Old p l H H3 := by rw [← e3]; exact old_upd gO (.inr (.inl rfl))
      have k2 : H3 l = some (.lst (r.map V.int)) := by rw [← e3]; exact upd_same
      clear e3
      refine ⟨_, rfl, p, _, 1, 1, rfl, rfl, k1, rfl, ?_⟩
      generalize e4 : upd H3 p _ = H4
      have j1 : H4 p = some (.lst [.ref l, .int v, .int c, .int d]) := by rw [← e4]; exact upd_same
      have j2 : H4 l = some (.lst (r.map V.int)) := by rw [← e4, upd_ne (Ne.symm hne)]; exact k2
      have jO : Old p l H H4 := by rw [← e4]; exact old_upd kO (.inl rfl)
      clear e4
      have hl : r.length ≤ 63 := Nat.le_of_succ_le h3
      refine ⟨_, rfl, p, _, _, _, rfl, rfl, SqL.of j1, rfl, _, _, rfl, rfl, ⟨by decide, by decide, by decide⟩, _, _, rfl, rfl, _, rfl, ?_⟩
      refine ite2 (fun hv => ?_) (fun hv => ?_)
      · -- s[3] = int(..) % 2147483647
        refine ⟨_, rfl, p, _, _, _, rfl, rfl, SqL.of j1, rfl, _, _, rfl, rfl, .inr ⟨by decide, by decide⟩, _, rfl, p, _, _, _, rfl, rfl, SqL.of j1, rfl, _, _, rfl, rfl, _, _, rfl, rfl, .inl ⟨_, rfl, _, _, rfl, rfl, (by show (0 : Int) < 2147483647; decide), _, rfl, p, _, 3, 3, rfl, rfl, j1, rfl, ?_⟩⟩
        have m1 := Int.emod_nonneg (d * 31 + v + 7) (show (2147483647 : Int) ≠ 0 by decide)
        have m2 := Int.emod_lt_of_pos (d * 31 + v + 7) (show (0 : Int) < 2147483647 by decide)
        refine ⟨_, rfl, p, _, 1, 1, rfl, rfl, upd_same, rfl, r.length, Nat.lt_succ_self _, rfl, old_upd (old_upd jO (.inl rfl)) (.inl rfl), r, 0, c, (d * 31 + v + 7) % 2147483647, rfl, upd_same, ?_, hl, Int.le_refl 0, h5, h6, m1, m2⟩
        rw [upd_ne (Ne.symm hne), upd_ne (Ne.symm hne)]; exact j2
      · have hv : 10 ^ 18 ≤ v := by
          have z : ¬ v < 10 ^ (18 : Int).toNat := fun z => hv (decide_eq_true z)
          have e : (18 : Int).toNat = 18 := rfl
          rw [e] at z; omega
        exact ⟨r.length, Nat.lt_succ_self _, rfl, jO, r, v, c, d, rfl, j1, j2, hl, by omega, h5, h6, h7, h8⟩
    | nil =>
      refine iteF' (by rfl) ?_
      refine ⟨_, rfl, p, _, _, _, rfl, rfl, SqL.of g1, rfl, _, _, rfl, rfl, _, rfl, ?_⟩
      refine iteF' (by rfl) ?_
      -- s[2] = s[2] + 1
      refine ⟨_, rfl, p, _, _, _, rfl, rfl, SqL.of g1, rfl, _, _, rfl, rfl, _, rfl, p, _, 2, 2, rfl, rfl, g1, rfl, ?_⟩
      generalize e3 : upd H2 p _ = H3
      have a1 : H3 p = some (.lst [.ref l, .int 0, .int (c + 1), .int d]) := by rw [← e3]; exact upd_same
      have a2 : H3 l = some (.lst (([] : List Int).map V.int)) := by rw [← e3, upd_ne (Ne.symm hne)]; exact g2
      have aO : Old p l H H3 := by rw [← e3]; exact old_upd gO (.inl rfl)
      have hc : c + 1 ≤ 1000001 := by omega
      clear e3
      refine ⟨_, rfl, p, _, _, _, rfl, rfl, SqL.of a1, rfl, _, rfl, p, _, _, _, rfl, rfl, SqL.of a1, rfl, _, _, rfl, rfl, .inl ⟨by decide, by decide⟩, _, _, rfl, rfl, _, _, rfl, rfl, _, _, rfl, rfl, ⟨by decide, by decide, stm_small h7 h8 (by omega) hc⟩, .inl ⟨_, rfl, _, _, rfl, rfl, (by show (0 : Int) < 2147483629; decide), ?_⟩⟩
      have m1 := Int.emod_nonneg ((d + 104729 * (c + 1) + 17) ^ (5 : Int).toNat) (show (2147483629 : Int) ≠ 0 by decide)
      have m2 := Int.emod_lt_of_pos ((d + 104729 * (c + 1) + 17) ^ (5 : Int).toNat) (show (0 : Int) < 2147483629 by decide)
      refine ⟨_, rfl, _, _, rfl, rfl, .inr ⟨by decide, by decide⟩, _, rfl, p, _, _, _, rfl, rfl, SqL.of a1, rfl, _, _, rfl, rfl, .inl ⟨by decide, by decide⟩, _, rfl, p, _, _, _, rfl, rfl, SqL.of a1, rfl, _, _, rfl, rfl, .inr ⟨by omega, by omega⟩, _, _, rfl, rfl, _, _, rfl, rfl, _, _, rfl, rfl, ⟨by decide, by decide, stm_small2 m1 m2 (by omega) hc⟩, .inl ⟨_, rfl, _, _, rfl, rfl, (by show (0 : Int) < 1000000007; decide), ?_⟩⟩
      refine ⟨_, rfl, .inl ⟨_, rfl, _, rfl, _, _, rfl, rfl, (by show (0 : Int) < many; omega), ?_⟩⟩
      exact hQ _ _ aO ⟨hne, [], 0, c + 1, d, a1, a2, Nat.zero_le _, Int.le_refl 0, by omega, by omega, h7, h8⟩ (Int.emod_nonneg _ (by omega)) (Int.emod_lt_of_pos _ (by omega))
  · refine iteF' (decide_eq_false fun z => hx (V.int.inj z)) ?_
    have hx1 : 0 < x := by omega
    refine ⟨_, rfl, p, _, _, _, rfl, rfl, SqL.of h1, rfl, _, _, rfl, rfl, _, rfl, ?_⟩
    refine iteT' (decide_eq_true hx1) ?_
    refine ⟨_, rfl, p, _, _, _, rfl, rfl, SqL.of h1, rfl, .inl ⟨_, rfl, _, rfl, _, _, rfl, rfl, (by show (0 : Int) < many; omega), ?_⟩⟩
    refine ⟨_, rfl, p, _, _, _, rfl, rfl, SqL.of h1, rfl, _, rfl, _, _, rfl, rfl, ⟨by omega, by omega⟩, _, rfl, p, _, 1, 1, rfl, rfl, h1, rfl, _, rfl, ?_⟩
    refine hQ _ _ (old_upd hO (.inl rfl)) ⟨hne, ns, x / many, c, d, upd_same, by rw [upd_ne (Ne.symm hne)]; exact h2, h3, Int.ediv_nonneg h4 (by omega), h5, by omega, h7, h8⟩ (Int.emod_nonneg _ (by omega)) (Int.emod_lt_of_pos _ (by omega))
end
end K17

set_option Elab.async false
set_option linter.all false
set_option maxRecDepth 100000
set_option maxHeartbeats 0
namespace K17
open PySem PySem.Spec PyProof.Rows L2 RC
section
variable {P : Program} {w : World} {K : PySem.W.Frag} {mg : Str → Option Value} {base : Heap}
/-- all but p is as it was -/
def SameBut (p : Addr) (H H' : Hp) : Prop := ∀ b o, b ≠ p → H b = some o → H' b = some o
theorem SameBut.trans {p : Addr} {H H1 H2 : Hp} (a : SameBut p H H1) (b : SameBut p H1 H2) : SameBut p H H2 := fun c o h e => b c o h (a c o h e)
theorem SameBut.of {p : Addr} {H H' : Hp} (a : Same H H') : SameBut p H H' := fun c o _ e => a c o e
theorem SameBut.put {p : Addr} {H : Hp} {o : HO} : SameBut p H (upd H p o) := fun c u h e => by rw [upd_ne h]; exact e
theorem made_same {H H' : Hp} {x dx C : Addr} {o : HO} {fs : List (Str × V)} (hx : H x = none) (hd : H dx = none) (b : SameBut x (upd (upd H dx o) x (.ins C dx fs)) H') : Same H H' := fun c u e => by
  have h1 : c ≠ x := ne_of_none e hx
  have h2 : c ≠ dx := ne_of_none e hd
  exact b c u h1 (by rw [upd_ne h1, upd_ne h2]; exact e)
def spFiltererInit (K : PySem.W.Frag) : Sp := fun vs H Q _ => ∃ (C p dx : Addr) (fs : List (Str × V)), vs = [.ref p] ∧ H p = some (.ins C dx fs) ∧ Cls K C ∧ NoAttr K C "filters" ∧ fs.length < 100 ∧ ∀ l, H l = none → Q .non (upd (upd H l (.lst [])) p (.ins C dx (putF "filters" (.ref l) fs)))
theorem ok_filterer_init {f : Addr} (T : Txt P w K mg) (F : Stands K "__init__" "Filterer.__init__" s_Filterer_init [] f) : Callable P w K mg base 1 f ["self"] [] (spFiltererInit K) := by
  refine F.call0 sc_Filterer_init (fun vs H Q E h => ?_) (fun cdv A outer s H vs Q E hr h => ?_) (fun _ _ _ _ _ _ us hl => match us, hl with | [_], _ => rfl)
  · obtain ⟨C, p, dx, fs, rfl, _⟩ := h; rfl
  obtain ⟨C, p, dx, fs, rfl, hp, c, n, hl, hQ⟩ := h
  refine ⟨_, (pss_one (ps_fld (pv 0) (pe_lst pa_nil) rfl)), ?_⟩
  refine ⟨(by show 0 ≤ sizeLine; decide), fun l hl' => ?_⟩
  exact ⟨_, rfl, p, C, dx, fs, rfl, (by rw [upd_ne (ne_of_none hp hl')]; exact hp), c, n, (by omega), hQ l hl'⟩
end
end K17

set_option Elab.async false
set_option linter.all false
set_option maxRecDepth 100000
set_option maxHeartbeats 0
namespace K17
open PySem PySem.Spec PyProof.Rows L2 RC
section
variable {P : Program} {w : World} {K : PySem.W.Frag} {mg : Str → Option Value} {base : Heap}
/-! ### what is made -/
abbrev CY (K : PySem.W.Frag) : Addr := He.ga K "Yard"
abbrev CL (K : PySem.W.Frag) : Addr := He.ga K "Logger"
def spEnrol (K : PySem.W.Frag) : Sp := fun vs H Q _ => ∃ (y h dy m : Addr) (fs : List (Str × V)) (xs : List V), vs = [.ref y, .ref h] ∧ H y = some (.ins (CY K) dy fs) ∧ fs.lookup ("made" : Str) = some (.ref m) ∧ H m = some (.lst xs) ∧ xs.length ≤ 1000 ∧ Q .non (upd H m (.lst (xs ++ [.ref h])))
theorem ok_enrol {f : Addr} (T : Txt P w K mg) (F : Stands K "enrol" "Yard.enrol" s_Yard_enrol [] f) : Callable P w K mg base 1 f ["self", "handler"] [] (spEnrol K) := by
  refine F.call0 sc_Yard_enrol (fun vs H Q E h => ?_) (fun cdv A outer s H vs Q E hr h => ?_) (fun _ _ _ _ _ _ us hl => match us, hl with | [_, _], _ => rfl)
  · obtain ⟨y, h, dy, m, fs, xs, rfl, _⟩ := h; rfl
  obtain ⟨y, h, dy, m, fs, xs, rfl, h1, h2, h3, h4, hQ⟩ := h
  refine ⟨_, (pss_one (ps_expr (pe_bm PySem.F.plainAttrs_list PySem.F.slot_list_append PySem.F.type_list_append mt_append (pe_fld (pv 0) rfl) (pa_cons (pv 1) pa_nil)))), ?_⟩
  exact ⟨_, rfl, y, _, dy, fs, _, rfl, h1, T.c_Yard, T.n_Yard_made, h2, .inl ⟨rfl, _, SqL.of h3⟩, _, rfl, m, _, _, rfl, rfl, h3, (by rw [sizeLine_eq]; omega), hQ⟩
/-- what the text says of a class of handlers -/
structure HCls (K : PySem.W.Frag) (C : Addr) : Prop where
  c : Cls K C
  n1 : NoAttr K C "filters"
  n2 : NoAttr K C "yard"
  n3 : NoAttr K C "level"
  n4 : NoAttr K C "formatter"
  n5 : NoAttr K C "name"
  n6 : NoAttr K C "terminator"
  n7 : NoAttr K C "closed"
def hF (l y : Addr) : List (Str × V) := [("filters", .ref l), ("yard", .ref y), ("level", .int 0), ("formatter", .non), ("name", .non), ("terminator", .str "\n"), ("closed", .bl false)]
/-- a handler at p was made: its filters at l; the yard's list of what was made, at m, has it at its end -/
def HMade (K : PySem.W.Frag) (H : Hp) (p C dx y m : Addr) (xs : List V) (H' : Hp) : Prop := ∃ l, (∀ b o, b ≠ p → b ≠ m → H b = some o → H' b = some o) ∧ H l = none ∧ H' p = some (.ins C dx (hF l y)) ∧ H' l = some (.lst []) ∧ H' m = some (.lst (xs ++ [.ref p]))
def spHandlerInit (K : PySem.W.Frag) : Sp := fun vs H Q _ => ∃ (p C dx y dy m : Addr) (fs : List (Str × V)) (xs : List V), vs = [.ref p, .ref y] ∧ H p = some (.ins C dx []) ∧ HCls K C ∧ p ≠ y ∧ H y = some (.ins (CY K) dy fs) ∧ fs.lookup ("made" : Str) = some (.ref m) ∧ fs.lookup ("enrol" : Str) = none ∧ H m = some (.lst xs) ∧ xs.length ≤ 1000 ∧
  ∀ H', HMade K H p C dx y m xs H' → Q .non H'
theorem ok_handler_init {f : Addr} (T : Txt P w K mg) (F : Stands K "__init__" "Handler.__init__" s_Handler_init [] f) (c_Filterer_init : Callable P w K mg base 1 (He.ma K (He.ga K "Filterer") "__init__") ["self"] [] (spFiltererInit K))
    (c_Yard_enrol : Callable P w K mg base 1 (He.ma K (He.ga K "Yard") "enrol") ["self", "handler"] [] (spEnrol K)) : Callable P w K mg base 2 f ["self", "yard"] [] (spHandlerInit K) := by
  refine F.call0 sc_Handler_init (fun vs H Q E h => ?_) (fun cdv A outer s H vs Q E hr h => ?_) (fun _ _ _ _ _ _ us hl => match us, hl with | [_, _], _ => rfl)
  · obtain ⟨p, C, dx, y, dy, m, fs, xs, rfl, _⟩ := h; rfl
  obtain ⟨p, C, dx, y, dy, m, fs, xs, rfl, hp, c, npy, hy, hm, he, hmm, hxs, hQ⟩ := h
  refine ⟨_, (pss_cons (ps_expr (pe_cf T.cf_Filterer_init c_Filterer_init (hr.mono (by first | decide | exact Nat.le_refl _)) (pe_glob (v := .ref _) (by rfl) T.g_Filterer rfl) (pa_cons (pv 0) pa_nil)))
      (pss_cons (ps_fld (pv 0) (pv 1) rfl)
      (pss_cons (ps_fld (pv 0) pe_int rfl)
      (pss_cons (ps_fld (pv 0) pe_non rfl)
      (pss_cons (ps_fld (pv 0) pe_non rfl)
      (pss_cons (ps_fld (pv 0) pe_str rfl)
      (pss_cons (ps_fld (pv 0) pe_bl rfl)
      (pss_one (ps_expr (pe_mt T.c_Yard T.m_Yard_enrol c_Yard_enrol (hr.mono (by first | decide | exact Nat.le_refl _)) (pv 1) (pa_cons (pv 0) pa_nil))))))))))), ?_⟩
  refine ⟨rfl, _, rfl, C, p, dx, [], rfl, hp, c.c, c.n1, (by decide), fun l hl => ?_⟩
  refine ⟨_, rfl, _, rfl, p, C, dx, _, rfl, upd_same, c.c, c.n2, (by show 1 < 1000; decide), ?_⟩
  rw [upd_upd]
  refine ⟨_, rfl, p, C, dx, _, rfl, upd_same, c.c, c.n3, (by show 2 < 1000; decide), ?_⟩
  rw [upd_upd]
  refine ⟨_, rfl, p, C, dx, _, rfl, upd_same, c.c, c.n4, (by show 3 < 1000; decide), ?_⟩
  rw [upd_upd]
  refine ⟨_, rfl, p, C, dx, _, rfl, upd_same, c.c, c.n5, (by show 4 < 1000; decide), ?_⟩
  rw [upd_upd]
  refine ⟨_, rfl, p, C, dx, _, rfl, upd_same, c.c, c.n6, (by show 5 < 1000; decide), ?_⟩
  rw [upd_upd]
  refine ⟨_, rfl, p, C, dx, _, rfl, upd_same, c.c, c.n7, (by show 6 < 1000; decide), ?_⟩
  rw [upd_upd]
  generalize e1 : upd (upd H l (.lst [])) p _ = H1
  have nlp : l ≠ p := fun z => by rw [z, hp] at hl; cases hl
  have npm : p ≠ m := fun z => by rw [z, hmm] at hp; cases hp
  have nlm : l ≠ m := fun z => by rw [z, hmm] at hl; cases hl
  have q1 : H1 p = some (.ins C dx (hF l y)) := by rw [← e1]; exact upd_same
  have q2 : H1 l = some (.lst []) := by rw [← e1, upd_ne nlp]; exact upd_same
  have q3 : ∀ b o, b ≠ p → H b = some o → H1 b = some o := fun b o h1 h2 => by rw [← e1, upd_ne h1]; exact same_new hl _ b o h2
  clear e1
  refine ⟨_, rfl, y, dy, fs, rfl, q3 _ _ (Ne.symm npy) hy, he, _, rfl, y, p, dy, m, fs, xs, rfl, q3 _ _ (Ne.symm npy) hy, hm, q3 _ _ (Ne.symm npm) hmm, hxs, ?_⟩
  exact hQ _ ⟨l, fun b o h1 h2 h3 => by rw [upd_ne h2]; exact q3 b o h1 h3, hl, by rw [upd_ne npm]; exact q1, by rw [upd_ne nlm]; exact q2, upd_same⟩
def spStreamInit (K : PySem.W.Frag) : Sp := fun vs H Q _ => ∃ (p dx y dy m : Addr) (st : Str) (fs : List (Str × V)) (xs : List V), vs = [.ref p, .ref y, .str st] ∧ H p = some (.ins (He.ga K "StreamHandler") dx []) ∧ p ≠ y ∧ H y = some (.ins (CY K) dy fs) ∧ fs.lookup ("made" : Str) = some (.ref m) ∧ fs.lookup ("enrol" : Str) = none ∧ H m = some (.lst xs) ∧ xs.length ≤ 1000 ∧
  ∀ (H' : Hp) (l : Addr), (∀ b o, b ≠ p → b ≠ m → H b = some o → H' b = some o) → H l = none → H' p = some (.ins (He.ga K "StreamHandler") dx (hF l y ++ ([("stream", .str st)] : List (Str × V)))) → H' l = some (.lst []) → H' m = some (.lst (xs ++ [.ref p])) → Q .non H'
theorem ok_stream_init {f : Addr} (T : Txt P w K mg) (F : Stands K "__init__" "StreamHandler.__init__" s_StreamHandler_init [.str "stderr"] f) (c_Handler_init : Callable P w K mg base 2 (He.ma K (He.ga K "Handler") "__init__") ["self", "yard"] [] (spHandlerInit K)) :
    Callable P w K mg base 3 f ["self", "yard", "stream"] [.str "stderr"] (spStreamInit K) := by
  refine F.call sc_StreamHandler_init 2 0 (fun vs H Q E h => ?_) (fun cdv A outer s H vs Q E hr h => ?_) (fun z => nomatch z) fun _ => ⟨rfl, fun _ _ _ _ _ _ _ us its hl hi => match us, hl, its, hi with | [_, _], _, [_], _ => ⟨_, rfl, rfl⟩⟩
  · obtain ⟨p, dx, y, dy, m, st, fs, xs, rfl, _⟩ := h; rfl
  obtain ⟨p, dx, y, dy, m, st, fs, xs, rfl, hp, npy, hy, hm, he, hmm, hxs, hQ⟩ := h
  refine ⟨_, (pss_cons (ps_expr (pe_cf T.cf_Handler_init c_Handler_init (hr.mono (by first | decide | exact Nat.le_refl _)) (pe_glob (v := .ref _) (by rfl) T.g_Handler rfl) (pa_cons (pv 0) (pa_cons (pv 1) pa_nil))))
      (pss_one (ps_fld (pv 0) (pv 2) rfl))), ?_⟩
  have c : HCls K (He.ga K "StreamHandler") := ⟨T.c_StreamHandler, T.n_StreamHandler_filters, T.n_StreamHandler_yard, T.n_StreamHandler_level, T.n_StreamHandler_formatter, T.n_StreamHandler_name, T.n_StreamHandler_terminator, T.n_StreamHandler_closed⟩
  refine ⟨rfl, _, rfl, _, rfl, p, _, dx, y, dy, m, fs, xs, rfl, hp, c, npy, hy, hm, he, hmm, hxs, fun H1 hM => ?_⟩
  obtain ⟨l, k1, k2, k3, k4, k5⟩ := hM
  have nlp : l ≠ p := fun z => by rw [z, hp] at k2; cases k2
  have npm : m ≠ p := fun z => by rw [z, hp] at hmm; cases hmm
  refine ⟨_, rfl, _, rfl, p, _, dx, _, rfl, k3, T.c_StreamHandler, T.n_StreamHandler_stream, (by show 7 < 1000; decide), ?_⟩
  exact hQ _ l (fun b o h1 h2 h3 => by rw [upd_ne h1]; exact k1 b o h1 h2 h3) k2 upd_same (by rw [upd_ne nlp]; exact k4) (by rw [upd_ne npm]; exact k5)
theorem ok_stream_init3 {f : Addr} (T : Txt P w K mg) (F : Stands K "__init__" "StreamHandler.__init__" s_StreamHandler_init [.str "stderr"] f) (c_Handler_init : Callable P w K mg base 2 (He.ma K (He.ga K "Handler") "__init__") ["self", "yard"] [] (spHandlerInit K)) :
    Callable P w K mg base 3 f ["self", "yard", "stream"] [] (spStreamInit K) := by
  refine F.call sc_StreamHandler_init 3 1 (fun vs H Q E h => ?_) (fun cdv A outer s H vs Q E hr h => ?_) (fun z => nomatch z) fun _ => ⟨rfl, fun _ _ _ _ _ _ _ us its hl hi => match us, hl, its, hi with | [_, _, _], _, [_], _ => ⟨_, rfl, rfl⟩⟩
  · obtain ⟨p, dx, y, dy, m, st, fs, xs, rfl, _⟩ := h; rfl
  obtain ⟨p, dx, y, dy, m, st, fs, xs, rfl, hp, npy, hy, hm, he, hmm, hxs, hQ⟩ := h
  refine ⟨_, (pss_cons (ps_expr (pe_cf T.cf_Handler_init c_Handler_init (hr.mono (by first | decide | exact Nat.le_refl _)) (pe_glob (v := .ref _) (by rfl) T.g_Handler rfl) (pa_cons (pv 0) (pa_cons (pv 1) pa_nil))))
      (pss_one (ps_fld (pv 0) (pv 2) rfl))), ?_⟩
  have c : HCls K (He.ga K "StreamHandler") := ⟨T.c_StreamHandler, T.n_StreamHandler_filters, T.n_StreamHandler_yard, T.n_StreamHandler_level, T.n_StreamHandler_formatter, T.n_StreamHandler_name, T.n_StreamHandler_terminator, T.n_StreamHandler_closed⟩
  refine ⟨rfl, _, rfl, _, rfl, p, _, dx, y, dy, m, fs, xs, rfl, hp, c, npy, hy, hm, he, hmm, hxs, fun H1 hM => ?_⟩
  obtain ⟨l, k1, k2, k3, k4, k5⟩ := hM
  have nlp : l ≠ p := fun z => by rw [z, hp] at k2; cases k2
  have npm : m ≠ p := fun z => by rw [z, hp] at hmm; cases hmm
  refine ⟨_, rfl, _, rfl, p, _, dx, _, rfl, k3, T.c_StreamHandler, T.n_StreamHandler_stream, (by show 7 < 1000; decide), ?_⟩
  exact hQ _ l (fun b o h1 h2 h3 => by rw [upd_ne h1]; exact k1 b o h1 h2 h3) k2 upd_same (by rw [upd_ne nlp]; exact k4) (by rw [upd_ne npm]; exact k5)
def lF (l y : Addr) (name : Str) (lev : Int) (h : Addr) (par : V) : List (Str × V) := [("filters", .ref l), ("yard", .ref y), ("name", .str name), ("level", .int lev), ("propagate", .bl true), ("disabled", .bl false), ("handlers", .ref h), ("parent", par)]
def spLoggerInit (K : PySem.W.Frag) : Sp := fun vs H Q _ => ∃ (p dx y : Addr) (name : Str) (lev : Int), vs = [.ref p, .ref y, .str name, .int lev] ∧ H p = some (.ins (CL K) dx []) ∧
  ∀ (H' : Hp) (l h : Addr), SameBut p H H' → H l = none → H h = none → l ≠ h → H' p = some (.ins (CL K) dx (lF l y name lev h .non)) → H' l = some (.lst []) → H' h = some (.lst []) → Q .non H'
theorem ok_logger_init {f : Addr} (T : Txt P w K mg) (F : Stands K "__init__" "Logger.__init__" s_Logger_init [] f) (c_Filterer_init : Callable P w K mg base 1 (He.ma K (He.ga K "Filterer") "__init__") ["self"] [] (spFiltererInit K)) :
    Callable P w K mg base 2 f ["self", "yard", "name", "level"] [] (spLoggerInit K) := by
  refine F.call0 sc_Logger_init (fun vs H Q E h => ?_) (fun cdv A outer s H vs Q E hr h => ?_) (fun _ _ _ _ _ _ us hl => match us, hl with | [_, _, _, _], _ => rfl)
  · obtain ⟨p, dx, y, name, lev, rfl, _⟩ := h; rfl
  obtain ⟨p, dx, y, name, lev, rfl, hp, hQ⟩ := h
  refine ⟨_, (pss_cons (ps_expr (pe_cf T.cf_Filterer_init c_Filterer_init (hr.mono (by first | decide | exact Nat.le_refl _)) (pe_glob (v := .ref _) (by rfl) T.g_Filterer rfl) (pa_cons (pv 0) pa_nil)))
      (pss_cons (ps_fld (pv 0) (pv 1) rfl)
      (pss_cons (ps_fld (pv 0) (pv 2) rfl)
      (pss_cons (ps_fld (pv 0) (pv 3) rfl)
      (pss_cons (ps_fld (pv 0) pe_bl rfl)
      (pss_cons (ps_fld (pv 0) pe_bl rfl)
      (pss_cons (ps_fld (pv 0) (pe_lst pa_nil) rfl)
      (pss_one (ps_fld (pv 0) pe_non rfl))))))))), ?_⟩
  refine ⟨rfl, _, rfl, _, p, dx, [], rfl, hp, T.c_Logger, T.n_Logger_filters, (by decide), fun l hl => ?_⟩
  refine ⟨_, rfl, _, rfl, p, _, dx, _, rfl, upd_same, T.c_Logger, T.n_Logger_yard, (by show 1 < 1000; decide), ?_⟩
  rw [upd_upd]
  refine ⟨_, rfl, _, rfl, p, _, dx, _, rfl, upd_same, T.c_Logger, T.n_Logger_name, (by show 2 < 1000; decide), ?_⟩
  rw [upd_upd]
  refine ⟨_, rfl, _, rfl, p, _, dx, _, rfl, upd_same, T.c_Logger, T.n_Logger_level, (by show 3 < 1000; decide), ?_⟩
  rw [upd_upd]
  refine ⟨_, rfl, p, _, dx, _, rfl, upd_same, T.c_Logger, T.n_Logger_propagate, (by show 4 < 1000; decide), ?_⟩
  rw [upd_upd]
  refine ⟨_, rfl, p, _, dx, _, rfl, upd_same, T.c_Logger, T.n_Logger_disabled, (by show 5 < 1000; decide), ?_⟩
  rw [upd_upd]
  refine ⟨(by show 0 ≤ sizeLine; decide), fun h hh => ?_⟩
  obtain ⟨nhp, hh1⟩ := upd_none hh
  obtain ⟨nhl, hh2⟩ := upd_none hh1
  refine ⟨_, rfl, p, _, dx, _, rfl, (by rw [upd_ne (Ne.symm nhp)]; exact upd_same), T.c_Logger, T.n_Logger_handlers, (by show 6 < 1000; decide), ?_⟩
  refine ⟨_, rfl, p, _, dx, _, rfl, upd_same, T.c_Logger, T.n_Logger_parent, (by show 7 < 1000; decide), ?_⟩
  rw [upd_upd]
  have nlp : l ≠ p := fun z => by rw [z, hp] at hl; cases hl
  refine hQ _ l h (fun b o h1 h2 => ?_) hl hh2 (Ne.symm nhl) upd_same ?_ ?_
  · have n1 : b ≠ h := ne_of_none h2 hh2
    have n2 : b ≠ l := ne_of_none h2 hl
    rw [upd_ne h1, upd_ne n1, upd_ne h1, upd_ne n2]; exact h2
  · rw [upd_ne nlp, upd_ne (Ne.symm nhl), upd_ne nlp]; exact upd_same
  · rw [upd_ne nhp]; exact upd_same
end
end K17

set_option Elab.async false
set_option linter.all false
set_option maxRecDepth 100000
set_option maxHeartbeats 0
namespace K17
open PySem PySem.Spec PyProof.Rows L2 RC
section
variable {P : Program} {w : World} {K : PySem.W.Frag} {mg : Str → Option Value} {base : Heap}
/-! ### a yard is made -/
/-- H came from H0; ns: what is still being changed; L: what was laid since -/
structure Fr (H0 : Hp) (p : Addr) (ns : List Addr) (L : List (Addr × HO)) (H : Hp) : Prop where
  kp : ∀ b o, b ≠ p → H0 b = some o → H b = some o
  has : ∀ x ∈ L, x.1 ∉ ns ∧ H0 x.1 = none ∧ H x.1 = some x.2
  live : ∀ n ∈ ns, ∃ o, H n = some o
  old : ∀ n ∈ ns, n = p ∨ H0 n = none
  mem : p ∈ ns
  nd : (L.map (·.1)).Nodup
section
variable {H0 H H2 : Hp} {p : Addr} {ns : List Addr} {L : List (Addr × HO)}
theorem Fr.none (F : Fr H0 p ns L H) {q : Addr} (h : H q = none) : H0 q = none := by
  cases e : H0 q with
  | none => rfl
  | some o =>
    by_cases c : q = p
    · subst c; obtain ⟨o', e'⟩ := F.live _ F.mem; rw [e'] at h; cases h
    · rw [F.kp q o c e] at h; cases h
theorem Fr.notin (F : Fr H0 p ns L H) {q : Addr} (h : H q = Option.none) : q ∉ ns := fun z => by obtain ⟨o, e⟩ := F.live q z; rw [e] at h; cases h
theorem Fr.to (F : Fr H0 p ns L H) (k : ∀ b o, b ∉ ns → H b = some o → H2 b = some o) (l : ∀ n ∈ ns, ∃ o, H2 n = some o) : Fr H0 p ns L H2 where
  kp := fun b o hb e => k b o (fun z => by rcases F.old b z with c | c; exact hb c; rw [c] at e; cases e) (F.kp b o hb e)
  has := fun x hx => ⟨(F.has x hx).1, (F.has x hx).2.1, k _ _ (F.has x hx).1 (F.has x hx).2.2⟩
  live := l
  old := F.old
  mem := F.mem
  nd := F.nd
theorem Fr.nin (F : Fr H0 p ns L H) {q : Addr} (h : H q = Option.none) : q ∉ L.map (·.1) := fun z => by
  obtain ⟨x, hx, e⟩ := List.mem_map.mp z
  have := (F.has x hx).2.2
  rw [e, h] at this; cases this
theorem nin_cons {a b : Addr} {o : HO} {L : List (Addr × HO)} (h : a ≠ b) (k : a ∉ L.map (·.1)) : a ∉ ((b, o) :: L).map (·.1) := fun z => by
  rcases List.mem_cons.mp z with z | z
  · exact h z
  · exact k z
theorem Fr.cons (F : Fr H0 p ns L H) {q : Addr} {o : HO} (h1 : q ∉ ns) (h2 : H0 q = Option.none) (h3 : H q = some o) (h4 : q ∉ L.map (·.1)) : Fr H0 p ns ((q, o) :: L) H where
  kp := F.kp
  has := fun x hx => by
    rcases List.mem_cons.mp hx with c | c
    · subst c; exact ⟨h1, h2, h3⟩
    · exact F.has x c
  live := F.live
  old := F.old
  mem := F.mem
  nd := List.nodup_cons.mpr ⟨h4, F.nd⟩
theorem Fr.set (F : Fr H0 p ns L H) {o : HO} {q : Addr} (hq : q ∈ ns) (e : upd H q o = H2) : Fr H0 p ns L H2 := by
  subst e
  refine F.to (fun b u h1 h2 => ?_) (fun n hn => ?_)
  · rw [upd_ne (fun z => h1 (by rw [z]; exact hq))]; exact h2
  · by_cases c : n = q
    · subst c; exact ⟨_, upd_same⟩
    · rw [upd_ne c]; exact F.live n hn
theorem Fr.new (F : Fr H0 p ns L H) {o : HO} {q : Addr} (hq : H q = Option.none) (e : upd H q o = H2) : Fr H0 p ns ((q, o) :: L) H2 := by
  subst e
  refine (F.to (H2 := upd H q o) (fun b u h1 h2 => same_new hq _ _ _ h2) (fun n hn => ?_)).cons (F.notin hq) (F.none hq) upd_same (F.nin hq)
  obtain ⟨u, hu⟩ := F.live n hn
  exact ⟨u, same_new hq _ _ _ hu⟩
/-- one more is being changed -/
theorem Fr.own (F : Fr H0 p ns L H) {o : HO} {q : Addr} (hq : H q = Option.none) (e : upd H q o = H2) : Fr H0 p (q :: ns) L H2 := by
  have G := F.new hq e
  subst e
  refine ⟨G.kp, fun x hx => ?_, fun n hn => ?_, fun n hn => ?_, List.mem_cons_of_mem _ F.mem, F.nd⟩
  · have g := F.has x hx
    refine ⟨fun z => ?_, g.2.1, (G.has x (List.mem_cons_of_mem _ hx)).2.2⟩
    rcases List.mem_cons.mp z with c | c
    · rw [c, hq] at g; cases g.2.2
    · exact g.1 c
  · rcases List.mem_cons.mp hn with c | c
    · subst c; exact ⟨_, upd_same⟩
    · exact G.live n c
  · rcases List.mem_cons.mp hn with c | c
    · subst c; exact .inr (F.none hq)
    · exact F.old n c
theorem Fr.get (F : Fr H0 p ns L H) {x : Addr × HO} (h : x ∈ L) : H x.1 = some x.2 := (F.has x h).2.2
theorem Fr.putf (F : Fr H0 p ns L H) {o o' : HO} {q : Addr} (hq : H q = Option.none) (e : upd (upd H q o) p o' = H2) : Fr H0 p ns ((q, o) :: L) H2 := (F.new hq rfl).set F.mem e
theorem Fr.ownf (F : Fr H0 p ns L H) {o o' : HO} {q : Addr} (hq : H q = Option.none) (e : upd (upd H q o) p o' = H2) : Fr H0 p (q :: ns) L H2 ∧ H2 q = some o := by
  have G := F.own hq (o := o) rfl
  refine ⟨G.set (List.mem_cons_of_mem _ F.mem) e, ?_⟩
  have n : q ≠ p := fun z => F.notin hq (by rw [z]; exact F.mem)
  rw [← e, upd_ne n]; exact upd_same
theorem Fr.same (F : Fr H0 p ns L H) (s : Same H H2) : Fr H0 p ns L H2 := F.to (fun b o _ e => s b o e) (fun n hn => let ⟨o, e⟩ := F.live n hn; ⟨o, s _ _ e⟩)
theorem Fr.start {o : HO} (h : H0 p = some o) : Fr H0 p [p] [] H0 where
  kp := fun _ _ _ e => e
  has := fun _ h => nomatch h
  live := fun n hn => by cases List.mem_singleton.mp hn; exact ⟨o, h⟩
  old := fun n hn => .inl (List.mem_singleton.mp hn)
  mem := List.mem_singleton.mpr rfl
  nd := List.nodup_nil
end
def yF (clk : Int) (st fi na nu lm md hn fr rt lr : Addr) : List (Str × V) := [("clock", .int clk), ("stream_texts", .ref st), ("file_rows", .ref fi), ("names_of", .ref na), ("numbers_of", .ref nu), ("bar_level", .int 0), ("logger_map", .ref lm), ("made", .ref md), ("handler_names", .ref hn), ("failure_rows", .ref fr), ("root", .ref rt), ("last_resort", .ref lr)]
/-- where the parts of a yard lie -/
structure YParts where
  (st fi na nu lm md hn fr rt lr rl rh ll : Addr)
def YParts.L (K : PySem.W.Frag) (y : Addr) (q : YParts) (rd ld : Addr) : List (Addr × HO) := [(q.ll, .lst []), (q.lr, .ins (He.ga K "StreamHandler") ld (hF q.ll y ++ ([("stream", .str "stderr")] : List (Str × V)))), (q.rh, .lst []), (q.rl, .lst []), (q.rt, .ins (CL K) rd (lF q.rl y "root" 30 q.rh .non)), (q.fr, .lst []), (q.hn, .dK []), (q.lm, .dK []), (q.nu, .dK (kv_FIRST_NUMBERS.map fun q => (q.1, q.2.v K))), (q.na, .dK (kv_FIRST_NAMES.map fun q => (q.1, q.2.v K))), (q.fi, .dK []), (q.st, .dK [])]
structure YNew (K : PySem.W.Frag) (H0 H : Hp) (y dy : Addr) (clk : Int) (q : YParts) : Prop where
  fr : ∃ rd ld, Fr H0 y [q.md, y] (q.L K y rd ld) H
  y : H y = some (.ins (CY K) dy (yF clk q.st q.fi q.na q.nu q.lm q.md q.hn q.fr q.rt q.lr))
  md : H q.md = some (.lst [])
def spYardInit (K : PySem.W.Frag) : Sp := fun vs H Q _ => ∃ (p dx : Addr) (clk : Int), vs = [.ref p, .int clk] ∧ H p = some (.ins (CY K) dx []) ∧ ∀ (H' : Hp) (q : YParts), YNew K H H' p dx clk q → Q .non H'
theorem body_yard_init {f : Addr} {cdv : Value} {A : Around} {outer : List Env} {s : Shared} {H : Hp} {vs : List V} {Q : VK} {E : XK} (T : Txt P w K mg) (hr : Room 4 (A.deeper (envOfC "Yard.__init__" (defScope s_Yard_init) s.heap.objs.size f cdv))) (h : spYardInit K vs H Q E)
    (c_Logger_init : Callable P w K mg base 2 (He.ma K (He.ga K "Logger") "__init__") ["self", "yard", "name", "level"] [] (spLoggerInit K))
    (c_StreamHandler_init_d1 : Callable P w K mg base 3 (He.ma K (He.ga K "StreamHandler") "__init__") ["self", "yard", "stream"] [.str "stderr"] (spStreamInit K)) :
    ∃ t, PSs (cxOf CX0 P w K mg base nm_Yard_init "Yard.__init__" (defScope s_Yard_init) f cdv A outer s H E).nox (defBody s_Yard_init) t ∧ t { nx := fun _ H' => Q .non H', rt := Q } (L2.start nm_Yard_init vs) H := by
  obtain ⟨p, dx, clk, rfl, hp, hQ⟩ := h
  refine ⟨_, (pss_cons (ps_fld (pv 0) (pv 1) rfl)
      (pss_cons (ps_fld (pv 0) pe_dnewK rfl)
      (pss_cons (ps_fld (pv 0) pe_dnewK rfl)
      (pss_cons (ps_fld (pv 0) (pe_callTy (RB.call_dictK T.t_FIRST_NAMES) (by rfl) T.b_dict (by decide +kernel) (pa_cons (pe_glob (v := .ref _) (by rfl) T.g_FIRST_NAMES rfl) pa_nil)) rfl)
      (pss_cons (ps_fld (pv 0) (pe_callTy (RB.call_dictK T.t_FIRST_NUMBERS) (by rfl) T.b_dict (by decide +kernel) (pa_cons (pe_glob (v := .ref _) (by rfl) T.g_FIRST_NUMBERS rfl) pa_nil)) rfl)
      (pss_cons (ps_fld (pv 0) pe_int rfl)
      (pss_cons (ps_fld (pv 0) pe_dnewK rfl)
      (pss_cons (ps_fld (pv 0) (pe_lst pa_nil) rfl)
      (pss_cons (ps_fld (pv 0) pe_dnewK rfl)
      (pss_cons (ps_fld (pv 0) (pe_lst pa_nil) rfl)
      (pss_cons (ps_fld (pv 0) (pe_mk T.k_Logger T.g_Logger c_Logger_init (hr.mono (by first | decide | exact Nat.le_refl _)) (by rfl) (pa_cons (pv 0) (pa_cons pe_str (pa_cons (pe_gi (by rfl) T.g_WARNING) pa_nil)))) rfl)
      (pss_cons (ps_fld (pv 0) (pe_mk T.k_StreamHandler T.g_StreamHandler c_StreamHandler_init_d1 (hr.mono (by first | decide | exact Nat.le_refl _)) (by rfl) (pa_cons (pv 0) pa_nil)) rfl)
      (pss_one (ps_expr (pe_bm0 PySem.F.plainAttrs_list PySem.F.slot_list_pop PySem.F.type_list_pop mt_pop (pe_fld (pv 0) rfl)))))))))))))))), ?_⟩
  have F0 := Fr.start hp
  refine ⟨_, rfl, _, rfl, p, _, dx, _, rfl, hp, T.c_Yard, T.n_Yard_clock, (by show 0 < 1000; decide), ?_⟩
  generalize e1 : upd H p _ = H1
  have F1 := F0.set List.mem_cons_self e1
  have p1 := congrFun e1.symm p; rw [upd_same] at p1
  clear e1
  intro st h_st
  refine ⟨_, rfl, p, _, dx, _, rfl, same_new h_st _ _ _ p1, T.c_Yard, T.n_Yard_stream_texts, (by show 1 < 1000; decide), ?_⟩
  generalize e : upd (upd H1 st _) p _ = H2
  have F2 := F1.putf h_st e
  have p2 := congrFun e.symm p; rw [upd_same] at p2
  clear e
  intro fi h_fi
  refine ⟨_, rfl, p, _, dx, _, rfl, same_new h_fi _ _ _ p2, T.c_Yard, T.n_Yard_file_rows, (by show 2 < 1000; decide), ?_⟩
  generalize e : upd (upd H2 fi _) p _ = H3
  have F3 := F2.putf h_fi e
  have p3 := congrFun e.symm p; rw [upd_same] at p3
  clear e
  refine ⟨rfl, fun na h_na => ?_⟩
  refine ⟨_, rfl, p, _, dx, _, rfl, same_new h_na _ _ _ p3, T.c_Yard, T.n_Yard_names_of, (by show 3 < 1000; decide), ?_⟩
  generalize e : upd (upd H3 na _) p _ = H4
  have F4 := F3.putf h_na e
  have p4 := congrFun e.symm p; rw [upd_same] at p4
  clear e
  refine ⟨rfl, fun nu h_nu => ?_⟩
  refine ⟨_, rfl, p, _, dx, _, rfl, same_new h_nu _ _ _ p4, T.c_Yard, T.n_Yard_numbers_of, (by show 4 < 1000; decide), ?_⟩
  generalize e : upd (upd H4 nu _) p _ = H5
  have F5 := F4.putf h_nu e
  have p5 := congrFun e.symm p; rw [upd_same] at p5
  clear e
  refine ⟨_, rfl, p, _, dx, _, rfl, p5, T.c_Yard, T.n_Yard_bar_level, (by show 5 < 1000; decide), ?_⟩
  generalize e : upd H5 p _ = H6
  have F6 := F5.set F5.mem e
  have p6 := congrFun e.symm p; rw [upd_same] at p6
  clear e
  intro lm h_lm
  refine ⟨_, rfl, p, _, dx, _, rfl, same_new h_lm _ _ _ p6, T.c_Yard, T.n_Yard_logger_map, (by show 6 < 1000; decide), ?_⟩
  generalize e : upd (upd H6 lm _) p _ = H7
  have F7 := F6.putf h_lm e
  have p7 := congrFun e.symm p; rw [upd_same] at p7
  clear e
  refine ⟨(by show 0 ≤ sizeLine; decide), fun md h_md => ?_⟩
  refine ⟨_, rfl, p, _, dx, _, rfl, same_new h_md _ _ _ p7, T.c_Yard, T.n_Yard_made, (by show 7 < 1000; decide), ?_⟩
  generalize e : upd (upd H7 md _) p _ = H8
  obtain ⟨F8, m8⟩ := F7.ownf h_md e
  have p8 := congrFun e.symm p; rw [upd_same] at p8
  have nmp : md ≠ p := fun z => F7.notin h_md (by rw [z]; exact F7.mem)
  clear e
  intro hn h_hn
  refine ⟨_, rfl, p, _, dx, _, rfl, same_new h_hn _ _ _ p8, T.c_Yard, T.n_Yard_handler_names, (by show 8 < 1000; decide), ?_⟩
  generalize e : upd (upd H8 hn _) p _ = H9
  have F9 := F8.putf h_hn e
  have p9 := congrFun e.symm p; rw [upd_same] at p9
  have m9 : H9 md = some (.lst []) := by rw [← e, upd_ne nmp]; exact same_new h_hn _ _ _ m8
  clear e
  refine ⟨(by show 0 ≤ sizeLine; decide), fun fr h_fr => ?_⟩
  refine ⟨_, rfl, p, _, dx, _, rfl, same_new h_fr _ _ _ p9, T.c_Yard, T.n_Yard_failure_rows, (by show 9 < 1000; decide), ?_⟩
  generalize e : upd (upd H9 fr _) p _ = H10
  have F10 := F9.putf h_fr e
  have p10 := congrFun e.symm p; rw [upd_same] at p10
  have m10 : H10 md = some (.lst []) := by rw [← e, upd_ne nmp]; exact same_new h_fr _ _ _ m9
  clear e
  -- root
  refine ⟨_, rfl, fun rt rd h_rt h_rd hne => ?_⟩
  refine ⟨rt, rd, p, "root", 30, rfl, upd_same, fun Hr rl rh k1 k2 k3 k4 k5 k6 k7 => ⟨rfl, ?_⟩⟩
  have sr : Same H10 Hr := made_same h_rt h_rd k1
  obtain ⟨k2a, k2⟩ := upd_none k2
  obtain ⟨k3a, k3⟩ := upd_none k3
  have k2 := (upd_none k2).2
  have k3 := (upd_none k3).2
  have j1 : rl ≠ rt := fun z => by rw [z, k5] at k6; cases k6
  have j2 : rh ≠ rt := fun z => by rw [z, k5] at k7; cases k7
  have Fr1 := (((F10.same sr).cons (F10.notin h_rt) (F10.none h_rt) k5 (F10.nin h_rt)).cons (F10.notin k2) (F10.none k2) k6 (nin_cons j1 (F10.nin k2))).cons (F10.notin k3) (F10.none k3) k7 (nin_cons (Ne.symm k4) (nin_cons j2 (F10.nin k3)))
  have pr := sr _ _ p10
  have mr := sr _ _ m10
  refine ⟨_, rfl, p, _, dx, _, rfl, pr, T.c_Yard, T.n_Yard_root, (by show 10 < 1000; decide), ?_⟩
  generalize e : upd Hr p _ = H11
  have F11 := Fr1.set Fr1.mem e
  have p11 := congrFun e.symm p; rw [upd_same] at p11
  have m11 : H11 md = some (.lst []) := by rw [← e, upd_ne nmp]; exact mr
  clear e
  -- last_resort
  refine ⟨_, rfl, fun lr ld h_lr h_ld hne2 => ?_⟩
  have npl : lr ≠ p := fun z => by rw [z, p11] at h_lr; cases h_lr
  have nml : lr ≠ md := fun z => by rw [z, m11] at h_lr; cases h_lr
  have t1 : ∀ C fs, Same H11 (upd (upd H11 ld (.own lr)) lr (.ins C ld fs)) := fun C fs => made_same h_lr h_ld (fun _ _ _ e => e)
  refine ⟨lr, ld, p, dx, md, "stderr", _, [], rfl, upd_same, npl, t1 _ _ _ _ p11, rfl, rfl, t1 _ _ _ _ m11, (by decide), fun Hl ll l1 l2 l3 l4 l5 => ⟨rfl, ?_⟩⟩
  have l2b : H11 ll = none := (upd_none (upd_none l2).2).2
  have f12 : ∀ b o, b ∉ [md, p] → H11 b = some o → Hl b = some o := fun b o hb e => l1 b o (ne_of_none e h_lr) (fun z => hb (by rw [z]; exact List.mem_cons_self)) (t1 _ _ _ _ e)
  have p12 := l1 p _ (Ne.symm npl) (Ne.symm nmp) (t1 _ _ _ _ p11)
  have F12 := ((F11.to f12 (fun n hn => by
    rcases List.mem_cons.mp hn with c | c
    · subst c; exact ⟨_, l5⟩
    · cases List.mem_singleton.mp c; exact ⟨_, p12⟩)).cons (F11.notin h_lr) (F11.none h_lr) l3 (F11.nin h_lr)).cons (F11.notin l2b) (F11.none l2b) l4 (nin_cons (fun z => (by rw [z, l3] at l4; cases l4)) (F11.nin l2b))
  refine ⟨_, rfl, p, _, dx, _, rfl, p12, T.c_Yard, T.n_Yard_last_resort, (by show 11 < 1000; decide), ?_⟩
  generalize e : upd Hl p _ = H13
  have F13 := F12.set F12.mem e
  have p13 := congrFun e.symm p; rw [upd_same] at p13
  have m13 : H13 md = some (.lst [.ref lr]) := by rw [← e, upd_ne nmp]; exact l5
  clear e
  refine ⟨_, rfl, p, _, dx, _, _, rfl, p13, T.c_Yard, T.n_Yard_made, rfl, .inl ⟨rfl, _, SqL.of m13⟩, md, _, _, rfl, rfl, m13, rfl, ?_⟩
  have F14 := F13.set (o := .lst []) List.mem_cons_self rfl
  refine hQ _ ⟨st, fi, na, nu, lm, md, hn, fr, rt, lr, rl, rh, ll⟩ ⟨⟨rd, ld, F14⟩, ?_, upd_same⟩
  rw [upd_ne (Ne.symm nmp)]; exact p13
theorem len_yard_init : ∀ vs H Q E, spYardInit K vs H Q E → vs.length = 2 := fun vs H Q E h => by
  obtain ⟨p, dx, clk, rfl, _⟩ := h; rfl
theorem ok_yard_init {f : Addr} (T : Txt P w K mg) (F : Stands K "__init__" "Yard.__init__" s_Yard_init [.int 0] f)
    (c_Logger_init : Callable P w K mg base 2 (He.ma K (He.ga K "Logger") "__init__") ["self", "yard", "name", "level"] [] (spLoggerInit K))
    (c_StreamHandler_init_d1 : Callable P w K mg base 3 (He.ma K (He.ga K "StreamHandler") "__init__") ["self", "yard", "stream"] [.str "stderr"] (spStreamInit K)) : Callable P w K mg base 5 f ["self", "now"] [.int 0] (spYardInit K) :=
  F.call sc_Yard_init 1 0 len_yard_init (fun cdv A outer s H vs Q E hr h => body_yard_init T hr h c_Logger_init c_StreamHandler_init_d1) (fun z => nomatch z) fun _ => ⟨rfl, fun _ _ _ _ _ _ _ us its hl hi => match us, hl, its, hi with | [_], _, [_], _ => ⟨_, rfl, rfl⟩⟩
end
end K17

set_option Elab.async false
set_option linter.all false
set_option maxRecDepth 100000
set_option maxHeartbeats 0
namespace K17
open PySem PySem.Spec PyProof.Rows L2 RC
section
variable {P : Program} {w : World} {K : PySem.W.Frag} {mg : Str → Option Value} {base : Heap}
/-! ### classes -/
abbrev CR (K : PySem.W.Frag) : Addr := He.ga K "LogRecord"
abbrev CRo (K : PySem.W.Frag) : Addr := He.ga K "RotatingFileHandler"
/-- a record of the name rn stands at r -/
def RecName (K : PySem.W.Frag) (H : Hp) (r : Addr) (rn : Str) : Prop := ∃ dx fs, H r = some (.ins (CR K) dx fs) ∧ fs.lookup ("name" : Str) = some (.str rn)
end
end K17

set_option Elab.async false
set_option linter.all false
set_option maxRecDepth 100000
set_option maxHeartbeats 4000000
/-! A model M of what stands at the places ad: what is changed at one model leaves the others. -/
namespace RR
open PySem PySem.Spec PyProof.Rows L2 RC
section
variable {R S : Type} {M M' M'' : R → Option HO} {N N' : S → Option HO} {ad ad' ad'' : R → Addr} {bd bd' : S → Addr} {H H' H'' : Hp} {b p s l : Addr} {o o0 o1 : HO}
structure Rep (M : R → Option HO) (ad : R → Addr) (H : Hp) : Prop where
  at_ : ∀ r o, M r = some o → H (ad r) = some o
  inj : ∀ r r' o o', M r = some o → M r' = some o' → ad r = ad r' → r = r'
def Out (M : R → Option HO) (ad : R → Addr) (b : Addr) : Prop := ∀ r u, M r = some u → ad r ≠ b
structure Mv {R S : Type} (M : R → Option HO) (ad : R → Addr) (H : Hp) (M' : S → Option HO) (ad' : S → Addr) (H' : Hp) : Prop where
  keep : ∀ b o, Out M ad b → H b = some o → H' b = some o
  img : ∀ r u, M' r = some u → (∃ r' u', M r' = some u' ∧ ad r' = ad' r) ∨ H (ad' r) = none
theorem Rep.out (h : Rep M ad H) (hp : H p = none) : Out M ad p := fun r u e z => by rw [← z, h.at_ _ _ e] at hp; cases hp
theorem Mv.refl (H : Hp) : Mv M ad H M ad H := ⟨fun _ _ _ e => e, fun r u e => .inl ⟨r, u, e, rfl⟩⟩
theorem Mv.out {R S : Type} {M : R → Option HO} {ad : R → Addr} {M' : S → Option HO} {ad' : S → Addr} (m : Mv M ad H M' ad' H') (h : Out M ad b) (e : H b = some o) : Out M' ad' b := fun r u er z => by
  rcases m.img r u er with ⟨r', u', e', z'⟩ | hn
  · exact h r' u' e' (z'.trans z)
  · rw [z, e] at hn; cases hn
theorem Mv.trans {R S U : Type} {M : R → Option HO} {ad : R → Addr} {M' : S → Option HO} {ad' : S → Addr} {M'' : U → Option HO} {ad'' : U → Addr} (a : Mv M ad H M' ad' H') (c : Mv M' ad' H' M'' ad'' H'') : Mv M ad H M'' ad'' H'' where
  keep := fun b o h e => c.keep b o (a.out h e) (a.keep b o h e)
  img := fun r u e => by
    rcases c.img r u e with ⟨r', u', e', z⟩ | hn
    · rcases a.img r' u' e' with ⟨r2, u2, e2, z2⟩ | h
      · exact .inl ⟨r2, u2, e2, z2.trans z⟩
      · exact .inr (by rw [← z]; exact h)
    · cases hH : H (ad'' r) with
      | none => exact .inr rfl
      | some o =>
        by_cases ho : Out M ad (ad'' r)
        · rw [a.keep _ _ ho hH] at hn; cases hn
        · refine .inl ?_
          apply Classical.byContradiction
          intro z
          exact ho fun r' u' e' q => z ⟨r', u', e', q⟩
theorem Rep.same (h : Rep M ad H) (e : Same H H') : Rep M ad H' := ⟨fun r o q => e _ _ (h.at_ r o q), h.inj⟩
theorem Mv.same (e : Same H H') : Mv M ad H M ad H' := ⟨fun b o _ q => e b o q, fun r u q => .inl ⟨r, u, q, rfl⟩⟩
theorem Mv.sameR {R S : Type} {M : R → Option HO} {ad : R → Addr} {M' : S → Option HO} {ad' : S → Addr} (a : Mv M ad H M' ad' H') (e : Same H' H'') : Mv M ad H M' ad' H'' := a.trans (Mv.same e)
theorem Mv.sameL {R S : Type} {M : R → Option HO} {ad : R → Addr} {M' : S → Option HO} {ad' : S → Addr} (a : Mv M ad H' M' ad' H'') (e : Same H H') : Mv M ad H M' ad' H'' := (Mv.same e).trans a
def Dj (M : R → Option HO) (ad : R → Addr) (N : S → Option HO) (bd : S → Addr) : Prop := ∀ r u, N r = some u → Out M ad (bd r)
theorem Dj.symm (d : Dj M ad N bd) : Dj N bd M ad := fun r u e r' u' e' z => d r' u' e' r u e z.symm
theorem Mv.rep {R S U : Type} {M : R → Option HO} {ad : R → Addr} {M' : S → Option HO} {ad' : S → Addr} {N : U → Option HO} {bd : U → Addr} (a : Mv M ad H M' ad' H') (d : Dj M ad N bd) (n : Rep N bd H) : Rep N bd H' := ⟨fun r o q => a.keep _ _ (d r o q) (n.at_ r o q), n.inj⟩
theorem Mv.dj {R S U : Type} {M : R → Option HO} {ad : R → Addr} {M' : S → Option HO} {ad' : S → Addr} {N : U → Option HO} {bd : U → Addr} (a : Mv M ad H M' ad' H') (d : Dj M ad N bd) (n : Rep N bd H) : Dj M' ad' N bd := fun r u q => a.out (d r u q) (n.at_ r u q)
theorem Rep.set (h : Rep M ad H) (r : R) (h0 : M r = some o0) (h1 : M' r = some o) (h2 : ∀ r', r' ≠ r → M' r' = M r') : Rep M' ad (upd H (ad r) o) ∧ Mv M ad H M' ad (upd H (ad r) o) := by
  have k : ∀ r' u, M' r' = some u → ∃ u', M r' = some u' := fun r' u e => by
    by_cases c : r' = r
    · rw [c]; exact ⟨_, h0⟩
    · rw [h2 r' c] at e; exact ⟨_, e⟩
  refine ⟨⟨fun r' u e => ?_, fun r1 r2 u1 u2 e1 e2 z => ?_⟩, fun b u hb e => ?_, fun r' u e => ?_⟩
  · by_cases c : r' = r
    · rw [c, upd_same]; rw [c, h1] at e; exact e
    · rw [h2 r' c] at e
      rw [upd_ne (fun z => c (h.inj _ _ _ _ e h0 z))]; exact h.at_ _ _ e
  · obtain ⟨v1, q1⟩ := k _ _ e1
    obtain ⟨v2, q2⟩ := k _ _ e2
    exact h.inj _ _ _ _ q1 q2 z
  · rw [upd_ne (fun z => hb r _ h0 z.symm)]; exact e
  · obtain ⟨u', q⟩ := k _ _ e
    exact .inl ⟨r', u', q, rfl⟩
theorem Rep.new (h : Rep M ad H) (hp : H p = none) (r : R) (h1 : M' r = some o) (h2 : ∀ r', r' ≠ r → M' r' = M r') (a1 : ad' r = p) (a2 : ∀ r', r' ≠ r → ad' r' = ad r') : Rep M' ad' (upd H p o) ∧ Mv M ad H M' ad' (upd H p o) := by
  refine ⟨⟨fun r' u e => ?_, fun r1 r2 u1 u2 e1 e2 z => ?_⟩, fun b u hb e => ?_, fun r' u e => ?_⟩
  · by_cases c : r' = r
    · rw [c, a1, upd_same]; rw [c, h1] at e; exact e
    · rw [h2 r' c] at e
      have g := h.at_ _ _ e
      rw [a2 r' c, upd_ne (fun z => by rw [z, hp] at g; cases g)]; exact g
  · by_cases c1 : r1 = r
    · by_cases c2 : r2 = r
      · rw [c1, c2]
      · rw [h2 r2 c2] at e2
        have g := h.at_ _ _ e2
        rw [c1, a1, a2 r2 c2] at z
        rw [← z, hp] at g; cases g
    · by_cases c2 : r2 = r
      · rw [h2 r1 c1] at e1
        have g := h.at_ _ _ e1
        rw [c2, a1, a2 r1 c1] at z
        rw [z, hp] at g; cases g
      · rw [h2 r1 c1] at e1
        rw [h2 r2 c2] at e2
        rw [a2 r1 c1, a2 r2 c2] at z
        exact h.inj _ _ _ _ e1 e2 z
  · rw [upd_ne (fun z => by rw [z, hp] at e; cases e)]; exact e
  · by_cases c : r' = r
    · rw [c, a1]; exact .inr hp
    · rw [h2 r' c] at e
      exact .inl ⟨r', u, e, (a2 r' c).symm⟩
/-- a new thing at one place, and a place that tells of it -/
theorem Rep.newset (h : Rep M ad H) (hp : H p = none) (r r0 : R) (hr : r0 ≠ r) (h0 : M r0 = some o0) (h1 : M' r = some o) (h3 : M' r0 = some o1) (h2 : ∀ r', r' ≠ r → r' ≠ r0 → M' r' = M r') (a1 : ad' r = p) (a2 : ∀ r', r' ≠ r → ad' r' = ad r') :
    Rep M' ad' (upd (upd H p o) (ad r0) o1) ∧ Mv M ad H M' ad' (upd (upd H p o) (ad r0) o1) := by
  classical
  obtain ⟨g1, g2⟩ := h.new (M' := fun r' => if r' = r then some o else M r') hp r (if_pos rfl) (fun r' c => if_neg c) a1 a2
  have e0 : (fun r' => if r' = r then some o else M r') r0 = some o0 := (if_neg hr).trans h0
  obtain ⟨g3, g4⟩ := g1.set (M' := M') r0 e0 h3 (fun r' c => by
    by_cases d : r' = r
    · rw [d, h1]; exact (if_pos rfl).symm
    · rw [h2 r' d c]; exact (if_neg d).symm)
  rw [a2 r0 hr] at g3 g4
  exact ⟨g3, g2.trans g4⟩
theorem Rep.old (h : Rep M ad H) (e : Old s l H H') (hs : Out M ad s) (hl : Out M ad l) : Rep M ad H' := ⟨fun r o q => e _ _ (fun z => hs r o q z) (fun z => hl r o q z) (h.at_ r o q), h.inj⟩
theorem Stm.mv {R S : Type} {M : R → Option HO} {ad : R → Addr} {M' : S → Option HO} {ad' : S → Addr} {n : Nat} (st : Stm H s l n) (a : Mv M ad H M' ad' H') (hs : Out M ad s) (hl : Out M ad l) : Stm H' s l n := by
  obtain ⟨ne, ns, x, c, d, g1, g2, g3⟩ := st
  exact ⟨ne, ns, x, c, d, a.keep _ _ hs g1, a.keep _ _ hl g2, g3⟩
end
end RR

set_option Elab.async false
set_option linter.all false
set_option maxRecDepth 100000
set_option maxHeartbeats 0
namespace K17
open PySem PySem.Spec PyProof.Rows L2 RC
section
variable {P : Program} {w : World} {K : PySem.W.Frag} {mg : Str → Option Value} {base : Heap}
/-! ### the model: two yards, what the law keeps of them -/
abbrev CH (K : PySem.W.Frag) : Addr := He.ga K "FileHandler"
def strK (ts : List (Str × Str)) : List (Key × V) := ts.map fun e => ((Sum.inr e.1 : Key), V.str e.2)
def txt (ts : List (Str × Str)) (s : Str) : Str := (ts.lookup s).getD ""
def putS (ts : List (Str × Str)) (s t : Str) : List (Str × Str) := if ts.any (fun e => decide (e.1 = s)) = true then ts.map (fun e => if e.1 = s then (e.1, t) else e) else ts ++ [(s, t)]
theorem valV_strK (s : Str) : ∀ ts : List (Str × Str), valV (strK ts) (Sum.inr s) = (ts.lookup s).map V.str
  | [] => rfl
  | e :: es => by
    by_cases h : e.1 = s
    · have h1 : valV (strK (e :: es)) (Sum.inr s) = some (V.str e.2) := valV_pos (p := ((Sum.inr e.1 : Key), V.str e.2)) (r := strK es) (congrArg Sum.inr h)
      rw [h1, List.lookup_cons, beq_iff_eq.mpr h.symm]; rfl
    · have h1 : valV (strK (e :: es)) (Sum.inr s) = valV (strK es) (Sum.inr s) := by
        show valV (((Sum.inr e.1 : Key), V.str e.2) :: strK es) (Sum.inr s) = _
        unfold valV
        rw [List.find?_cons, show decide ((Sum.inr e.1 : Key) = Sum.inr s) = false from decide_eq_false fun z => h (Sum.inr.inj z)]
      rw [h1, List.lookup_cons, show (s == e.1) = false from by simpa using fun z : s = e.1 => h z.symm, valV_strK s es]
theorem putK_strK (ts : List (Str × Str)) (s t : Str) : putK (strK ts) (Sum.inr s) (.str t) = strK (putS ts s t) := by
  unfold putK putS
  have e : (strK ts).any (fun p => decide (p.1 = (Sum.inr s : Key))) = ts.any (fun e => decide (e.1 = s)) := by
    unfold strK
    rw [List.any_map]
    congr 1
    funext e
    exact decide_eq_decide.mpr ⟨fun z => Sum.inr.inj z, fun z => congrArg Sum.inr z⟩
  rw [e]
  split
  · unfold strK
    rw [List.map_map, List.map_map]
    refine List.map_congr_left fun e _ => ?_
    show (if (Sum.inr e.1 : Key) = Sum.inr s then _ else _) = _
    by_cases c : e.1 = s
    · rw [if_pos (congrArg Sum.inr c)]
      show _ = ((Sum.inr (if e.1 = s then (e.1, t) else e).1 : Key), V.str (if e.1 = s then (e.1, t) else e).2)
      rw [if_pos c]
    · rw [if_neg (fun z => c (Sum.inr.inj z))]
      show _ = ((Sum.inr (if e.1 = s then (e.1, t) else e).1 : Key), V.str (if e.1 = s then (e.1, t) else e).2)
      rw [if_neg c]
  · unfold strK; rw [List.map_append]; rfl
theorem putS_length (ts : List (Str × Str)) (s t : Str) : (putS ts s t).length ≤ ts.length + 1 := by
  unfold putS
  split
  · rw [List.length_map]; omega
  · rw [List.length_append]; exact Nat.le_refl _
/-- no text is longer than n, nor are there more of them -/
def Cap (ts : List (Str × Str)) (n : Nat) : Prop := ts.length ≤ n ∧ ∀ e ∈ ts, e.2.length ≤ n
theorem txt_cap {ts : List (Str × Str)} {n : Nat} (c : Cap ts n) (s : Str) : (txt ts s).length ≤ n := by
  unfold txt
  cases e : ts.lookup s with
  | none => exact Nat.zero_le _
  | some t =>
    have hm : ∃ k, (k, t) ∈ ts := by
      clear c
      induction ts with
      | nil => cases e
      | cons a r ih =>
        rw [List.lookup_cons] at e
        split at e
        · cases e; exact ⟨a.1, List.mem_cons_self⟩
        · obtain ⟨k, hk⟩ := ih e; exact ⟨k, List.mem_cons_of_mem _ hk⟩
    obtain ⟨k, hk⟩ := hm
    exact c.2 _ hk
theorem len_app (x y : Str) : (x ++ y).length = x.length + y.length := by
  rw [TL.len_tl, TL.tl_append, List.length_append, ← TL.len_tl, ← TL.len_tl]
theorem app_assoc (x y z : Str) : x ++ y ++ z = x ++ (y ++ z) := by
  refine TL.ext_tl ?_
  rw [TL.tl_append, TL.tl_append, TL.tl_append, TL.tl_append, List.append_assoc]
theorem putS_cap {ts : List (Str × Str)} {n k : Nat} (c : Cap ts n) (s : Str) {t : Str} (ht : t.length ≤ n + k) (hk : 1 ≤ k) : Cap (putS ts s t) (n + k) := by
  refine ⟨Nat.le_trans (putS_length _ _ _) (by have := c.1; omega), fun e he => ?_⟩
  unfold putS at he
  split at he
  · obtain ⟨e', h1, rfl⟩ := List.mem_map.mp he
    split
    · exact ht
    · exact Nat.le_trans (c.2 _ h1) (by omega)
  · rcases List.mem_append.mp he with h | h
    · exact Nat.le_trans (c.2 _ h) (by omega)
    · cases List.mem_singleton.mp h; exact ht
/-- a yard with files, and a handler of it -/
structure FS where
  now : Int
  files : List (Str × Str)
  tim : Str → Int
  md : List V
  hd : Option (List (Str × V))
  hf : Bool
inductive Ro
  | y | fi | na | nu | md | fr | h | hl
  | row (k : Str)
  | x (j : Nat)
def yFs (s : FS) (ad : Ro → Addr) : List (Str × V) := yF s.now (ad (.x 1)) (ad .fi) (ad .na) (ad .nu) (ad (.x 2)) (ad .md) (ad (.x 3)) (ad .fr) (ad (.x 4)) (ad (.x 5))
def filK (fs : List (Str × Str)) (ad : Ro → Addr) : List (Key × V) := fs.map fun e => ((Sum.inr e.1 : Key), V.ref (ad (.row e.1)))
def nms0 (K : PySem.W.Frag) : List (Key × V) := kv_FIRST_NAMES.map fun q => (q.1, q.2.v K)
def nums0 (K : PySem.W.Frag) : List (Key × V) := kv_FIRST_NUMBERS.map fun q => (q.1, q.2.v K)
def Y1 (K : PySem.W.Frag) (s : FS) (ad : Ro → Addr) : Ro → Option HO
  | .y => some (.ins (CY K) (ad (.x 0)) (yFs s ad))
  | .fi => some (.dK (filK s.files ad))
  | .na => some (.dK (nms0 K))
  | .nu => some (.dK (nums0 K))
  | .md => some (.lst s.md)
  | .fr => some (.lst [])
  | .h => s.hd.map fun fs => .ins (CRo K) (ad (.x 9)) fs
  | .hl => if s.hf = true then some (.lst []) else none
  | .row k => (s.files.lookup k).map fun t => .lst [.str t, .int (s.tim k)]
  | _ => none
abbrev YR (K : PySem.W.Frag) (s : FS) (ad : Ro → Addr) (H : Hp) : Prop := RR.Rep (Y1 K s ad) ad H
abbrev YM (K : PySem.W.Frag) (s : FS) (ad : Ro → Addr) (H : Hp) (s' : FS) (ad' : Ro → Addr) (H' : Hp) : Prop := RR.Mv (Y1 K s ad) ad H (Y1 K s' ad') ad' H'
section
variable {s : FS} {ad : Ro → Addr} {H : Hp}
theorem _root_.RR.Rep.y_ (R : YR K s ad H) : H (ad .y) = some (.ins (CY K) (ad (.x 0)) (yFs s ad)) := R.at_ .y _ rfl
theorem _root_.RR.Rep.fi_ (R : YR K s ad H) : H (ad .fi) = some (.dK (filK s.files ad)) := R.at_ .fi _ rfl
theorem _root_.RR.Rep.na_ (R : YR K s ad H) : H (ad .na) = some (.dK (nms0 K)) := R.at_ .na _ rfl
theorem _root_.RR.Rep.nu_ (R : YR K s ad H) : H (ad .nu) = some (.dK (nums0 K)) := R.at_ .nu _ rfl
theorem _root_.RR.Rep.md_ (R : YR K s ad H) : H (ad .md) = some (.lst s.md) := R.at_ .md _ rfl
theorem _root_.RR.Rep.fr_ (R : YR K s ad H) : H (ad .fr) = some (.lst []) := R.at_ .fr _ rfl
theorem _root_.RR.Rep.h_ (R : YR K s ad H) {fs : List (Str × V)} (h : s.hd = some fs) : H (ad .h) = some (.ins (CRo K) (ad (.x 9)) fs) := R.at_ .h _ (by show s.hd.map _ = _; rw [h]; rfl)
theorem _root_.RR.Rep.hl_ (R : YR K s ad H) (h : s.hf = true) : H (ad .hl) = some (.lst []) := R.at_ .hl _ (if_pos h)
theorem _root_.RR.Rep.row_ (R : YR K s ad H) {k t : Str} (h : s.files.lookup k = some t) : H (ad (.row k)) = some (.lst [.str t, .int (s.tim k)]) := R.at_ (.row k) _ (by show (s.files.lookup k).map _ = _; rw [h]; rfl)
end
/-- all places but those of files' rows -/
def Fx (ad ad' : Ro → Addr) : Prop := ∀ r, (∀ k, r ≠ .row k) → ad' r = ad r
theorem Fx.refl (ad : Ro → Addr) : Fx ad ad := fun _ _ => rfl
theorem Fx.trans {a b c : Ro → Addr} (h : Fx a b) (k : Fx b c) : Fx a c := fun r hr => (k r hr).trans (h r hr)
def FS.put (s : FS) (k t : Str) : FS := { s with files := putS s.files k t, tim := fun x => if x = k then s.now else s.tim x }
def FS.rem (s : FS) (k : Str) : FS := { s with files := s.files.filter fun e => decide (e.1 ≠ k) }
def FS.ren (s : FS) (a b t : Str) : FS := { s with files := putS (s.files.filter fun e => decide (e.1 ≠ a)) b t, tim := fun x => if x = b then s.tim a else s.tim x }
def FS.setH (s : FS) (fs : List (Str × V)) : FS := { s with hd := some fs }
theorem lkc (x : Str) (e : Str × Str) (r : List (Str × Str)) : (e :: r).lookup x = if x = e.1 then some e.2 else r.lookup x := by
  rw [List.lookup_cons]
  by_cases d : x = e.1
  · rw [show (x == e.1) = true from beq_iff_eq.mpr d, if_pos d]
  · rw [show (x == e.1) = false from beq_eq_false_iff_ne.mpr d, if_neg d]
theorem lk_map (k t x : Str) : ∀ ts : List (Str × Str), (ts.map fun e => if e.1 = k then (e.1, t) else e).lookup x = if x = k then (ts.lookup x).map (fun _ => t) else ts.lookup x
  | [] => by split <;> rfl
  | e :: r => by
    have ih := lk_map k t x r
    rw [List.map_cons, lkc, lkc, ih]
    by_cases c : e.1 = k
    · rw [if_pos c]
      by_cases d : x = k
      · have d2 : x = e.1 := d.trans c.symm
        rw [if_pos d2, if_pos d, if_pos d2]; rfl
      · have d2 : ¬ x = e.1 := fun z => d (z.trans c)
        rw [if_neg d2, if_neg d, if_neg d, if_neg d2]
    · rw [if_neg c]
      by_cases d : x = k
      · have d2 : ¬ x = e.1 := fun z => c (z.symm.trans d)
        rw [if_neg d2, if_pos d, if_pos d, if_neg d2]
      · rw [if_neg d, if_neg d]
theorem lk_any (k : Str) : ∀ ts : List (Str × Str), ts.any (fun e => decide (e.1 = k)) = (ts.lookup k).isSome
  | [] => rfl
  | e :: r => by
    rw [List.any_cons, lkc, lk_any k r]
    by_cases c : e.1 = k
    · rw [decide_eq_true c, if_pos c.symm]; rfl
    · rw [decide_eq_false c, if_neg (fun z => c z.symm)]; rfl
theorem lk_app (x : Str) (b : Str × Str) : ∀ ts : List (Str × Str), (ts ++ [b]).lookup x = (ts.lookup x).or (if x = b.1 then some b.2 else none)
  | [] => by
    rw [List.nil_append, lkc]; rfl
  | e :: r => by
    rw [List.cons_append, lkc, lkc, lk_app x b r]
    by_cases d : x = e.1
    · rw [if_pos d, if_pos d]; rfl
    · rw [if_neg d, if_neg d]
theorem lookup_putS (ts : List (Str × Str)) (k t x : Str) : (putS ts k t).lookup x = if x = k then some t else ts.lookup x := by
  unfold putS
  rw [lk_any]
  cases e : ts.lookup k with
  | some u =>
    rw [if_pos (show (some u).isSome = true from rfl), lk_map]
    by_cases d : x = k
    · rw [if_pos d, if_pos d, d, e]; rfl
    · rw [if_neg d, if_neg d]
  | none =>
    rw [if_neg (show ¬ (none : Option Str).isSome = true by decide), lk_app]
    by_cases d : x = k
    · rw [if_pos d, if_pos d, d, e]; rfl
    · rw [if_neg d, if_neg d]; cases ts.lookup x <;> rfl
theorem lookup_rem (k x : Str) : ∀ ts : List (Str × Str), (ts.filter fun e => decide (e.1 ≠ k)).lookup x = if x = k then none else ts.lookup x
  | [] => by split <;> rfl
  | e :: r => by
    have ih := lookup_rem k x r
    by_cases c : e.1 = k
    · rw [List.filter_cons_of_neg (by simp [c]), ih, lkc]
      by_cases d : x = k
      · rw [if_pos d, if_pos d]
      · rw [if_neg d, if_neg d, if_neg (fun z => d (z.trans c))]
    · rw [List.filter_cons_of_pos (by simp [c]), lkc, lkc, ih]
      by_cases d : x = k
      · have d2 : ¬ x = e.1 := fun z => c (z.symm.trans d)
        rw [if_neg d2, if_pos d, if_pos d]
      · rw [if_neg d, if_neg d]
/-- a file is put: a new row at p -/
def adR (ad : Ro → Addr) (k : Str) (p : Addr) : Ro → Addr
  | .row x => if x = k then p else ad (.row x)
  | r => ad r
theorem fx_adR (ad : Ro → Addr) (k : Str) (p : Addr) : Fx ad (adR ad k p) := fun r hr => by
  cases r with
  | row x => exact absurd rfl (hr x)
  | _ => rfl
section
variable {s : FS} {ad : Ro → Addr} {H : Hp}
theorem filK_put (fs : List (Str × Str)) (ad : Ro → Addr) (k t : Str) (p : Addr) : filK (putS fs k t) (adR ad k p) = putK (filK fs ad) (Sum.inr k) (.ref p) := by
  unfold putK putS
  have e : (filK fs ad).any (fun q => decide (q.1 = (Sum.inr k : Key))) = fs.any (fun e => decide (e.1 = k)) := by
    unfold filK
    rw [List.any_map]
    congr 1
    funext e
    exact decide_eq_decide.mpr ⟨fun z => Sum.inr.inj z, fun z => congrArg Sum.inr z⟩
  rw [e]
  split
  · unfold filK
    rw [List.map_map, List.map_map]
    refine List.map_congr_left fun e _ => ?_
    show ((Sum.inr (if e.1 = k then (e.1, t) else e).1 : Key), V.ref (adR ad k p (.row (if e.1 = k then (e.1, t) else e).1))) = (if (Sum.inr e.1 : Key) = Sum.inr k then _ else _)
    by_cases c : e.1 = k
    · rw [if_pos c, if_pos (congrArg Sum.inr c)]
      show ((Sum.inr e.1 : Key), V.ref (if e.1 = k then p else ad (.row e.1))) = _
      rw [if_pos c]
    · rw [if_neg c, if_neg (fun z => c (Sum.inr.inj z))]
      show ((Sum.inr e.1 : Key), V.ref (if e.1 = k then p else ad (.row e.1))) = _
      rw [if_neg c]
  · rename_i h
    unfold filK
    rw [List.map_append]
    congr 1
    · refine List.map_congr_left fun e he => ?_
      have c : e.1 ≠ k := fun z => h (List.any_eq_true.mpr ⟨e, he, decide_eq_true z⟩)
      show ((Sum.inr e.1 : Key), V.ref (if e.1 = k then p else ad (.row e.1))) = _
      rw [if_neg c]
    · show [((Sum.inr k : Key), V.ref (if k = k then p else ad (.row k)))] = _
      rw [if_pos rfl]
theorem filK_rem (fs : List (Str × Str)) (ad : Ro → Addr) (k : Str) : filK (fs.filter fun e => decide (e.1 ≠ k)) ad = dropK (filK fs ad) (Sum.inr k) := by
  unfold dropK filK
  rw [List.filter_map]
  congr 1
  refine List.filter_congr fun e _ => ?_
  exact decide_eq_decide.mpr ⟨fun h z => h (Sum.inr.inj z), fun h z => h (congrArg Sum.inr z)⟩
theorem strK_rem (fs : List (Str × Str)) (k : Str) : strK (fs.filter fun e => decide (e.1 ≠ k)) = dropK (strK fs) (Sum.inr k) := by
  unfold dropK strK
  rw [List.filter_map]
  congr 1
  refine List.filter_congr fun e _ => ?_
  exact decide_eq_decide.mpr ⟨fun h z => h (Sum.inr.inj z), fun h z => h (congrArg Sum.inr z)⟩
def Ydrop (K : PySem.W.Frag) (s : FS) (ad : Ro → Addr) (k : Str) : Ro → Option HO
  | .row x => ((s.files.filter fun e => decide (e.1 ≠ k)).lookup x).map fun t => .lst [.str t, .int (s.tim x)]
  | r => Y1 K s ad r
theorem rep_sub {R : Type} {M M' : R → Option HO} {ad : R → Addr} {H : Hp} (h : RR.Rep M ad H) (k : ∀ r o, M' r = some o → M r = some o) : RR.Rep M' ad H ∧ RR.Mv M ad H M' ad H :=
  ⟨⟨fun r o e => h.at_ r o (k r o e), fun r r' o o' e e' z => h.inj r r' o o' (k _ _ e) (k _ _ e') z⟩, ⟨fun _ _ _ e => e, fun r u e => .inl ⟨r, u, k r u e, rfl⟩⟩⟩
theorem _root_.RR.Rep.rem {s : FS} {ad : Ro → Addr} {H : Hp} (R : YR K s ad H) (k : Str) : YR K (s.rem k) ad (upd H (ad .fi) (.dK (dropK (filK s.files ad) (Sum.inr k)))) ∧ YM K s ad H (s.rem k) ad (upd H (ad .fi) (.dK (dropK (filK s.files ad) (Sum.inr k)))) := by
  obtain ⟨g1, g2⟩ := rep_sub (M' := Ydrop K s ad k) R fun r o e => by
    cases r with
    | row x =>
      have e : ((s.files.filter fun e => decide (e.1 ≠ k)).lookup x).map (fun t => HO.lst [.str t, .int (s.tim x)]) = some o := e
      rw [lookup_rem] at e
      by_cases c : x = k
      · rw [if_pos c] at e; cases e
      · rw [if_neg c] at e; exact e
    | _ => exact e
  obtain ⟨g3, g4⟩ := RR.Rep.set (M' := Y1 K (s.rem k) ad) (o := .dK (dropK (filK s.files ad) (Sum.inr k))) g1 .fi rfl (congrArg (fun z => some (HO.dK z)) (filK_rem s.files ad k)) (fun r hr => by cases r <;> first | rfl | exact absurd rfl hr)
  exact ⟨g3, g2.trans g4⟩
theorem _root_.RR.Rep.put {s : FS} {ad : Ro → Addr} {H : Hp} {p : Addr} (R : YR K s ad H) (k t : Str) (hp : H p = none) : YR K (s.put k t) (adR ad k p) (upd (upd H p (.lst [.str t, .int s.now])) (ad .fi) (.dK (putK (filK s.files ad) (Sum.inr k) (.ref p)))) ∧
    YM K s ad H (s.put k t) (adR ad k p) (upd (upd H p (.lst [.str t, .int s.now])) (ad .fi) (.dK (putK (filK s.files ad) (Sum.inr k) (.ref p)))) := by
  refine RR.Rep.newset (M' := Y1 K (s.put k t) (adR ad k p)) (ad' := adR ad k p) R hp (.row k) .fi (fun h => nomatch h) rfl ?_ ?_ (fun r h1 h2 => ?_) (if_pos rfl) (fun r hr => ?_)
  · show ((putS s.files k t).lookup k).map (fun u => HO.lst [.str u, .int (if k = k then s.now else s.tim k)]) = _
    rw [lookup_putS, if_pos rfl, if_pos rfl]; rfl
  · exact congrArg (fun z => some (HO.dK z)) (filK_put s.files ad k t p)
  · cases r with
    | row x =>
      have c : x ≠ k := fun z => h1 (by rw [z])
      show ((putS s.files k t).lookup x).map (fun u => HO.lst [.str u, .int (if x = k then s.now else s.tim x)]) = _
      rw [lookup_putS, if_neg c, if_neg c]; rfl
    | fi => exact absurd rfl h2
    | _ => rfl
  · cases r with
    | row x => exact if_neg fun z => hr (by rw [z])
    | _ => rfl
end
section
variable {s : FS} {ad : Ro → Addr} {H : Hp}
theorem _root_.RR.Rep.setH (R : YR K s ad H) {fs0 : List (Str × V)} (h : s.hd = some fs0) (fs : List (Str × V)) : YR K (s.setH fs) ad (upd H (ad .h) (.ins (CRo K) (ad (.x 9)) fs)) ∧ YM K s ad H (s.setH fs) ad (upd H (ad .h) (.ins (CRo K) (ad (.x 9)) fs)) :=
  RR.Rep.set R .h (show s.hd.map _ = _ by rw [h]; rfl) rfl fun r hr => by cases r <;> first | rfl | exact absurd rfl hr
theorem _root_.RR.Rep.ren {a b t : Str} (R : YR K s ad H) (ha : s.files.lookup a = some t) (ne : a ≠ b) {kvs : List (Key × V)} (ek : kvs = filK (putS (s.files.filter fun e => decide (e.1 ≠ a)) b t) (adR ad b (ad (.row a)))) :
    YR K (s.ren a b t) (adR ad b (ad (.row a))) (upd H (ad .fi) (.dK kvs)) ∧ YM K s ad H (s.ren a b t) (adR ad b (ad (.row a))) (upd H (ad .fi) (.dK kvs)) := by
  have Ra : Y1 K s ad (.row a) = some (.lst [.str t, .int (s.tim a)]) := by show (s.files.lookup a).map _ = _; rw [ha]; rfl
  have Rf : Y1 K s ad .fi = some (.dK (filK s.files ad)) := rfl
  have lk : ∀ x, (putS (s.files.filter fun e => decide (e.1 ≠ a)) b t).lookup x = if x = b then some t else if x = a then none else s.files.lookup x := fun x => by rw [lookup_putS, lookup_rem]
  -- whence each place of the new one comes
  have src : ∀ r u, Y1 K (s.ren a b t) (adR ad b (ad (.row a))) r = some u → ∃ r' u', Y1 K s ad r' = some u' ∧ adR ad b (ad (.row a)) r = ad r' ∧ ((r = .row b ∧ r' = .row a) ∨ (r ≠ .row b ∧ r' = r ∧ r ≠ .row a)) ∧ (r ≠ .fi → u' = u) := fun r u e => by
    cases r with
    | row x =>
      have e : ((putS (s.files.filter fun e => decide (e.1 ≠ a)) b t).lookup x).map (fun t => HO.lst [.str t, .int (if x = b then s.tim a else s.tim x)]) = some u := e
      rw [lk] at e
      by_cases c : x = b
      · rw [if_pos c, if_pos c] at e
        cases e
        exact ⟨.row a, _, Ra, if_pos c, .inl ⟨by rw [c], rfl⟩, fun _ => rfl⟩
      · rw [if_neg c, if_neg c] at e
        by_cases d : x = a
        · rw [if_pos d] at e; cases e
        · rw [if_neg d] at e
          exact ⟨.row x, u, e, if_neg c, .inr ⟨fun z => c (Ro.row.inj z), rfl, fun z => d (Ro.row.inj z)⟩, fun _ => rfl⟩
    | fi => exact ⟨.fi, _, Rf, rfl, .inr ⟨(fun z => nomatch z), rfl, fun z => nomatch z⟩, fun z => absurd rfl z⟩
    | y => exact ⟨.y, u, e, rfl, .inr ⟨(fun z => nomatch z), rfl, fun z => nomatch z⟩, fun _ => rfl⟩
    | na => exact ⟨.na, u, e, rfl, .inr ⟨(fun z => nomatch z), rfl, fun z => nomatch z⟩, fun _ => rfl⟩
    | nu => exact ⟨.nu, u, e, rfl, .inr ⟨(fun z => nomatch z), rfl, fun z => nomatch z⟩, fun _ => rfl⟩
    | md => exact ⟨.md, u, e, rfl, .inr ⟨(fun z => nomatch z), rfl, fun z => nomatch z⟩, fun _ => rfl⟩
    | fr => exact ⟨.fr, u, e, rfl, .inr ⟨(fun z => nomatch z), rfl, fun z => nomatch z⟩, fun _ => rfl⟩
    | h => exact ⟨.h, u, e, rfl, .inr ⟨(fun z => nomatch z), rfl, fun z => nomatch z⟩, fun _ => rfl⟩
    | hl => exact ⟨.hl, u, e, rfl, .inr ⟨(fun z => nomatch z), rfl, fun z => nomatch z⟩, fun _ => rfl⟩
    | x j => exact nomatch (show none = some u from e)
  refine ⟨⟨fun r u e => ?_, fun r1 r2 u1 u2 e1 e2 z => ?_⟩, fun p o hp e => ?_, fun r u e => ?_⟩
  · by_cases c : r = .fi
    · subst c
      have e : some (HO.dK (filK (putS (s.files.filter fun e => decide (e.1 ≠ a)) b t) (adR ad b (ad (.row a))))) = some u := e
      rw [← ek] at e
      show upd H (ad .fi) _ (ad .fi) = _
      rw [upd_same]; exact e
    · obtain ⟨r', u', e', z, w, k⟩ := src r u e
      have nf : r' ≠ .fi := by
        rcases w with ⟨_, w⟩ | ⟨_, w, _⟩
        · rw [w]; exact fun z => nomatch z
        · rw [w]; exact c
      rw [z, upd_ne (fun q => nf (R.inj _ _ _ _ e' Rf q)), R.at_ _ _ e', k c]
  · obtain ⟨r1', u1', e1', z1, w1, _⟩ := src r1 u1 e1
    obtain ⟨r2', u2', e2', z2, w2, _⟩ := src r2 u2 e2
    rw [z1, z2] at z
    have q := R.inj _ _ _ _ e1' e2' z
    rcases w1 with ⟨a1, b1⟩ | ⟨a1, b1, c1⟩
    · rcases w2 with ⟨a2, b2⟩ | ⟨a2, b2, c2⟩
      · rw [a1, a2]
      · exact absurd (b2.symm.trans (q.symm.trans b1)) c2
    · rcases w2 with ⟨a2, b2⟩ | ⟨a2, b2, c2⟩
      · exact absurd (b1.symm.trans (q.trans b2)) c1
      · rw [← b1, ← b2]; exact q
  · rw [upd_ne (fun z => hp .fi _ Rf z.symm)]; exact e
  · obtain ⟨r', u', e', z, _⟩ := src r u e
    exact .inl ⟨r', u', e', z.symm⟩
end
theorem yes_if {σ : L2.St} {H : Hp} {A B : Hp → Prop} (h : A H) : tYes σ H (fun b H3 => if b = true then A H3 else B H3) := by
  show if true = true then A H else B H
  rw [if_pos rfl]; exact h
theorem seq_of {a b : TS} {D : Ends} {σ : L2.St} {H : Hp} (Mid : L2.St → Hp → Prop) (hA : ∀ b' : TS, (∀ σ' H', Mid σ' H' → b' D σ' H') → tSeq a b' D σ H) (hB : ∀ σ' H', Mid σ' H' → b D σ' H') : tSeq a b D σ H := hA b hB
end
end K17

set_option Elab.async false
set_option linter.all false
set_option maxRecDepth 100000
set_option maxHeartbeats 0
set_option pp.maxSteps 1000
local macro_rules | `(tactic| walk_at "cls") => `(tactic| first
  | with_reducible exact K17.Txt.c_Logger (by assumption)
  | with_reducible exact K17.Txt.c_StreamHandler (by assumption)
  | with_reducible exact K17.Txt.c_RotatingFileHandler (by assumption)
  | with_reducible exact K17.Txt.c_LogRecord (by assumption)
  | with_reducible exact K17.Txt.c_Field (by assumption)
  | with_reducible exact K17.Txt.c_Formatter (by assumption)
  | with_reducible exact K17.Txt.c_Yard (by assumption))
local macro_rules | `(tactic| walk_at "noat") => `(tactic| first
  | with_reducible exact K17.Txt.n_Logger_filters (by assumption)
  | with_reducible exact K17.Txt.n_Logger_yard (by assumption)
  | with_reducible exact K17.Txt.n_Logger_name (by assumption)
  | with_reducible exact K17.Txt.n_Logger_level (by assumption)
  | with_reducible exact K17.Txt.n_Logger_propagate (by assumption)
  | with_reducible exact K17.Txt.n_Logger_disabled (by assumption)
  | with_reducible exact K17.Txt.n_Logger_handlers (by assumption)
  | with_reducible exact K17.Txt.n_Logger_parent (by assumption)
  | with_reducible exact K17.Txt.n_StreamHandler_filters (by assumption)
  | with_reducible exact K17.Txt.n_StreamHandler_yard (by assumption)
  | with_reducible exact K17.Txt.n_StreamHandler_level (by assumption)
  | with_reducible exact K17.Txt.n_StreamHandler_formatter (by assumption)
  | with_reducible exact K17.Txt.n_StreamHandler_name (by assumption)
  | with_reducible exact K17.Txt.n_StreamHandler_terminator (by assumption)
  | with_reducible exact K17.Txt.n_StreamHandler_closed (by assumption)
  | with_reducible exact K17.Txt.n_StreamHandler_stream (by assumption)
  | with_reducible exact K17.Txt.n_RotatingFileHandler_filters (by assumption)
  | with_reducible exact K17.Txt.n_RotatingFileHandler_yard (by assumption)
  | with_reducible exact K17.Txt.n_RotatingFileHandler_level (by assumption)
  | with_reducible exact K17.Txt.n_RotatingFileHandler_formatter (by assumption)
  | with_reducible exact K17.Txt.n_RotatingFileHandler_name (by assumption)
  | with_reducible exact K17.Txt.n_RotatingFileHandler_terminator (by assumption)
  | with_reducible exact K17.Txt.n_RotatingFileHandler_closed (by assumption)
  | with_reducible exact K17.Txt.n_RotatingFileHandler_filename (by assumption)
  | with_reducible exact K17.Txt.n_RotatingFileHandler_mode (by assumption)
  | with_reducible exact K17.Txt.n_RotatingFileHandler_delay (by assumption)
  | with_reducible exact K17.Txt.n_RotatingFileHandler_is_open (by assumption)
  | with_reducible exact K17.Txt.n_RotatingFileHandler_shut (by assumption)
  | with_reducible exact K17.Txt.n_RotatingFileHandler_max_bytes (by assumption)
  | with_reducible exact K17.Txt.n_RotatingFileHandler_backup_count (by assumption)
  | with_reducible exact K17.Txt.n_RotatingFileHandler_namer (by assumption)
  | with_reducible exact K17.Txt.n_LogRecord_name (by assumption)
  | with_reducible exact K17.Txt.n_LogRecord_levelno (by assumption)
  | with_reducible exact K17.Txt.n_LogRecord_levelname (by assumption)
  | with_reducible exact K17.Txt.n_LogRecord_msg (by assumption)
  | with_reducible exact K17.Txt.n_LogRecord_given (by assumption)
  | with_reducible exact K17.Txt.n_LogRecord_created (by assumption)
  | with_reducible exact K17.Txt.n_LogRecord_extra (by assumption)
  | with_reducible exact K17.Txt.n_Field_name (by assumption)
  | with_reducible exact K17.Txt.n_Field_conversion (by assumption)
  | with_reducible exact K17.Txt.n_Field_fill (by assumption)
  | with_reducible exact K17.Txt.n_Field_align (by assumption)
  | with_reducible exact K17.Txt.n_Field_width (by assumption)
  | with_reducible exact K17.Txt.n_Formatter_fmt (by assumption)
  | with_reducible exact K17.Txt.n_Formatter_style (by assumption)
  | with_reducible exact K17.Txt.n_Formatter_parts (by assumption)
  | with_reducible exact K17.Txt.n_Formatter_defaults (by assumption)
  | with_reducible exact K17.Txt.n_Yard_clock (by assumption)
  | with_reducible exact K17.Txt.n_Yard_stream_texts (by assumption)
  | with_reducible exact K17.Txt.n_Yard_file_rows (by assumption)
  | with_reducible exact K17.Txt.n_Yard_names_of (by assumption)
  | with_reducible exact K17.Txt.n_Yard_numbers_of (by assumption)
  | with_reducible exact K17.Txt.n_Yard_bar_level (by assumption)
  | with_reducible exact K17.Txt.n_Yard_logger_map (by assumption)
  | with_reducible exact K17.Txt.n_Yard_made (by assumption)
  | with_reducible exact K17.Txt.n_Yard_handler_names (by assumption)
  | with_reducible exact K17.Txt.n_Yard_failure_rows (by assumption)
  | with_reducible exact K17.Txt.n_Yard_root (by assumption)
  | with_reducible exact K17.Txt.n_Yard_last_resort (by assumption))
local macro_rules | `(tactic| walk_at "hp") => `(tactic| first
  | with_reducible assumption
  | with_reducible exact L2.upd_same
  | ((with_reducible apply RW.at_upd); (focus (walk_at "ne"; done)); (focus (walk_at "hp"; done)))
  | ((with_reducible apply RW.at_same); (focus (with_reducible assumption; done)); (focus (walk_at "hp"; done)))
  | ((with_reducible apply RW.at_old); (focus (with_reducible assumption; done)); (focus (walk_at "ne"; done)); (focus (walk_at "ne"; done)); (focus (walk_at "hp"; done))))
local macro_rules | `(tactic| walk_at "ne") => `(tactic| first
  | with_reducible assumption
  | with_reducible exact Ne.symm (by with_reducible assumption)
  | with_reducible exact RW.ne_upd (by with_reducible assumption)
  | with_reducible exact Ne.symm (RW.ne_upd (by with_reducible assumption))
  | ((with_reducible apply RW.ne_new); (focus (with_reducible assumption; done)); (focus (walk_at "hp"; done)))
  | ((with_reducible apply RW.ne_new'); (focus (with_reducible assumption; done)); (focus (walk_at "hp"; done)))
  | ((with_reducible apply RW.ne_kind); (focus (walk_at "hp"; done)); (focus (walk_at "hp"; done)); (exact fun z => nomatch z)))
local macro_rules | `(tactic| walk_at "no") => `(tactic| first
  | with_reducible assumption
  | ((with_reducible apply RW.no_upd); (focus (walk_at "ne"; done)); (focus (walk_at "no"; done)))
  | ((with_reducible apply RW.free_same); (focus (with_reducible assumption; done)); (focus (with_reducible assumption; done))))
local macro_rules | `(tactic| walk_at "sm") => `(tactic| first
  | with_reducible assumption
  | with_reducible exact L2.Same.refl _
  | ((with_reducible apply RW.same_put_new); (focus (walk_at "sm"; done)); (focus (walk_at "no"; done)))
  | ((with_reducible apply RW.same_put); (focus (walk_at "sm"; done)); (focus (walk_at "no"; done)))
  | ((with_reducible apply RW.same_then); (focus (with_reducible assumption; done)); (focus (walk_at "sm"; done))))
local macro_rules | `(tactic| walk_at "sq") => `(tactic| first
  | with_reducible assumption
  | ((with_reducible apply L2.SqL.of); (focus (walk_at "hp"; done)))
  | ((with_reducible apply L2.SqT.of); (focus (walk_at "hp"; done)))
  | ((with_reducible apply RW.sql_same); (focus (with_reducible assumption; done)); (focus (walk_at "sm"; done)))
  | ((with_reducible apply RW.sqt_same); (focus (with_reducible assumption; done)); (focus (walk_at "sm"; done))))
local macro_rules | `(tactic| walk_at "pr") => `(tactic| first
  | with_reducible exact PySem.Paired.nil
  | ((with_reducible apply PySem.Paired.cons); (focus (first | exact L2.ClsV.ty _ | exact L2.ClsV.own _; done)); (focus (walk_at "pr"; done))))
local macro_rules | `(tactic| walk_at "stm") => `(tactic| first
  | with_reducible assumption
  | ((with_reducible apply RW.stm_upd); (focus (walk_at "ne"; done)); (focus (walk_at "ne"; done)); (focus (walk_at "stm"; done)))
  | ((with_reducible apply RW.stm_same); (focus (with_reducible assumption; done)); (focus (walk_at "sm"; done))))
local macro_rules | `(tactic| walk_at "od") => `(tactic| first
  | with_reducible assumption
  | with_reducible exact RC.Old.refl _
  | ((with_reducible apply RW.old_upd); (focus (walk_at "od"; done)); (focus (walk_at "no"; done)))
  | ((with_reducible apply RW.old_then); (focus (with_reducible assumption; done)); (focus (walk_at "od"; done)))
  | ((with_reducible apply RW.old_same); (focus (walk_at "od"; done)); (focus (with_reducible assumption; done))))
local macro_rules | `(tactic| walk_at "num") => `(tactic| first
  | exact Nat.le_of_ble_eq_true rfl
  | omega
  | (simp only [List.length_cons, List.length_nil, List.length_append, List.length_map, List.length_replicate, List.length_take, PySem.sizeLine_eq]; omega))
local macro_rules | `(tactic| walk_at "ki") => `(tactic| first
  | with_reducible exact RW.k_int_int
  | with_reducible exact RW.k_bool_int
  | with_reducible exact RW.k_str_int
  | with_reducible exact RW.k_NoneType_int
  | with_reducible exact RW.k_list_int
  | with_reducible exact RW.k_tuple_int
  | with_reducible exact RW.k_dict_int)
local macro_rules | `(tactic| walk_at "kb") => `(tactic| first
  | with_reducible exact RW.k_int_bool
  | with_reducible exact RW.k_bool_bool
  | with_reducible exact RW.k_str_bool
  | with_reducible exact RW.k_NoneType_bool
  | with_reducible exact RW.k_list_bool
  | with_reducible exact RW.k_tuple_bool
  | with_reducible exact RW.k_dict_bool)
local macro_rules | `(tactic| walk_at "ks") => `(tactic| first
  | with_reducible exact RW.k_int_str
  | with_reducible exact RW.k_bool_str
  | with_reducible exact RW.k_str_str
  | with_reducible exact RW.k_NoneType_str
  | with_reducible exact RW.k_list_str
  | with_reducible exact RW.k_tuple_str
  | with_reducible exact RW.k_dict_str)
local macro_rules | `(tactic| walk_at "kl") => `(tactic| first
  | with_reducible exact RW.k_int_list
  | with_reducible exact RW.k_bool_list
  | with_reducible exact RW.k_str_list
  | with_reducible exact RW.k_NoneType_list
  | with_reducible exact RW.k_list_list
  | with_reducible exact RW.k_tuple_list
  | with_reducible exact RW.k_dict_list)
local macro_rules | `(tactic| walk_at "kt") => `(tactic| first
  | with_reducible exact RW.k_int_tuple
  | with_reducible exact RW.k_bool_tuple
  | with_reducible exact RW.k_str_tuple
  | with_reducible exact RW.k_NoneType_tuple
  | with_reducible exact RW.k_list_tuple
  | with_reducible exact RW.k_tuple_tuple
  | with_reducible exact RW.k_dict_tuple)
local macro_rules | `(tactic| walk_at "kd") => `(tactic| first
  | with_reducible exact RW.k_int_dict
  | with_reducible exact RW.k_bool_dict
  | with_reducible exact RW.k_str_dict
  | with_reducible exact RW.k_NoneType_dict
  | with_reducible exact RW.k_list_dict
  | with_reducible exact RW.k_tuple_dict
  | with_reducible exact RW.k_dict_dict)
local macro_rules | `(tactic| walk_at "kit") => `(tactic| first
  | ((with_reducible apply RW.gKb); walk_at "kb")
  | ((with_reducible apply RW.gKi); walk_at "ki")
  | ((with_reducible apply RW.gKl); walk_at "kl")
  | ((with_reducible apply RW.gKs); walk_at "ks")
  | ((with_reducible apply RW.gKt); walk_at "kt")
  | ((with_reducible apply RW.gKd); walk_at "kd"))
local macro_rules | `(tactic| walk_at "kita") => `(tactic| first
  | ((with_reducible apply RW.ka2) <;> walk_at "kit")
  | ((with_reducible apply RW.ka3) <;> walk_at "kit")
  | ((with_reducible apply RW.ka4) <;> walk_at "kit")
  | ((with_reducible apply RW.ka5) <;> walk_at "kit"))
local macro_rules | `(tactic| walk_at "ty") => `(tactic| first
  | with_reducible exact L2.TyX.base (.int _)
  | with_reducible exact L2.TyX.base (.str _)
  | with_reducible exact L2.TyX.base (.bl _)
  | with_reducible exact L2.TyX.base .non
  | ((with_reducible apply L2.TyX.base); (with_reducible apply L2.TyOf.lst); (focus (walk_at "hp"; done)))
  | ((with_reducible apply L2.TyX.base); (with_reducible apply L2.TyOf.tup); (focus (walk_at "hp"; done)))
  | ((with_reducible apply L2.TyX.base); (with_reducible apply L2.TyOf.dK); (focus (walk_at "hp"; done)))
  | ((with_reducible apply RC.tyx_lst); (focus (walk_at "sq"; done)))
  | ((with_reducible apply RC.tyx_tup); (focus (walk_at "sq"; done))))
local macro_rules | `(tactic| walk_at "val") => `(tactic| first
  | with_reducible assumption
  | rfl)
local macro_rules | `(tactic| walk_at "dg") => `(tactic| first
  | (apply RW.dget_s; (focus (walk_at "hp"; done)); (focus (walk_at "val"; done)))
  | (apply RW.dget_i; (focus (walk_at "hp"; done)); (focus (walk_at "val"; done)))
  | (apply RW.dget_sF; (focus (walk_at "hp"; done)); (focus (walk_at "val"; done)))
  | (apply RW.dget_sR; (focus (assumption; done)); (focus (walk_at "val"; done)))
  | (apply RW.dput_s; (focus (walk_at "hp"; done)); (focus (walk_at "num"; done)))
  | (apply RW.dput_i; (focus (walk_at "hp"; done)); (focus (walk_at "num"; done)))
  | ((with_reducible apply RW.tyv_l); (focus (walk_at "hp"; done)))
  | ((with_reducible apply RW.tyv_s); (focus (walk_at "sq"; done)))
  | (apply RW.isd; (focus (walk_at "hp"; done)))
  | (apply RW.rd_of; (focus (walk_at "hp"; done)))
  | (apply RW.sql_of; (focus (walk_at "hp"; done)))
  | (apply RW.sqt_of; (focus (walk_at "hp"; done)))
  | (apply RW.len_l; (focus (walk_at "hp"; done)))
  | (apply RW.len_sl; (focus (walk_at "sq"; done)))
  | (apply RW.len_st; (focus (walk_at "sq"; done))))
local macro_rules | `(tactic| walk_at "side") => `(tactic| first
  | with_reducible rfl
  | ((with_reducible apply RW.gHp); walk_at "hp")
  | ((with_reducible apply RW.gSm); walk_at "sm")
  | ((with_reducible apply RW.gNe); walk_at "ne")
  | ((with_reducible apply RW.gStm); walk_at "stm")
  | ((with_reducible apply RW.gOld); walk_at "od")
  | ((with_reducible apply RW.gNo); walk_at "noat")
  | ((with_reducible apply RW.gCls); walk_at "cls")
  | ((with_reducible apply RW.gCv); (first | with_reducible exact L2.ClsV.ty _ | with_reducible exact L2.ClsV.own _))
  | ((with_reducible apply RW.gTy); walk_at "ty")
  | ((with_reducible apply RW.gKit); walk_at "kit")
  | ((with_reducible apply RW.gKita); walk_at "kita")
  | ((with_reducible apply RW.gSl); walk_at "sq")
  | ((with_reducible apply RW.gSt); walk_at "sq")
  | ((with_reducible apply RW.gPr); walk_at "pr")
  | with_reducible assumption
  | with_reducible exact RW.gCp ⟨by decide, by decide, by decide⟩
  | walk_at "dg"
  | rfl
  | walk_at "num")
local macro_rules | `(tactic| walk_at "nu") => `(tactic| (repeat (refine RW.fr ?_)))
local macro_rules | `(tactic| walk_at "tt") => `(tactic| first
  | with_reducible rfl
  | with_reducible assumption
  | rfl
  | with_reducible exact RW.cSsT (by with_reducible assumption)
  | with_reducible exact RW.cSsF (by with_reducible assumption)
  | with_reducible exact RW.cNsT (by with_reducible assumption)
  | with_reducible exact RW.cNsF (by with_reducible assumption)
  | with_reducible exact RW.cSiT (by with_reducible assumption)
  | with_reducible exact RW.cSiF (by with_reducible assumption)
  | with_reducible exact RW.cNiT (by with_reducible assumption)
  | with_reducible exact RW.cNiF (by with_reducible assumption)
  | with_reducible exact RW.someT (by with_reducible assumption)
  | with_reducible exact RW.someF (by with_reducible assumption)
  | with_reducible exact RW.nsomeT (by with_reducible assumption)
  | with_reducible exact RW.nsomeF (by with_reducible assumption))
local macro_rules | `(tactic| walk_at "disp") => `(tactic| first
  | with_reducible refine RW.disp1 ?_
  | with_reducible refine RW.disp2 ?_
  | with_reducible refine RW.disp3 ?_
  | with_reducible refine RW.disp4 ?_
  | with_reducible refine RW.disp5 ?_
  | with_reducible refine RW.disp6 ?_
  | with_reducible refine RW.disp7 ?_
  | with_reducible refine RW.disp8 ?_)
local macro_rules | `(tactic| walk_at "ex") => `(tactic| ((fail_if_success (apply @Exists.intro (Nat → Nat → _))); (fail_if_success (apply @Exists.intro (Nat → L2.St → L2.Hp → Prop))); (fail_if_success (apply @Exists.intro (L2.St → L2.Hp → Prop))); apply Exists.intro))
local macro_rules | `(tactic| walk_at "st") => `(tactic| first
  | ((fail_if_success (with_reducible apply RW.isMut)); (fail_if_success (with_reducible apply RW.isMut2)); (apply And.intro); (focus (walk_at "side"; done)))
  | walk_at "disp"
  | walk_at "ex"
  | refine RC.iteT' (by walk_at "tt") ?_
  | refine RC.iteF' (by walk_at "tt") ?_)
local macro_rules | `(tactic| walk_at "gi") => `(tactic| (repeat (first | walk_at "st" | ((walk_at "nu"); (intro _ h0; have h1 : _ = none := h0; clear h1); intros))))
local macro_rules | `(tactic| walk_at "in") => `(tactic| (try dsimp only [RW.cxK]))
local macro_rules | `(tactic| walk_at "go") => `(tactic| (repeat walk_at "st"))
namespace K17
open PySem PySem.Spec PyProof.Rows L2 RC
section
variable {P : Program} {w : World} {K : PySem.W.Frag} {mg : Str → Option Value} {base : Heap}
/-! ### files of a yard -/
theorem upd_self {H : Hp} {a : Addr} {o : HO} (h : H a = some o) : upd H a o = H := by
  funext b
  by_cases c : b = a
  · rw [c, upd_same]; exact h.symm
  · rw [upd_ne c]
def spPut (K : PySem.W.Frag) : Sp := fun vs H Q _ => ∃ (s : FS) (ad : Ro → Addr) (k t : Str), vs = [.ref (ad .y), .str k, .str t] ∧ YR K s ad H ∧ s.files.length ≤ 1000 ∧ ∀ ad' H', YR K (s.put k t) ad' H' → YM K s ad H (s.put k t) ad' H' → Fx ad ad' → Q .non H'
theorem body_put {f : Addr} {cdv : Value} {A : Around} {outer : List Env} {st0 : Shared} {H : Hp} {vs : List V} {Q : VK} {E : XK} (T : Txt P w K mg) (hr : Room 0 (A.deeper (envOfC "Yard.put_file" (defScope s_Yard_put_file) st0.heap.objs.size f cdv))) (h : spPut K vs H Q E) :
    ∃ t, PSs (cxOf CX0 P w K mg base nm_Yard_put_file "Yard.put_file" (defScope s_Yard_put_file) f cdv A outer st0 H E).nox (defBody s_Yard_put_file) t ∧ t { nx := fun _ H' => Q .non H', rt := Q } (L2.start nm_Yard_put_file vs) H := by
  obtain ⟨s, ad, k, t, rfl, R, hl, hQ⟩ := h
  refine ⟨_, (pss_one (ps_dput (hu_of hr) (pe_fld (pv 0) rfl) (pv 1) (pe_lst (pa_cons (pv 2) (pa_cons (pe_fld (pv 0) rfl) pa_nil))) rfl)), ?_⟩
  walk_at "in"
  have hy := R.y_
  have hf := R.fi_
  have hsz : (filK s.files ad).length < sizeLine := by unfold filK; rw [List.length_map, sizeLine_eq]; omega
  walk_at "go"
  intro p fp
  obtain ⟨R1, M1⟩ := R.put k t fp
  walk_at "go"
  exact hQ _ _ R1 M1 (fx_adR ad k p)
theorem len_put : ∀ vs H Q E, spPut K vs H Q E → vs.length = 3 := fun vs H Q E h => by
  obtain ⟨s, ad, k, t, rfl, _⟩ := h; rfl
theorem ok_put {f : Addr} (T : Txt P w K mg) (F : Stands K "put_file" "Yard.put_file" s_Yard_put_file [] f) : Callable P w K mg base 1 f ["self", "name", "text"] [] (spPut K) :=
  F.call0 sc_Yard_put_file len_put (fun cdv A outer s0 H vs Q E hr h => body_put T hr h) (fun _ _ _ _ _ _ us hl => match us, hl with | [_, _, _], _ => rfl)
theorem valV_filK (k : Str) (ad : Ro → Addr) : ∀ fs : List (Str × Str), valV (filK fs ad) (Sum.inr k) = (fs.lookup k).map fun _ => V.ref (ad (.row k))
  | [] => rfl
  | e :: r => by
    rw [lkc]
    by_cases c : k = e.1
    · rw [if_pos c]
      have h1 : valV (filK (e :: r) ad) (Sum.inr k) = some (V.ref (ad (.row e.1))) := valV_pos (p := ((Sum.inr e.1 : Key), V.ref (ad (.row e.1)))) (congrArg Sum.inr c.symm)
      rw [h1, c]; rfl
    · rw [if_neg c]
      have h1 : valV (filK (e :: r) ad) (Sum.inr k) = valV (filK r ad) (Sum.inr k) := valV_neg (p := ((Sum.inr e.1 : Key), V.ref (ad (.row e.1)))) (fun z => c (Sum.inr.inj z).symm)
      rw [h1]; exact valV_filK k ad r
def spHas (K : PySem.W.Frag) : Sp := fun vs H Q _ => ∃ (s : FS) (ad : Ro → Addr) (k : Str), vs = [.ref (ad .y), .str k] ∧ YR K s ad H ∧ Q (.bl (s.files.lookup k).isSome) H
theorem ok_has {f : Addr} (T : Txt P w K mg) (F : Stands K "has_file" "Yard.has_file" s_Yard_has_file [] f) : Callable P w K mg base 1 f ["self", "name"] [] (spHas K) := by
  refine F.call0 sc_Yard_has_file (fun vs H Q E h => ?_) (fun cdv A outer s0 H vs Q E hr h => ?_) (fun _ _ _ _ _ _ us hl => match us, hl with | [_, _], _ => rfl)
  · obtain ⟨s, ad, k, rfl, _⟩ := h; rfl
  obtain ⟨s, ad, k, rfl, R, hQ⟩ := h
  refine ⟨_, (pss_one (ps_ret (pe_cmp (pc_din (hu_of hr) (pv 1) (pe_fld (pv 0) rfl))))), ?_⟩
  walk_at "in"
  have hy := R.y_
  have hf := R.fi_
  have hv := valV_filK k ad s.files
  cases e : s.files.lookup k with
  | none =>
    rw [e] at hv hQ
    walk_at "go"
    exact hQ
  | some t =>
    rw [e] at hv hQ
    walk_at "go"
    exact hQ
/-- the text of a file; the table may be walked -/
def spFileText (K : PySem.W.Frag) : Sp := fun vs H Q _ => ∃ (y dy fi p : Addr) (fs : List (Str × V)) (kvs : List (Key × V)) (k t : Str) (n : Int), vs = [.ref y, .str k] ∧ H y = some (.ins (CY K) dy fs) ∧ fs.lookup ("file_rows" : Str) = some (.ref fi) ∧ Rd H fi (.dK kvs) ∧ valV kvs (Sum.inr k) = some (.ref p) ∧ H p = some (.lst [.str t, .int n]) ∧ Q (.str t) H
theorem ok_file_text {f : Addr} (T : Txt P w K mg) (F : Stands K "file_text" "Yard.file_text" s_Yard_file_text [] f) : Callable P w K mg base 1 f ["self", "name"] [] (spFileText K) := by
  refine F.call0 sc_Yard_file_text (fun vs H Q E h => ?_) (fun cdv A outer s0 H vs Q E hr h => ?_) (fun _ _ _ _ _ _ us hl => match us, hl with | [_, _], _ => rfl)
  · obtain ⟨y, dy, fi, p, fs, kvs, k, t, n, rfl, _⟩ := h; rfl
  obtain ⟨y, dy, fi, p, fs, kvs, k, t, n, rfl, hy, hl, hf, hv, hp, hQ⟩ := h
  refine ⟨_, (pss_one (ps_ret (pe_ix ix_list (pe_dget (hu_of hr) (pe_fld (pv 0) rfl) (pv 1) (fun _ _ => rfl)) pe_int (fun _ _ => rfl)))), ?_⟩
  walk_at "in"
  have g := RW.dget_sR hf hv
  walk_at "go"
  exact hQ
def spWriteF (K : PySem.W.Frag) : Sp := fun vs H Q _ => ∃ (s : FS) (ad : Ro → Addr) (k t : Str), vs = [.ref (ad .y), .str k, .str t] ∧ YR K s ad H ∧ s.files.length ≤ 1000 ∧ (txt s.files k).length ≤ 8000000 ∧ t.length ≤ 1000000 ∧ ∀ ad' H', YR K (s.put k (txt s.files k ++ t)) ad' H' → YM K s ad H (s.put k (txt s.files k ++ t)) ad' H' → Fx ad ad' → Q .non H'
theorem ok_writef {f : Addr} (T : Txt P w K mg) (F : Stands K "write_file" "Yard.write_file" s_Yard_write_file [] f) (c_Yard_put_file : Callable P w K mg base 1 (He.ma K (He.ga K "Yard") "put_file") ["self", "name", "text"] [] (spPut K))
    (c_Yard_has_file : Callable P w K mg base 1 (He.ma K (He.ga K "Yard") "has_file") ["self", "name"] [] (spHas K)) (c_Yard_file_text : Callable P w K mg base 1 (He.ma K (He.ga K "Yard") "file_text") ["self", "name"] [] (spFileText K)) : Callable P w K mg base 2 f ["self", "name", "text"] [] (spWriteF K) := by
  refine F.call0 sc_Yard_write_file (fun vs H Q E h => ?_) (fun cdv A outer s0 H vs Q E hr h => ?_) (fun _ _ _ _ _ _ us hl => match us, hl with | [_, _, _], _ => rfl)
  · obtain ⟨s, ad, k, t, rfl, _⟩ := h; rfl
  obtain ⟨s, ad, k, t, rfl, R, hl, hc, ht, hQ⟩ := h
  refine ⟨_, (pss_one (ps_expr (pe_mt T.c_Yard T.m_Yard_put_file c_Yard_put_file (hr.mono (by first | decide | exact Nat.le_refl _)) (pv 0) (pa_cons (pv 1) (pa_cons (pe_op op_add_str (pe_ifExp (pt_val (pe_mt T.c_Yard T.m_Yard_has_file c_Yard_has_file (hr.mono (by first | decide | exact Nat.le_refl _)) (pv 0) (pa_cons (pv 1) pa_nil))) (pe_mt T.c_Yard T.m_Yard_file_text c_Yard_file_text (hr.mono (by first | decide | exact Nat.le_refl _)) (pv 0) (pa_cons (pv 1) pa_nil)) pe_str) (pv 2)) pa_nil))))), ?_⟩
  walk_at "in"
  have hy := R.y_
  have hf := R.fi_
  unfold txt at hc hQ
  cases e : s.files.lookup k with
  | none =>
    rw [e] at hc hQ
    have l1 : (Str.ofString "").length + t.length ≤ sizeLine := by rw [sizeLine_eq]; show 0 + t.length ≤ _; omega
    walk_at "go"
    refine iteF' (by rw [e]; rfl) ?_
    walk_at "go"
    intro ad' H' R' M' X'
    exact hQ ad' H' R' M' X'
  | some u =>
    rw [e] at hc hQ
    have hrow := R.row_ e
    have hv := valV_filK k ad s.files
    rw [e] at hv
    have l1 : u.length + t.length ≤ sizeLine := by rw [sizeLine_eq]; have : u.length ≤ 8000000 := hc; omega
    walk_at "go"
    refine iteT' (by rw [e]; rfl) ?_
    refine ⟨_, rfl, ad .y, _, _, rfl, hy, rfl, _, rfl, ?_⟩
    refine ⟨ad .y, _, ad .fi, _, _, _, k, u, _, rfl, hy, rfl, .inl hf, hv, hrow, ?_⟩
    walk_at "go"
    intro ad' H' R' M' X'
    exact hQ ad' H' R' M' X'
def spMakeF (K : PySem.W.Frag) : Sp := fun vs H Q _ => ∃ (s : FS) (ad : Ro → Addr) (k : Str), vs = [.ref (ad .y), .str k] ∧ YR K s ad H ∧ s.files.length ≤ 1000 ∧ ∀ ad' H', YR K (s.put k "") ad' H' → YM K s ad H (s.put k "") ad' H' → Fx ad ad' → Q .non H'
theorem ok_makef {f : Addr} (T : Txt P w K mg) (F : Stands K "make_file" "Yard.make_file" s_Yard_make_file [] f) (c_Yard_put_file : Callable P w K mg base 1 (He.ma K (He.ga K "Yard") "put_file") ["self", "name", "text"] [] (spPut K)) : Callable P w K mg base 2 f ["self", "name"] [] (spMakeF K) := by
  refine F.call0 sc_Yard_make_file (fun vs H Q E h => ?_) (fun cdv A outer s0 H vs Q E hr h => ?_) (fun _ _ _ _ _ _ us hl => match us, hl with | [_, _], _ => rfl)
  · obtain ⟨s, ad, k, rfl, _⟩ := h; rfl
  obtain ⟨s, ad, k, rfl, R, hl, hQ⟩ := h
  refine ⟨_, (pss_one (ps_expr (pe_mt T.c_Yard T.m_Yard_put_file c_Yard_put_file (hr.mono (by first | decide | exact Nat.le_refl _)) (pv 0) (pa_cons (pv 1) (pa_cons pe_str pa_nil))))), ?_⟩
  walk_at "in"
  have hy := R.y_
  walk_at "go"
  intro ad' H' R' M' X'
  exact hQ ad' H' R' M' X'
theorem merge_nil : ∀ (more kvs : List (Key × V)), (∀ e ∈ more, ∀ g ∈ kvs, g.1 ≠ e.1) → (more.map (·.1)).Nodup → mergeK kvs more = kvs ++ more
  | [], kvs, _, _ => (List.append_nil _).symm
  | e :: r, kvs, h, nd => by
    have hp : putK kvs e.1 e.2 = kvs ++ [e] := by
      unfold putK
      have : kvs.any (fun p => decide (p.1 = e.1)) = false := by
        rw [List.any_eq_false]
        intro g hg
        rw [decide_eq_false (h e List.mem_cons_self g hg)]
        decide
      rw [this]; rfl
    show mergeK (putK kvs e.1 e.2) r = _
    obtain ⟨n1, n2⟩ := List.nodup_cons.mp nd
    rw [hp, merge_nil r (kvs ++ [e]) (fun g hg f hf => ?_) n2, List.append_assoc]; · rfl
    rcases List.mem_append.mp hf with k | k
    · exact h g (List.mem_cons_of_mem _ hg) f k
    · rw [List.mem_singleton.mp k]
      exact fun z => n1 (by show e.1 ∈ _; rw [z]; exact List.mem_map_of_mem hg)
theorem lk_nd : ∀ {ts : List (Str × Str)}, (ts.map (·.1)).Nodup → ∀ {e : Str × Str}, e ∈ ts → ts.lookup e.1 = some e.2
  | [], _, _, h => by cases h
  | a :: r, nd, e, h => by
    obtain ⟨n1, n2⟩ := List.nodup_cons.mp nd
    rw [lkc]
    rcases List.mem_cons.mp h with rfl | h
    · rw [if_pos rfl]
    · rw [if_neg (fun z => n1 (by show a.1 ∈ _; rw [← z]; exact List.mem_map_of_mem h))]; exact lk_nd n2 h
theorem pr_snoc {α β : Type} {F : α → β → Prop} {a : α} {b : β} (h : F a b) : ∀ {xs : List α} {ys : List β}, Paired F xs ys → Paired F (xs ++ [a]) (ys ++ [b])
  | _, _, .nil => .cons h .nil
  | _, _, .cons r t => .cons r (pr_snoc h t)
theorem strK_keys (ts : List (Str × Str)) (nd : (ts.map (·.1)).Nodup) : ((strK ts).map (·.1)).Nodup := by
  have e : (strK ts).map (·.1) = (ts.map (·.1)).map (Sum.inr : Str → Key) := by unfold strK; rw [List.map_map, List.map_map]; rfl
  rw [e]
  exact List.Pairwise.map _ (fun a b h z => h (Sum.inr.inj z)) nd
def spFiles (K : PySem.W.Frag) : Sp := fun vs H Q _ => ∃ (s : FS) (ad : Ro → Addr), vs = [.ref (ad .y)] ∧ YR K s ad H ∧ s.files.length ≤ 1000 ∧ (s.files.map (·.1)).Nodup ∧ ∀ (p : Addr) (H' : Hp), Same H H' → H p = none → H' p = some (.dK (strK s.files)) → Q (.ref p) H'
theorem ok_files {f : Addr} (T : Txt P w K mg) (F : Stands K "files" "Yard.files" s_Yard_files [] f) (c_Yard_file_text : Callable P w K mg base 1 (He.ma K (He.ga K "Yard") "file_text") ["self", "name"] [] (spFileText K)) : Callable P w K mg base 2 f ["self"] [] (spFiles K) := by
  refine F.call0 sc_Yard_files (fun vs H Q E h => ?_) (fun cdv A outer s0 H vs Q E hr h => ?_) (fun _ _ _ _ _ _ us hl => match us, hl with | [_], _ => rfl)
  · obtain ⟨s, ad, rfl, _⟩ := h; rfl
  obtain ⟨s, ad, rfl, R, hl, nd, hQ⟩ := h
  refine ⟨_, (pss_one (ps_ret (pe_callTy (call_dictP rfl) (by rfl) T.b_dict (by decide +kernel) (pa_cons (pe_lock (pe_lc (own := [("name", 1)]) (by rfl) sc_Yard_files.nd (pi_keys (pe_fld (pv 0) rfl)) (blkOk_by (own := [("name", 1)]) (N := nm_Yard_files) (sc := defScope s_Yard_files) (by decide +kernel)) (fun _ _ _ _ _ => (pg_name (i := 1) sc_Yard_files.nd rfl (by first | exact Or.inl rfl | exact Or.inr rfl))) (fun _ _ _ _ _ => pts_nil) (fun _ _ _ _ _ => (pe_tup (pa_cons (pv 1) (pa_cons (pe_mt T.c_Yard T.m_Yard_file_text c_Yard_file_text (hr.mono (by first | decide | exact Nat.le_refl _)) (pv 0) (pa_cons (pv 1) pa_nil)) pa_nil)))))) pa_nil)))), ?_⟩
  walk_at "in"
  have hy := R.y_
  have hf := R.fi_
  refine ⟨ad .fi, _, hf, trivial, fun od => ?_⟩
  have k0 : upd H (ad .fi) (.frz od (.dK (filK s.files ad))) (ad .fi) = some (.frz od (.dK (filK s.files ad))) := upd_same
  have nys : ad .y ≠ ad .fi := RW.ne_kind hy hf (fun z => nomatch z)
  have hy0 : upd H (ad .fi) (.frz od (.dK (filK s.files ad))) (ad .y) = some (.ins (CY K) (ad (.x 0)) (yFs s ad)) := by rw [upd_ne nys]; exact hy
  have hrow : ∀ k t, s.files.lookup k = some t → upd H (ad .fi) (.frz od (.dK (filK s.files ad))) (ad (.row k)) = some (.lst [.str t, .int (s.tim k)]) := fun k t e => by
    have h1 := R.row_ e
    rw [upd_ne (fun z => by rw [z, hf] at h1; cases h1)]; exact h1
  have fr0 : ∀ b, upd H (ad .fi) (.frz od (.dK (filK s.files ad))) b = none → H b = none := fun b h => (upd_none h).2
  have back : ∀ H', Same (upd H (ad .fi) (.frz od (.dK (filK s.files ad)))) H' → Same H (upd H' (ad .fi) (.dK (filK s.files ad))) := fun H' s2 b o e => by
    by_cases c : b = ad .fi
    · rw [c, upd_same]; rw [c, hf] at e; exact e
    · rw [upd_ne c]; exact s2 _ _ (by rw [upd_ne c]; exact e)
  generalize upd H (ad .fi) (.frz od (.dK (filK s.files ad))) = H0 at k0 hy0 hrow fr0 back ⊢
  walk_at "go"
  refine .inl ⟨_, k0, fun D hD => ?_⟩
  have nDf : D ≠ ad .fi := fun z => by rw [z, k0] at hD; cases hD
  refine lc_it walk_keys (fun i H' => Same H0 H' ∧ ∃ tps : List Addr, H' D = some (.lst (tps.map V.ref)) ∧ tps.length = i ∧ Paired (fun p kv => H' p = some (.tup [kV kv.1, kv.2])) tps (strK (s.files.take i))) ⟨same_new hD _, [], upd_same, rfl, .nil⟩ (fun i H' _ h => h.1 _ _ k0) (fun i x H9 H2 hi hP hx => ?_) (fun H2 hP => ?_)
  · obtain ⟨rfl, kx, vx, hx, rfl⟩ := hx
    obtain ⟨s2, tps, d2, tl, hpr⟩ := hP
    unfold filK at hx
    rw [List.getElem?_map] at hx
    obtain ⟨e, he0, hee⟩ := Option.map_eq_some_iff.mp hx
    cases hee
    have hi2 : i < s.files.length := (List.getElem?_eq_some_iff.mp he0).1
    have lke := lk_nd nd (List.mem_of_getElem? he0)
    have hv := valV_filK e.1 ad s.files
    rw [lke] at hv
    have etk := List.take_add_one (l := s.files) (i := i)
    rw [he0] at etk
    have etk2 : s.files.take (i + 1) = s.files.take i ++ [e] := etk
    have hll : (tps.map V.ref).length < sizeLine := by rw [List.length_map, tl, sizeLine_eq]; omega
    refine ⟨rfl, yes_if ?_⟩
    refine ⟨_, rfl, _, rfl, ad .y, _, _, rfl, s2 _ _ hy0, rfl, _, rfl, ?_⟩
    refine ⟨ad .y, _, ad .fi, _, _, _, e.1, e.2, _, rfl, s2 _ _ hy0, rfl, .inr ⟨od, s2 _ _ k0⟩, hv, s2 _ _ (hrow _ _ lke), ?_⟩
    refine ⟨by show 2 ≤ sizeLine; decide, fun q fq => ?_⟩
    have d3 := same_new fq (.tup [.str e.1, .str e.2]) _ _ d2
    refine ⟨_, d3, hll, ?_, tps ++ [q], ?_, by rw [List.length_append, tl]; rfl, ?_⟩
    · intro b o hb
      rw [upd_ne (ne_of_none hb hD)]; exact same_new fq _ _ _ (s2 _ _ hb)
    · rw [upd_same, List.map_append]; rfl
    · have nqD : q ≠ D := fun z => by rw [z, d2] at fq; cases fq
      rw [etk2]
      unfold strK
      rw [List.map_append]
      refine pr_snoc ?_ (Paired.mapP hpr fun p kv h => ?_)
      · rw [upd_ne nqD]; exact upd_same
      · rw [upd_ne (fun z => by rw [z, d2] at h; cases h)]; exact same_new fq _ _ _ h
  · obtain ⟨s2, tps, d2, tl, hpr⟩ := hP
    refine ⟨s2 _ _ k0, ?_⟩
    have b2 := back _ s2
    rw [show (filK s.files ad).length = s.files.length from List.length_map _, List.take_length] at hpr
    have d3 : upd H2 (ad .fi) (.dK (filK s.files ad)) D = some (.lst (tps.map V.ref)) := by rw [upd_ne nDf]; exact d2
    refine ⟨D, tps, strK s.files, rfl, SqL.of d3, Paired.mapP hpr fun p kv h => SqT.of (by rw [upd_ne (fun z => by rw [z, s2 _ _ k0] at h; cases h)]; exact h), fun p fp => ?_⟩
    rw [merge_nil _ [] (fun _ _ _ h => by cases h) (strK_keys _ nd), List.nil_append]
    exact hQ p _ (b2.trans (same_new fp _)) (b2.free fp) upd_same
end
end K17

set_option Elab.async false
set_option linter.all false
set_option maxRecDepth 100000
set_option maxHeartbeats 0

namespace K17
open PySem PySem.Spec PyProof.Rows L2 RC
section
variable {P : Program} {w : World} {K : PySem.W.Frag} {mg : Str → Option Value} {base : Heap}
/-! ### a file gets another name -/
def spRen (K : PySem.W.Frag) : Sp := fun vs H Q _ => ∃ (s : FS) (ad : Ro → Addr) (a b t : Str), vs = [.ref (ad .y), .str a, .str b] ∧ YR K s ad H ∧ s.files.length ≤ 1000 ∧ s.files.lookup a = some t ∧ a ≠ b ∧ (∀ ad' H', YR K (s.ren a b t) ad' H' → YM K s ad H (s.ren a b t) ad' H' → Fx ad ad' → Q .non H')
theorem filK_ren (fs : List (Str × Str)) (ad : Ro → Addr) (a b t : Str) : putK (dropK (filK fs ad) (Sum.inr a)) (Sum.inr b) (.ref (ad (.row a))) = filK (putS (fs.filter fun e => decide (e.1 ≠ a)) b t) (adR ad b (ad (.row a))) := by
  rw [← filK_rem, filK_put]
theorem ok_ren {f : Addr} (T : Txt P w K mg) (F : Stands K "rename_file" "Yard.rename_file" s_Yard_rename_file [] f) : Callable P w K mg base 1 f ["self", "name", "other"] [] (spRen K) := by
  refine F.call0 sc_Yard_rename_file (fun vs H Q E h => ?_) (fun cdv A outer s0 H vs Q E hr h => ?_) (fun _ _ _ _ _ _ us hl => match us, hl with | [_, _, _], _ => rfl)
  · obtain ⟨s, ad, a, b, t, rfl, _⟩ := h; rfl
  obtain ⟨s, ad, a, b, t, rfl, R, hl, ha, ne, hQ⟩ := h
  refine ⟨_, (pss_one (ps_dput (hu_of hr) (pe_fld (pv 0) rfl) (pv 2) (pe_dpop1 (pe_fld (pv 0) rfl) (pv 1) ⟨rfl, rfl, rfl, rfl⟩) rfl)), ?_⟩
  walk_at "in"
  have hy := R.y_
  have hf := R.fi_
  have hv := valV_filK a ad s.files
  rw [ha] at hv
  obtain ⟨R1, M1⟩ := R.ren (b := b) ha ne (filK_ren s.files ad a b t)
  have hsz : (dropK (filK s.files ad) (Sum.inr a)).length < sizeLine := by
    have : (dropK (filK s.files ad) (Sum.inr a)).length ≤ (filK s.files ad).length := List.length_filter_le _ _
    unfold filK at this
    rw [List.length_map] at this
    rw [sizeLine_eq]; unfold filK; omega
  have hy1 : upd H (ad .fi) (.dK (dropK (filK s.files ad) (Sum.inr a))) (ad .y) = some (.ins (CY K) (ad (.x 0)) (yFs s ad)) := by rw [upd_ne (RW.ne_kind hy hf (fun z => nomatch z))]; exact hy
  have hf1 : upd H (ad .fi) (.dK (dropK (filK s.files ad) (Sum.inr a))) (ad .fi) = some (.dK (dropK (filK s.files ad) (Sum.inr a))) := upd_same
  have hu : upd (upd H (ad .fi) (.dK (dropK (filK s.files ad) (Sum.inr a)))) (ad .fi) (.dK (putK (dropK (filK s.files ad) (Sum.inr a)) (Sum.inr b) (.ref (ad (.row a))))) = upd H (ad .fi) (.dK (putK (dropK (filK s.files ad) (Sum.inr a)) (Sum.inr b) (.ref (ad (.row a))))) := by
    funext q
    by_cases c : q = ad .fi
    · rw [c, upd_same, upd_same]
    · rw [upd_ne c, upd_ne c, upd_ne c]
  rw [← hu] at R1 M1
  walk_at "go"
  refine ⟨(rfl : _ = kV (Sum.inr a)), hv, ?_⟩
  walk_at "go"
  exact hQ _ _ R1 M1 (fx_adR ad b (ad (.row a)))
end
end K17

set_option Elab.async false
set_option linter.all false
set_option maxRecDepth 100000
set_option maxHeartbeats 0

namespace K17
open PySem PySem.Spec PyProof.Rows L2 RC
section
variable {P : Program} {w : World} {K : PySem.W.Frag} {mg : Str → Option Value} {base : Heap}
/-! ### a rotating handler at its file -/
structure Hd where
  fv : V
  cl : Bool
  dl : Bool
  op : Bool
  tl : Option (Int × Int)
def rTail : Option (Int × Int) → List (Str × V)
  | none => []
  | some (m, b) => [("max_bytes", .int m), ("backup_count", .int b), ("namer", .non)]
def Hd.F (d : Hd) (fl y : Addr) : List (Str × V) := ([("filters", .ref fl), ("yard", .ref y), ("level", .int 0), ("formatter", d.fv), ("name", .non), ("terminator", .str "\n"), ("closed", .bl d.cl), ("filename", .str "f"), ("mode", .str "a"), ("delay", .bl d.dl), ("is_open", .bl d.op), ("shut", .bl false)] : List (Str × V)) ++ rTail d.tl
def FS.op1 (s : FS) : FS := if (s.files.lookup ("f" : Str)).isSome = true then s else s.put "f" ""
theorem op1_some {s : FS} {u : Str} (e : s.files.lookup ("f" : Str) = some u) : s.op1 = s := by unfold FS.op1; rw [e]; rfl
theorem op1_none {s : FS} (e : s.files.lookup ("f" : Str) = none) : s.op1 = s.put "f" "" := by unfold FS.op1; rw [e]; rfl
theorem op1_hd (s : FS) : s.op1.hd = s.hd := by unfold FS.op1; split <;> rfl
theorem op1_f (s : FS) : ∃ u, s.op1.files.lookup ("f" : Str) = some u := by
  cases e : s.files.lookup ("f" : Str) with
  | some u => rw [op1_some e]; exact ⟨u, e⟩
  | none =>
    rw [op1_none e]
    exact ⟨"", by show (putS s.files "f" "").lookup _ = _; rw [lookup_putS, if_pos rfl]⟩
theorem op1_len (s : FS) : s.op1.files.length ≤ s.files.length + 1 := by
  unfold FS.op1
  split
  · omega
  · exact putS_length _ _ _
/-- what never changes, apart from a yard -/
structure Ap (K : PySem.W.Frag) (s : FS) (ad : Ro → Addr) (G H : Hp) : Prop where
  sm : Same G H
  out : ∀ b o, G b = some o → RR.Out (Y1 K s ad) ad b
theorem Ap.mv {s s' : FS} {ad ad' : Ro → Addr} {G H H' : Hp} (a : Ap K s ad G H) (M : YM K s ad H s' ad' H') : Ap K s' ad' G H' := ⟨fun b o e => M.keep _ _ (a.out b o e) (a.sm b o e), fun b o e => M.out (a.out b o e) (a.sm b o e)⟩
theorem Ap.same {s : FS} {ad : Ro → Addr} {G H H' : Hp} (a : Ap K s ad G H) (e : Same H H') : Ap K s ad G H' := ⟨a.sm.trans e, a.out⟩
def spOpen (K : PySem.W.Frag) : Sp := fun vs H Q _ => ∃ (s : FS) (ad : Ro → Addr) (d : Hd), vs = [.ref (ad .h)] ∧ YR K s ad H ∧ s.hd = some (d.F (ad .hl) (ad .y)) ∧ s.files.length ≤ 1000 ∧
  (∀ ad' H' s', YR K s' ad' H' → YM K s ad H s' ad' H' → Fx ad ad' → s' = s.op1.setH ({ d with op := true }.F (ad .hl) (ad .y)) → Q .non H')
theorem ok_open {f : Addr} (T : Txt P w K mg) (F : Stands K "open_file" "FileHandler.open_file" s_FileHandler_open_file [] f) (c_Yard_has_file : Callable P w K mg base 1 (He.ma K (He.ga K "Yard") "has_file") ["self", "name"] [] (spHas K))
    (c_Yard_make_file : Callable P w K mg base 2 (He.ma K (He.ga K "Yard") "make_file") ["self", "name"] [] (spMakeF K)) : Callable P w K mg base 3 f ["self"] [] (spOpen K) := by
  refine F.call0 sc_FileHandler_open_file (fun vs H Q E h => ?_) (fun cdv A outer s0 H vs Q E hr h => ?_) (fun _ _ _ _ _ _ us hl => match us, hl with | [_], _ => rfl)
  · obtain ⟨s, ad, d, rfl, _⟩ := h; rfl
  obtain ⟨s, ad, ⟨fv, cl, dl, op, tl⟩, rfl, R, hd, hl, hQ⟩ := h
  refine ⟨_, (pss_cons (ps_if (PW.pt (pw_or (pt_cmpR op_eq (pe_fld (pv 0) rfl) pe_str (nomark _)) (pw_or1 (pt_not (pt_val (pe_mt T.c_Yard T.m_Yard_has_file c_Yard_has_file (hr.mono (by first | decide | exact Nat.le_refl _)) (pe_fld (pv 0) rfl) (pa_cons (pe_fld (pv 0) rfl) pa_nil))))))) (pss_one (ps_expr (pe_mt T.c_Yard T.m_Yard_make_file c_Yard_make_file (hr.mono (by first | decide | exact Nat.le_refl _)) (pe_fld (pv 0) rfl) (pa_cons (pe_fld (pv 0) rfl) pa_nil)))) pss_nil)
      (pss_one (ps_fld (pv 0) pe_bl rfl))), ?_⟩
  walk_at "in"
  have ha := R.h_ hd
  have hy := R.y_
  rcases tl with _ | ⟨mb, bc⟩
  · walk_at "go"
    cases e : s.files.lookup ("f" : Str) with
    | some u =>
      refine iteF' rfl ?_
      obtain ⟨R1, M1⟩ := R.setH hd (({ fv := fv, cl := cl, dl := dl, op := true, tl := none } : Hd).F (ad .hl) (ad .y))
      walk_at "go"
      exact hQ ad _ _ R1 M1 (Fx.refl _) (by rw [op1_some e])
    | none =>
      refine iteT' rfl ?_
      walk_at "go"
      intro ad' H' R' M' X'
      have ha' := R'.h_ (fs := ({ fv := fv, cl := cl, dl := dl, op := op, tl := none } : Hd).F (ad .hl) (ad .y)) hd
      obtain ⟨R1, M1⟩ := R'.setH hd (({ fv := fv, cl := cl, dl := dl, op := true, tl := none } : Hd).F (ad .hl) (ad .y))
      have e3 : ad' .h = ad .h := X' _ fun _ h => nomatch h
      rw [e3] at ha' R1 M1
      walk_at "go"
      exact hQ ad' _ _ R1 (M'.trans M1) X' (by rw [op1_none e])
  · walk_at "go"
    cases e : s.files.lookup ("f" : Str) with
    | some u =>
      refine iteF' rfl ?_
      obtain ⟨R1, M1⟩ := R.setH hd (({ fv := fv, cl := cl, dl := dl, op := true, tl := some (mb, bc) } : Hd).F (ad .hl) (ad .y))
      walk_at "go"
      exact hQ ad _ _ R1 M1 (Fx.refl _) (by rw [op1_some e])
    | none =>
      refine iteT' rfl ?_
      walk_at "go"
      intro ad' H' R' M' X'
      have ha' := R'.h_ (fs := ({ fv := fv, cl := cl, dl := dl, op := op, tl := some (mb, bc) } : Hd).F (ad .hl) (ad .y)) hd
      obtain ⟨R1, M1⟩ := R'.setH hd (({ fv := fv, cl := cl, dl := dl, op := true, tl := some (mb, bc) } : Hd).F (ad .hl) (ad .y))
      have e3 : ad' .h = ad .h := X' _ fun _ h => nomatch h
      rw [e3] at ha' R1 M1
      walk_at "go"
      exact hQ ad' _ _ R1 (M'.trans M1) X' (by rw [op1_none e])
end
end K17

set_option Elab.async false
set_option linter.all false
set_option maxRecDepth 100000
set_option maxHeartbeats 0
namespace K17
open PySem PySem.Spec PyProof.Rows L2 RC
section
variable {P : Program} {w : World} {K : PySem.W.Frag} {mg : Str → Option Value} {base : Heap}
/-! ### levels -/
/-- what a level may be here -/
inductive LvIn where
  | int (i : Int)
  | nm (x : Str)
def LvIn.v : LvIn → V
  | .int i => .int i
  | .nm x => .str x
def spIsInt : Sp := fun vs H Q _ => ∃ v : LvIn, vs = [v.v] ∧ Q (.bl (match v with | .int _ => true | .nm _ => false)) H
theorem ok_is_integer {f : Addr} (T : Txt P w K mg) (F : Stands K "is_integer" "is_integer" s_is_integer [] f) : Callable P w K mg base 1 f ["thing"] [] spIsInt := by
  refine F.call0 sc_is_integer (fun vs H Q E h => ?_) (fun cdv A outer s H vs Q E hr h => ?_) (fun _ _ _ _ _ _ us hl => match us, hl with | [_], _ => rfl)
  · obtain ⟨v, rfl, _⟩ := h; rfl
  obtain ⟨v, rfl, hQ⟩ := h
  refine ⟨_, (pss_one (ps_ret (pe_and (pe_callB call_isi (by rfl) T.b_isinstance (by decide +kernel) (pa_cons (pv 0) (pa_cons (pe_bltn (v := .ty "int") (u := .type "int") (by rfl) T.b_int (by decide +kernel) rfl) pa_nil))) (pe_one (pe_not (pe_callB call_isi (by rfl) T.b_isinstance (by decide +kernel) (pa_cons (pv 0) (pa_cons (pe_bltn (v := .ty "bool") (u := .type "bool") (by rfl) T.b_bool (by decide +kernel) rfl) pa_nil)))))))), ?_⟩
  cases v with
  | int i =>
    refine ⟨_, rfl, _, _, _, _, true, rfl, .ty _, .base (.int i), kit_ty (b := "int") (by decide +kernel), _, rfl, iteT ?_⟩
    exact ⟨_, rfl, _, _, _, _, false, rfl, .ty _, .base (.int i), kit_ty (b := "bool") (by decide +kernel), _, rfl, hQ⟩
  | nm x =>
    exact ⟨_, rfl, _, _, _, _, false, rfl, .ty _, .base (.str x), kit_ty (b := "int") (by decide +kernel), _, rfl, iteF hQ⟩
/-- the number of a level by the yard's table -/
def lvNum (nums : List (Key × V)) : LvIn → Option V
  | .int i => some (.int i)
  | .nm x => valV nums (Sum.inr x)
def spLevelOf (K : PySem.W.Frag) : Sp := fun vs H Q _ => ∃ (y dy nu : Addr) (fs : List (Str × V)) (nums : List (Key × V)) (v : LvIn) (r : V), vs = [.ref y, v.v] ∧ H y = some (.ins (CY K) dy fs) ∧ fs.lookup ("numbers_of" : Str) = some (.ref nu) ∧ H nu = some (.dK nums) ∧ lvNum nums v = some r ∧ Q r H
theorem ok_level_of {f : Addr} (T : Txt P w K mg) (F : Stands K "level_of" "Yard.level_of" s_Yard_level_of [] f) (c_is_integer : Callable P w K mg base 1 (He.ga K "is_integer") ["thing"] [] spIsInt) : Callable P w K mg base 2 f ["self", "level"] [] (spLevelOf K) := by
  refine F.call0 sc_Yard_level_of (fun vs H Q E h => ?_) (fun cdv A outer s H vs Q E hr h => ?_) (fun _ _ _ _ _ _ us hl => match us, hl with | [_, _], _ => rfl)
  · obtain ⟨y, dy, nu, fs, nums, v, r, rfl, _⟩ := h; rfl
  obtain ⟨y, dy, nu, fs, nums, v, r, rfl, hy, hnu, hnums, hr2, hQ⟩ := h
  refine ⟨_, (pss_cons (ps_if (pt_val (pe_fn T.g_is_integer c_is_integer (hr.mono (by first | decide | exact Nat.le_refl _)) (by rfl) (pa_cons (pv 1) pa_nil))) (pss_one (ps_ret (pv 1))) pss_nil)
      (pss_cons (ps_if (PW.pt (pw_and (pt_val (pe_callB call_isi (by rfl) T.b_isinstance (by decide +kernel) (pa_cons (pv 1) (pa_cons (pe_bltn (v := .ty "str") (u := .type "str") (by rfl) T.b_str (by decide +kernel) rfl) pa_nil)))) (pw_and1 (pt_cmp (pc_din (hu_of hr) (pv 1) (pe_fld (pv 0) rfl)))))) (pss_one (ps_ret (pe_dget (hu_of hr) (pe_fld (pv 0) rfl) (pv 1) (fun _ _ => rfl)))) pss_nil)
      (pss_one ps_never))), ?_⟩
  cases v with
  | int i =>
    cases hr2
    exact ⟨_, rfl, .int i, rfl, _, rfl, iteT ⟨_, rfl, hQ⟩⟩
  | nm x =>
    have g := DGet.k (k := Sum.inr x) hnums
    rw [show valV nums (Sum.inr x) = some r from hr2] at g
    refine ⟨_, rfl, .nm x, rfl, _, rfl, iteF ?_⟩
    refine ⟨_, rfl, _, _, _, _, true, rfl, .ty _, .base (.str x), kit_ty (b := "str") (by decide +kernel), _, rfl, iteT ?_⟩
    refine ⟨_, rfl, _, rfl, y, _, dy, fs, _, rfl, hy, T.c_Yard, T.n_Yard_numbers_of, hnu, nu, _, rfl, g, _, rfl, iteT' (by rfl) ?_⟩
    exact ⟨_, rfl, y, _, dy, fs, _, rfl, hy, T.c_Yard, T.n_Yard_numbers_of, hnu, _, rfl, nu, _, rfl, g, hQ⟩
end
end K17

set_option Elab.async false
set_option linter.all false
set_option maxRecDepth 100000
set_option maxHeartbeats 0

namespace K17
open PySem PySem.Spec PyProof.Rows L2 RC
section
variable {P : Program} {w : World} {K : PySem.W.Frag} {mg : Str → Option Value} {base : Heap}
/-! ### copies -/
inductive PlainV : V → Prop
  | int (i : Int) : PlainV (.int i)
  | str (z : Str) : PlainV (.str z)
def spCopied (K : PySem.W.Frag) (n : Nat) : Sp := fun vs H Q _ =>
  (∃ x : V, vs = [x] ∧ 1 ≤ n ∧ PlainV x ∧ Q x H) ∨
  (∃ (a : Addr) (xs : List V), vs = [.ref a] ∧ 2 ≤ n ∧ SqT K H a xs ∧ (∀ x ∈ xs, PlainV x) ∧ xs.length ≤ 1000 ∧ ∀ (H' : Hp) (t : Addr), Same H H' → H t = none → H' t = some (.tup xs) → Q (.ref t) H') ∨
  (∃ a : Addr, vs = [.ref a] ∧ 2 ≤ n ∧ H a = some (.dK []) ∧ ∀ (H' : Hp) (t : Addr), Same H H' → H t = none → H' t = some (.dK []) → Q (.ref t) H')
theorem take_more {α : Type} {xs : List α} {i : Nat} {x : α} (h : xs[i]? = some x) : xs.take (i + 1) = xs.take i ++ [x] := by rw [List.take_add_one, h]; rfl
theorem ok_copied {f : Addr} (T : Txt P w K mg) (F : Stands K "copied_value" "copied_value" s_copied_value [] f) (e : f = He.ga K "copied_value") : ∀ n : Nat, Callable P w K mg base (n + 1) f ["thing"] [] (spCopied K n)
  | 0 => by
    refine F.call0 sc_copied_value (fun vs H Q E h => ?_) (fun cdv A outer s H vs Q E hr h => ?_) (fun _ _ _ _ _ _ us hl => match us, hl with | [_], _ => rfl)
    · rcases h with ⟨x, rfl, _⟩ | ⟨a, xs, rfl, _⟩ | ⟨a, rfl, _⟩ <;> rfl
    · rcases h with ⟨x, rfl, h, _⟩ | ⟨a, xs, rfl, h, _⟩ | ⟨a, rfl, h, _⟩ <;> omega
  | n + 1 => by
    have c_copied_value := ok_copied T F e n
    rw [e] at c_copied_value
    refine F.call0 sc_copied_value (fun vs H Q E h => ?_) (fun cdv A outer s H vs Q E hr h => ?_) (fun _ _ _ _ _ _ us hl => match us, hl with | [_], _ => rfl)
    · rcases h with ⟨x, rfl, _⟩ | ⟨a, xs, rfl, _⟩ | ⟨a, rfl, _⟩ <;> rfl
    refine ⟨_, (pss_cons (ps_if (pt_val (pe_callB call_isi (by rfl) T.b_isinstance (by decide +kernel) (pa_cons (pv 0) (pa_cons (pe_bltn (v := .ty "list") (u := .type "list") (by rfl) T.b_list (by decide +kernel) rfl) pa_nil)))) (pss_one ps_never) pss_nil)
      (pss_cons (ps_if (pt_val (pe_callB call_isi (by rfl) T.b_isinstance (by decide +kernel) (pa_cons (pv 0) (pa_cons (pe_bltn (v := .ty "tuple") (u := .type "tuple") (by rfl) T.b_tuple (by decide +kernel) rfl) pa_nil)))) (pss_one (ps_ret (pe_callTy call_tuple_of (by rfl) T.b_tuple (by decide +kernel) (pa_cons (pe_lc (own := [("part", 1)]) (by rfl) sc_copied_value.nd (pi_tup (pv 0)) (blkOk_by (own := [("part", 1)]) (N := nm_copied_value) (sc := defScope s_copied_value) (by decide +kernel)) (fun _ _ _ _ _ => (pg_name (i := 1) sc_copied_value.nd rfl (by first | exact Or.inl rfl | exact Or.inr rfl))) (fun _ _ _ _ _ => pts_nil) (fun _ _ _ _ _ => (pe_fn T.g_copied_value c_copied_value (hr.mono (by first | decide | exact Nat.le_refl _)) (by rfl) (pa_cons (pv 1) pa_nil)))) pa_nil)))) pss_nil)
      (pss_cons (ps_if (pt_val (pe_callB call_isi (by rfl) T.b_isinstance (by decide +kernel) (pa_cons (pv 0) (pa_cons (pe_bltn (v := .ty "dict") (u := .type "dict") (by rfl) T.b_dict (by decide +kernel) rfl) pa_nil)))) (pss_one (ps_ret (pe_callTy (call_dictP rfl) (by rfl) T.b_dict (by decide +kernel) (pa_cons (pe_lock (pe_lc (own := [("name", 2)]) (by rfl) sc_copied_value.nd (pi_keys (pv 0)) (blkOk_by (own := [("name", 2)]) (N := nm_copied_value) (sc := defScope s_copied_value) (by decide +kernel)) (fun _ _ _ _ _ => (pg_name (i := 2) sc_copied_value.nd rfl (by first | exact Or.inl rfl | exact Or.inr rfl))) (fun _ _ _ _ _ => pts_nil) (fun _ _ _ _ _ => pe_never))) pa_nil)))) pss_nil)
      (pss_one (ps_ret (pv 0)))))), ?_⟩
    walk_at "in"
    rcases h with ⟨x, rfl, _, hx, hQ⟩ | ⟨a, xs, rfl, hn, hT, hx, hl, hQ⟩ | ⟨a, rfl, hn, hD, hQ⟩
    · cases hx with
      | int i => walk_at "go"; exact hQ
      | str z => walk_at "go"; exact hQ
    · refine ⟨_, rfl, _, _, _, _, _, rfl, .ty _, tyx_tup hT, kit_ty (b := "list") (by decide +kernel), _, rfl, iteF ?_⟩
      refine ⟨_, rfl, _, _, _, _, _, rfl, .ty _, tyx_tup hT, kit_ty (b := "tuple") (by decide +kernel), _, rfl, iteT ?_⟩
      refine ⟨_, rfl, a, rfl, ⟨_, hT⟩, fun D hD => ?_⟩
      have tS : ∀ {H' : Hp}, Same H H' → SqT K H' a xs := fun {H'} s => by
        rcases hT with (z | ⟨o, z⟩) | z
        · exact .inl (.inl (s _ _ z))
        · exact .inl (.inr ⟨o, s _ _ z⟩)
        · exact .inr z
      refine lc_it (walk_tup (xs := xs)) (fun i H' => Same H H' ∧ H' D = some (.lst (xs.take i))) ⟨same_new hD _, upd_same⟩ (fun i H' _ h => tS h.1) (fun i x H2 H3 hi hP hy => ?_) (fun H2 hP => ?_)
      · obtain ⟨rfl, hy⟩ := hy
        obtain ⟨s2, d2⟩ := hP
        have hm : x ∈ xs := List.mem_of_getElem? hy
        have hll : (xs.take i).length < sizeLine := by rw [List.length_take, sizeLine_eq]; omega
        refine ⟨rfl, yes_if ?_⟩
        refine ⟨_, rfl, .inl ⟨x, rfl, by omega, hx x hm, ?_⟩⟩
        refine ⟨_, d2, hll, fun c o hc => ?_, by rw [upd_same, take_more hy]⟩
        rw [upd_ne (ne_of_none hc hD)]; exact s2 _ _ hc
      · obtain ⟨s2, d2⟩ := hP
        rw [List.take_length] at d2
        refine ⟨D, xs, rfl, .inl ⟨SqL.of d2, fun t ht => ?_⟩⟩
        exact hQ _ t (s2.trans (same_new ht _)) (s2.free ht) upd_same
    · refine ⟨_, rfl, _, _, _, _, _, rfl, .ty _, .base (.dK hD), kit_ty (b := "list") (by decide +kernel), _, rfl, iteF ?_⟩
      refine ⟨_, rfl, _, _, _, _, _, rfl, .ty _, .base (.dK hD), kit_ty (b := "tuple") (by decide +kernel), _, rfl, iteF ?_⟩
      refine ⟨_, rfl, _, _, _, _, _, rfl, .ty _, .base (.dK hD), kit_ty (b := "dict") (by decide +kernel), _, rfl, iteT ?_⟩
      refine ⟨a, _, hD, trivial, fun od => ?_⟩
      refine ⟨_, rfl, a, od, rfl, .inl ⟨[], upd_same, fun D hD2 => ?_⟩⟩
      refine lc_it walk_keys (fun i H' => H' = upd (upd H a (.frz od (.dK []))) D (.lst [])) rfl (fun i H' _ h => ?_) (fun i x H' H'' hi => nomatch hi) (fun H' h => ?_)
      · subst h; rw [upd_ne (Ne.symm (upd_none hD2).1)]; exact upd_same
      · subst h
        refine ⟨by rw [upd_ne (Ne.symm (upd_none hD2).1)]; exact upd_same, ?_⟩
        rw [unlock hD hD2]
        have hD3 := (upd_none hD2).2
        refine ⟨D, [], [], rfl, SqL.of upd_same, .nil, fun t ht => ?_⟩
        exact hQ _ t ((same_new hD3 _).trans (same_new ht _)) (upd_none ht).2 upd_same
end
end K17

set_option Elab.async false
set_option linter.all false
set_option maxRecDepth 100000
set_option maxHeartbeats 0
namespace K17
open PySem PySem.Spec PyProof.Rows L2 RC
section
variable {P : Program} {w : World} {K : PySem.W.Frag} {mg : Str → Option Value} {base : Heap}
/-! ### the plain law of messages -/
abbrev SS := List Nat
abbrev tx (l : List Nat) : Str := ⟨l.toArray⟩
/-- a message read from the left, with the texts of its args -/
inductive PM : SS → List SS → Option SS → Prop
  | nil : PM [] [] (some [])
  | left {a : SS} {as : List SS} : PM [] (a :: as) none
  | two {c : Nat} {r : SS} {as : List SS} {o : Option SS} : c = 123 ∨ c = 125 → PM r as o → PM (c :: c :: r) as (o.map (c :: ·))
  | ch {c : Nat} {r : SS} {as : List SS} {o : Option SS} : c ≠ 123 → c ≠ 125 → PM r as o → PM (c :: r) as (o.map (c :: ·))
  | arg {r a : SS} {as : List SS} {o : Option SS} : PM r as o → PM (123 :: 125 :: r) (a :: as) (o.map (a ++ ·))
  | bad {c : Nat} {r : SS} {as : List SS} : c = 123 ∨ c = 125 → r.head? ≠ some c → (c = 125 ∨ r.head? ≠ some 125 ∨ as = []) → PM (c :: r) as none
theorem PM.plain {as : List SS} : ∀ {s : SS}, (∀ c ∈ s, c ≠ 123 ∧ c ≠ 125) → as ≠ [] → PM s as none
  | [], _, h => by
    cases as with
    | nil => exact absurd rfl h
    | cons a as => exact .left
  | c :: r, h, k => by
    obtain ⟨h1, h2⟩ := h c List.mem_cons_self
    exact PM.ch (o := none) h1 h2 (PM.plain (fun d hd => h d (List.mem_cons_of_mem _ hd)) k)
theorem PM.total : ∀ (n : Nat) (s : SS) (as : List SS), s.length ≤ n → ∃ o, PM s as o
  | _, [], [], _ => ⟨_, .nil⟩
  | _, [], _ :: _, _ => ⟨_, .left⟩
  | 0, _ :: _, _, h => absurd h (Nat.not_succ_le_zero _)
  | n + 1, c :: r, as, h => by
    have hr : r.length ≤ n := Nat.le_of_succ_le_succ h
    by_cases hc : c = 123 ∨ c = 125
    · by_cases e : r.head? = some c
      · cases r with
        | nil => cases e
        | cons d r =>
          cases e
          obtain ⟨o, ho⟩ := PM.total n r as (Nat.le_of_succ_le hr)
          exact ⟨_, .two hc ho⟩
      · by_cases b : c = 125 ∨ r.head? ≠ some 125 ∨ as = []
        · exact ⟨_, .bad hc e b⟩
        · have c1 : c = 123 := hc.elim id fun z => absurd (.inl z) b
          have c2 : r.head? = some 125 := Classical.byContradiction fun z => b (.inr (.inl z))
          cases as with
          | nil => exact absurd (.inr (.inr rfl)) b
          | cons a as =>
            cases r with
            | nil => cases c2
            | cons d r =>
              cases c2
              obtain ⟨o, ho⟩ := PM.total n r as (Nat.le_of_succ_le hr)
              rw [c1]
              exact ⟨_, .arg ho⟩
    · obtain ⟨o, ho⟩ := PM.total n r as hr
      exact ⟨_, .ch (fun z => hc (.inl z)) (fun z => hc (.inr z)) ho⟩
/-- the text of an arg -/
def argS : V → SS
  | .str z => z.cps.toList
  | .int i => (Str.ofString (toString i)).cps.toList
  | _ => []
/-- args as the text model takes them -/
def PArg (v : V) : Prop := (∃ z : Str, v = .str z ∧ z.length ≤ 2000) ∨ ∃ i : Int, v = .int i ∧ i.natAbs < 2 ^ 63
def catS (vs : List Str) : SS := (vs.map fun z => z.cps.toList).flatten
theorem tx_toList (z : Str) : tx z.cps.toList = z := by
  show (⟨z.cps.toList.toArray⟩ : Str) = z
  rw [Array.toArray_toList]
theorem join_cat : ∀ vs : List Str, Txt.join "" vs = tx (catS vs) := fun vs => by
  refine TL.ext_tl ?_
  rw [TL.join_eq, TL.tl_join]
  show TL.joinL [] (vs.map TL.tl) = TL.tl (tx (catS vs))
  have e : TL.tl (tx (catS vs)) = catS vs := rfl
  rw [e]
  unfold catS
  have e2 : ∀ ws : List (List Nat), TL.joinL [] ws = ws.flatten := fun ws => by
    induction ws with
    | nil => rfl
    | cons a r ih =>
      cases r with
      | nil => show a = a ++ []; rw [List.append_nil]
      | cons b r => show a ++ ([] ++ TL.joinL [] (b :: r)) = _; rw [ih]; rfl
  rw [e2]
theorem catS_len (vs : List Str) : (vs.map (·.length)).sum = (catS vs).length := by
  unfold catS
  rw [List.length_flatten, List.map_map]; rfl
theorem catS_snoc (vs : List Str) (z : Str) : catS (vs ++ [z]) = catS vs ++ z.cps.toList := by unfold catS; simp
end
end K17

set_option Elab.async false
set_option linter.all false
set_option maxRecDepth 100000
set_option maxHeartbeats 0
namespace K17
open PySem PySem.Spec PyProof.Rows L2 RC
section
variable {P : Program} {w : World} {K : PySem.W.Frag} {mg : Str → Option Value} {base : Heap}
/-! ### cuts of texts -/
theorem sIx_nat' {n d k : Nat} (h : k ≤ n) : HT.sIx n d (some (k : Int)) = k := by
  unfold HT.sIx; dsimp only; rw [if_neg (by omega)]; show min ((k : Int).toNat) n = k; omega
theorem cut_nat {z : Str} {a b : Nat} (ha : a ≤ z.length) (hb : b ≤ z.length) : cutS z (some (a : Int)) (some (b : Int)) = tx ((z.cps.toList.drop a).take (b - a)) := by
  unfold cutS
  rw [sIx_nat' ha, sIx_nat' hb]
theorem cut_one {z : Str} {a : Nat} (ha : a ≤ z.length) : cutS z (some (a : Int)) (some ((a : Int) + 1)) = tx ((z.cps.toList.drop a).take 1) := by
  have hl : z.cps.toList.length = z.length := Array.length_toList ..
  by_cases c : a + 1 ≤ z.length
  · have := cut_nat ha c
    rw [show ((a + 1 : Nat) : Int) = (a : Int) + 1 by omega, show a + 1 - a = 1 by omega] at this
    exact this
  · unfold cutS
    have d0 : z.cps.toList.drop a = [] := List.drop_eq_nil_of_le (by omega)
    rw [sIx_nat' ha, d0, List.take_nil, List.take_nil]
theorem tx_inj {a b : List Nat} (h : tx a = tx b) : a = b := congrArg (fun s => s.cps.toList) h
theorem take_snoc {α : Type} {xs : List α} {i : Nat} {x : α} (h : xs[i]? = some x) : xs.take (i + 1) = xs.take i ++ [x] := by
  obtain ⟨h1, h2⟩ := List.getElem?_eq_some_iff.mp h
  rw [← h2, List.take_append_getElem]
theorem cut_list (l : List Nat) {a b : Nat} (h : a ≤ b) : (l.drop (min a l.length)).take (min b l.length - min a l.length) = (l.drop a).take (b - a) := by
  by_cases ha : a ≤ l.length
  · rw [Nat.min_eq_left ha]
    by_cases hb : b ≤ l.length
    · rw [Nat.min_eq_left hb]
    · rw [Nat.min_eq_right (by omega), List.take_of_length_le (by rw [List.length_drop]; exact Nat.le_refl _), List.take_of_length_le (by rw [List.length_drop]; omega)]
  · rw [List.drop_eq_nil_of_le (by omega), List.drop_eq_nil_of_le (show l.length ≤ a by omega), List.take_nil, List.take_nil]
theorem cut_ab {z : Str} {a b : Nat} (h : a ≤ b) : cutS z (some (a : Int)) (some (b : Int)) = tx ((z.cps.toList.drop a).take (b - a)) := by
  have hl : z.cps.toList.length = z.length := Array.length_toList ..
  unfold cutS
  rw [HT.sIx_nat, HT.sIx_nat, ← hl, cut_list _ h]
theorem cut_to {z : Str} {b : Nat} : cutS z none (some (b : Int)) = tx (z.cps.toList.take b) := by
  have hl : z.cps.toList.length = z.length := Array.length_toList ..
  have := cut_list z.cps.toList (Nat.zero_le b)
  unfold cutS
  rw [HT.sIx_nat, ← hl]
  rw [Nat.zero_min] at this
  exact congrArg tx this
theorem cut_from {z : Str} {a : Nat} : cutS z (some (a : Int)) none = tx (z.cps.toList.drop a) := by
  have hl : z.cps.toList.length = z.length := Array.length_toList ..
  unfold cutS
  rw [HT.sIx_nat, ← hl]
  show tx ((z.cps.toList.drop (min a z.cps.toList.length)).take (z.length - min a z.cps.toList.length)) = _
  refine congrArg tx ?_
  by_cases ha : a ≤ z.cps.toList.length
  · rw [Nat.min_eq_left ha, List.take_of_length_le (by rw [List.length_drop]; omega)]
  · rw [Nat.min_eq_right (by omega), List.drop_length, List.take_nil, List.drop_eq_nil_of_le (by omega)]
theorem tx_of (z : Str) : tx z.cps.toList = z := by
  show (⟨z.cps.toList.toArray⟩ : Str) = z
  rw [Array.toArray_toList]
theorem tx_len (l : List Nat) : (tx l).length = l.length := List.size_toArray ..
theorem tx_beq (a b : List Nat) : (tx a == tx b) = decide (a = b) := by
  by_cases h : a = b
  · subst h; rw [decide_eq_true rfl]; exact beq_self_eq_true _
  · rw [decide_eq_false h]; exact beq_eq_false_iff_ne.mpr fun e => h (tx_inj e)
theorem tx_dec (a b : List Nat) : decide (V.str (tx a) = V.str (tx b)) = decide (a = b) := by
  by_cases h : a = b
  · subst h; rw [decide_eq_true rfl, decide_eq_true rfl]
  · rw [decide_eq_false h, decide_eq_false fun e => h (tx_inj (V.str.inj e))]
theorem inV_tx (l : List Nat) : ∀ ls : List (List Nat), inV (.str (tx l)) (ls.map fun m => V.str (tx m)) = decide (l ∈ ls)
  | [] => rfl
  | m :: r => by
    have ih := inV_tx l r
    unfold inV at ih ⊢
    rw [List.map_cons, List.any_cons, ih]
    show ((tx m == tx l) || _) = _
    rw [tx_beq]
    by_cases h : m = l
    · subst h
      rw [decide_eq_true rfl, decide_eq_true List.mem_cons_self]; rfl
    · rw [decide_eq_false h, Bool.false_or]
      exact decide_eq_decide.mpr ⟨fun q => List.mem_cons_of_mem _ q, fun q => (List.mem_cons.mp q).resolve_left fun e => h e.symm⟩
theorem s_empty : Str.ofString "" = tx [] := by decide +kernel
theorem s_open : Str.ofString "{" = tx [123] := by decide +kernel
theorem s_close : Str.ofString "}" = tx [125] := by decide +kernel
theorem s_open2 : Str.ofString "{{" = tx [123, 123] := by decide +kernel
theorem s_close2 : Str.ofString "}}" = tx [125, 125] := by decide +kernel
theorem s_blank : Str.ofString " " = tx [32] := by decide +kernel
theorem s_bangr : Str.ofString "!r" = tx [33, 114] := by decide +kernel
theorem s_bangs : Str.ofString "!s" = tx [33, 115] := by decide +kernel
theorem s_bang : Str.ofString "!" = tx [33] := by decide +kernel
theorem s_colon : Str.ofString ":" = tx [58] := by decide +kernel
theorem seq_doc {u : TS} {D : Ends} {σ : L2.St} {H : Hp} (h : u D σ H) : tSeq tNext u D σ H := h
theorem cut_two {z : Str} {a : Nat} (ha : a ≤ z.length) : cutS z (some (a : Int)) (some ((a : Int) + 2)) = tx ((z.cps.toList.drop a).take 2) := by
  have hl : z.cps.toList.length = z.length := Array.length_toList ..
  by_cases c : a + 2 ≤ z.length
  · have := cut_nat ha c
    rw [show ((a + 2 : Nat) : Int) = (a : Int) + 2 by omega, show a + 2 - a = 2 by omega] at this
    exact this
  · have e : HT.sIx z.length z.length (some ((a : Int) + 2)) = z.length := by
      have := HT.sIx_nat z.length z.length (a + 2)
      rw [show ((a + 2 : Nat) : Int) = (a : Int) + 2 by omega] at this
      rw [this]; omega
    unfold cutS
    rw [e, sIx_nat' ha, List.take_of_length_le (by rw [List.length_drop, hl]; exact Nat.le_refl _), List.take_of_length_le (by rw [List.length_drop, hl]; omega)]
end
end K17

set_option Elab.async false
set_option linter.all false
set_option maxRecDepth 100000
set_option maxHeartbeats 0
namespace K17
open PySem PySem.Spec PyProof.Rows L2 RC
section
variable {P : Program} {w : World} {K : PySem.W.Frag} {mg : Str → Option Value} {base : Heap}
/-! ### records -/
/-- a list or a tuple -/
def AX (K : PySem.W.Frag) (H : Hp) (a : Addr) (xs : List V) : Prop := H a = some (.lst xs) ∨ SqT K H a xs
theorem AX.but {H H' : Hp} {a p : Addr} {xs : List V} {C dx : Addr} {fs : List (Str × V)} (e : SameBut p H H') (hp : H p = some (.ins C dx fs)) (h : AX K H a xs) : AX K H' a xs := by
  rcases h with h | (h | ⟨o, h⟩) | h
  · exact .inl (e _ _ (fun z => by rw [z, hp] at h; cases h) h)
  · exact .inr (.inl (.inl (e _ _ (fun z => by rw [z, hp] at h; cases h) h)))
  · exact .inr (.inl (.inr ⟨o, e _ _ (fun z => by rw [z, hp] at h; cases h) h⟩))
  · exact .inr (.inr h)
theorem AX.same {H H' : Hp} {a : Addr} {xs : List V} (e : Same H H') (h : AX K H a xs) : AX K H' a xs := by
  rcases h with h | (h | ⟨o, h⟩) | h
  · exact .inl (e _ _ h)
  · exact .inr (.inl (.inl (e _ _ h)))
  · exact .inr (.inl (.inr ⟨o, e _ _ h⟩))
  · exact .inr (.inr h)
def recF (name : Str) (lv : Int) (ln msg : Str) (g : Addr) (clk : Int) (e : Addr) : List (Str × V) := [("name", .str name), ("levelno", .int lv), ("levelname", .str ln), ("msg", .str msg), ("given", .ref g), ("created", .int clk), ("extra", .ref e)]
def spRecInit (K : PySem.W.Frag) : Sp := fun vs H Q _ => ∃ (p dx a d : Addr) (name ln msg : Str) (lv clk : Int) (xs : List V), vs = [.ref p, .str name, .int lv, .str ln, .str msg, .ref a, .int clk, .ref d] ∧ H p = some (.ins (CR K) dx []) ∧ AX K H a xs ∧ (∀ x ∈ xs, PlainV x) ∧ xs.length ≤ 1000 ∧ H d = some (.dK []) ∧
  ∀ (H' : Hp) (g e : Addr), SameBut p H H' → H' p = some (.ins (CR K) dx (recF name lv ln msg g clk e)) → H' g = some (.tup xs) → H' e = some (.dK []) → H g = none → H e = none → Q .non H'
theorem SameBut.free {p t : Addr} {H H' : Hp} (b : SameBut p H H') (n : t ≠ p) (h : H' t = none) : H t = none := by
  cases z : H t with
  | none => rfl
  | some o => rw [b _ _ n z] at h; cases h
theorem ok_rec_init {f : Addr} (T : Txt P w K mg) (F : Stands K "__init__" "LogRecord.__init__" s_LogRecord_init [] f) (c_copied_value : Callable P w K mg base 3 (He.ga K "copied_value") ["thing"] [] (spCopied K 2)) :
    Callable P w K mg base 4 f ["self", "name", "levelno", "levelname", "msg", "args", "created", "extra"] [] (spRecInit K) := by
  refine F.call0 sc_LogRecord_init (fun vs H Q E h => ?_) (fun cdv A outer s H vs Q E hr h => ?_) (fun _ _ _ _ _ _ us hl => match us, hl with | [_, _, _, _, _, _, _, _], _ => rfl)
  · obtain ⟨p, dx, a, d, name, ln, msg, lv, clk, xs, rfl, _⟩ := h; rfl
  obtain ⟨p, dx, a, d, name, ln, msg, lv, clk, xs, rfl, hp, hT, hx, hl, hD, hQ⟩ := h
  refine ⟨_, (pss_cons (ps_fld (pv 0) (pv 1) rfl)
      (pss_cons (ps_fld (pv 0) (pv 2) rfl)
      (pss_cons (ps_fld (pv 0) (pv 3) rfl)
      (pss_cons (ps_fld (pv 0) (pv 4) rfl)
      (pss_cons (ps_fld (pv 0) (pe_fn T.g_copied_value c_copied_value (hr.mono (by first | decide | exact Nat.le_refl _)) (by rfl) (pa_cons (pe_callTy call_tuple_of (by rfl) T.b_tuple (by decide +kernel) (pa_cons (pv 5) pa_nil)) pa_nil)) rfl)
      (pss_cons (ps_fld (pv 0) (pv 6) rfl)
      (pss_one (ps_fld (pv 0) (pe_fn T.g_copied_value c_copied_value (hr.mono (by first | decide | exact Nat.le_refl _)) (by rfl) (pa_cons (pv 7) pa_nil)) rfl)))))))), ?_⟩
  refine ⟨_, rfl, _, rfl, p, _, dx, _, rfl, hp, T.c_LogRecord, T.n_LogRecord_name, (by show 0 < 1000; decide), ?_⟩
  refine ⟨_, rfl, _, rfl, p, _, dx, _, rfl, upd_same, T.c_LogRecord, T.n_LogRecord_levelno, (by show 1 < 1000; decide), ?_⟩
  rw [upd_upd]
  refine ⟨_, rfl, _, rfl, p, _, dx, _, rfl, upd_same, T.c_LogRecord, T.n_LogRecord_levelname, (by show 2 < 1000; decide), ?_⟩
  rw [upd_upd]
  refine ⟨_, rfl, _, rfl, p, _, dx, _, rfl, upd_same, T.c_LogRecord, T.n_LogRecord_msg, (by show 3 < 1000; decide), ?_⟩
  rw [upd_upd]
  generalize e1 : upd H p _ = H1
  have b1 : SameBut p H H1 := by rw [← e1]; exact SameBut.put
  have p1 : H1 p = some (.ins (CR K) dx [("name", .str name), ("levelno", .int lv), ("levelname", .str ln), ("msg", .str msg)]) := by rw [← e1]; exact upd_same
  clear e1
  dsimp only
  refine seq_of (fun σ' H3 => σ' = L2.start nm_LogRecord_init [.ref p, .str name, .int lv, .str ln, .str msg, .ref a, .int clk, .ref d] ∧ ∃ t, SameBut p H1 H3 ∧ H1 t = none ∧ H3 t = some (.tup xs) ∧ H3 p = some (.ins (CR K) dx [("name", .str name), ("levelno", .int lv), ("levelname", .str ln), ("msg", .str msg), ("given", .ref t)])) (fun b' kb => ?_) (fun σ' H3 hm => ?_)
  · have fin : ∀ (H2 : Hp) (t u : Addr), Same H1 H2 → H1 t = none → H2 t = some (.tup xs) → t ≠ p ∧ SameBut p H1 (upd H2 p (.ins (CR K) dx [("name", .str name), ("levelno", .int lv), ("levelname", .str ln), ("msg", .str msg), ("given", .ref u)])) := fun H2 t u s2 n2 t2 => ⟨fun z => (by rw [z, p1] at n2; cases n2), (SameBut.of s2).trans SameBut.put⟩
    rcases AX.but b1 hp hT with hT1 | hT1
    · refine ⟨_, rfl, a, xs, rfl, .inl ⟨SqL.of hT1, fun t ht => ?_⟩⟩
      refine .inr (.inl ⟨t, xs, rfl, (by decide), SqT.of upd_same, hx, hl, fun H2 g s2 n2 g2 => ?_⟩)
      have s12 := (same_new ht _).trans s2
      have n1 : H1 g = none := (same_new ht (.tup xs)).free n2
      obtain ⟨ng, sb⟩ := fin H2 g g s12 n1 g2
      refine ⟨_, rfl, p, _, dx, _, rfl, s12 _ _ p1, T.c_LogRecord, T.n_LogRecord_given, (by show 4 < 1000; decide), ?_⟩
      exact kb _ _ ⟨rfl, g, sb, n1, by rw [upd_ne ng]; exact g2, upd_same⟩
    · refine ⟨_, rfl, a, xs, rfl, .inr ⟨hT1, ?_⟩⟩
      refine .inr (.inl ⟨a, xs, rfl, (by decide), hT1, hx, hl, fun H2 g s2 n2 g2 => ?_⟩)
      obtain ⟨ng, sb⟩ := fin H2 g g s2 n2 g2
      refine ⟨_, rfl, p, _, dx, _, rfl, s2 _ _ p1, T.c_LogRecord, T.n_LogRecord_given, (by show 4 < 1000; decide), ?_⟩
      exact kb _ _ ⟨rfl, g, sb, n2, by rw [upd_ne ng]; exact g2, upd_same⟩
  obtain ⟨rfl, t, b3, n3, t3, p3⟩ := hm
  refine ⟨_, rfl, _, rfl, p, _, dx, _, rfl, p3, T.c_LogRecord, T.n_LogRecord_created, (by show 5 < 1000; decide), ?_⟩
  have ntp : t ≠ p := fun z => by rw [z, p1] at n3; cases n3
  have ndp : d ≠ p := fun z => by rw [z, hp] at hD; cases hD
  generalize e3 : upd H3 p _ = H5
  have b5 : SameBut p H3 H5 := by rw [← e3]; exact SameBut.put
  have p5 : H5 p = some (.ins (CR K) dx [("name", .str name), ("levelno", .int lv), ("levelname", .str ln), ("msg", .str msg), ("given", .ref t), ("created", .int clk)]) := by rw [← e3]; exact upd_same
  clear e3
  have d5 : H5 d = some (.dK []) := b5 _ _ ndp (b3 _ _ ndp (b1 _ _ ndp hD))
  refine ⟨_, rfl, .inr (.inr ⟨d, rfl, (by decide), d5, fun H4 e s4 n4 e4 => ?_⟩)⟩
  refine ⟨_, rfl, p, _, dx, _, rfl, s4 _ _ p5, T.c_LogRecord, T.n_LogRecord_extra, (by show 6 < 1000; decide), ?_⟩
  have nep : e ≠ p := fun z => by rw [z, p5] at n4; cases n4
  refine hQ _ t e ?_ upd_same ?_ ?_ ?_ ?_
  · exact ((b1.trans b3).trans (b5.trans (SameBut.of s4))).trans SameBut.put
  · rw [upd_ne ntp]; exact s4 _ _ (b5 _ _ ntp t3)
  · rw [upd_ne nep]; exact e4
  · exact b1.free ntp n3
  · exact b1.free nep (b3.free nep (b5.free nep n4))
end
end K17

set_option Elab.async false
set_option linter.all false
set_option maxRecDepth 100000
set_option maxHeartbeats 0

namespace K17
open PySem PySem.Spec PyProof.Rows L2 RC
section
variable {P : Program} {w : World} {K : PySem.W.Frag} {mg : Str → Option Value} {base : Heap}
/-! ### make_record, of a number and no args -/
def NmsOk (nms : List (Key × V)) : Prop := ∀ k v, valV nms k = some v → ∃ z : Str, v = .str z
def lvName (nms : List (Key × V)) (i : Int) : Str := match valV nms (Sum.inl i) with
  | some (.str z) => z
  | _ => ("Level " : Str) ++ (toString i : Str)
def spLevelName (K : PySem.W.Frag) : Sp := fun vs H Q _ => ∃ (y dy na : Addr) (fs : List (Str × V)) (nms : List (Key × V)) (i : Int), vs = [.ref y, .int i] ∧ H y = some (.ins (CY K) dy fs) ∧ fs.lookup ("names_of" : Str) = some (.ref na) ∧ H na = some (.dK nms) ∧ NmsOk nms ∧ i.natAbs < 2 ^ 63 ∧ Q (.str (lvName nms i)) H
theorem ok_level_name {f : Addr} (T : Txt P w K mg) (F : Stands K "level_name" "Yard.level_name" s_Yard_level_name [] f) : Callable P w K mg base 1 f ["self", "level"] [] (spLevelName K) := by
  refine F.call0 sc_Yard_level_name (fun vs H Q E h => ?_) (fun cdv A outer s H vs Q E hr h => ?_) (fun _ _ _ _ _ _ us hl => match us, hl with | [_, _], _ => rfl)
  · obtain ⟨y, dy, na, fs, nms, i, rfl, _⟩ := h; rfl
  obtain ⟨y, dy, na, fs, nms, i, rfl, hy, hn, hna, hz, hi, hQ⟩ := h
  refine ⟨_, (pss_one (ps_ret (pe_ifExp (pt_cmp (pc_din (hu_of hr) (pv 1) (pe_fld (pv 0) rfl))) (pe_dget (hu_of hr) (pe_fld (pv 0) rfl) (pv 1) (fun _ _ => rfl)) (pe_op op_add_str pe_str (pe_callTy call_str_int (by rfl) T.b_str (by decide +kernel) (pa_cons (pv 1) pa_nil)))))), ?_⟩
  walk_at "in"
  unfold lvName at hQ
  cases e : valV nms (Sum.inl i) with
  | some v =>
    obtain ⟨z, rfl⟩ := hz _ _ e
    rw [e] at hQ
    walk_at "go"
    exact hQ
  | none =>
    rw [e] at hQ
    walk_at "go"
    have hl := RN.len_toString i
    have hl2 : i.natAbs.log2 < 63 := by
      by_cases c : i.natAbs = 0
      · rw [c]; decide
      · exact (Nat.log2_lt c).mpr hi
    refine ⟨by omega, _, _, rfl, rfl, ?_, hQ⟩
    show 6 + (Str.ofString (toString i)).length ≤ sizeLine
    rw [sizeLine_eq]; omega
/-- a record as the yard makes it, without extra -/
def RecAt (K : PySem.W.Frag) (H : Hp) (r : Addr) (name : Str) (lv : Int) (ln msg : Str) (clk : Int) (xs : List V) : Prop := ∃ dx g e, H r = some (.ins (CR K) dx (recF name lv ln msg g clk e)) ∧ H g = some (.tup xs) ∧ H e = some (.dK [])
theorem RecAt.same {H H' : Hp} {r : Addr} {name : Str} {lv : Int} {ln msg : Str} {clk : Int} {xs : List V} (h : RecAt K H r name lv ln msg clk xs) (s : Same H H') : RecAt K H' r name lv ln msg clk xs := by
  obtain ⟨dx, g, e, h1, h2, h3⟩ := h
  exact ⟨dx, g, e, s _ _ h1, s _ _ h2, s _ _ h3⟩
theorem RecAt.name {H : Hp} {r : Addr} {name : Str} {lv : Int} {ln msg : Str} {clk : Int} {xs : List V} (h : RecAt K H r name lv ln msg clk xs) : RecName K H r name := by
  obtain ⟨dx, g, e, h1, _⟩ := h
  exact ⟨dx, _, h1, rfl⟩
def spMakeRecord (K : PySem.W.Frag) : Sp := fun vs H Q _ => ∃ (y dy na nu a : Addr) (fs : List (Str × V)) (nms nums : List (Key × V)) (name msg : Str) (lv clk : Int) (xs : List V), vs = [.ref y, .str name, .int lv, .str msg, .ref a, .non] ∧ AX K H a xs ∧ (∀ x ∈ xs, PlainV x) ∧ xs.length ≤ 1000 ∧ H y = some (.ins (CY K) dy fs) ∧
  fs.lookup ("names_of" : Str) = some (.ref na) ∧ fs.lookup ("numbers_of" : Str) = some (.ref nu) ∧ fs.lookup ("clock" : Str) = some (.int clk) ∧ fs.lookup ("level_of" : Str) = none ∧ fs.lookup ("level_name" : Str) = none ∧ H na = some (.dK nms) ∧ H nu = some (.dK nums) ∧ NmsOk nms ∧ lv.natAbs < 2 ^ 63 ∧
  ∀ (H' : Hp) (r g e : Addr), Same H H' → H r = none → H g = none → H e = none → (∃ dx, H' r = some (.ins (CR K) dx (recF name lv (lvName nms lv) msg g clk e))) → H' g = some (.tup xs) → H' e = some (.dK []) → Q (.ref r) H'
theorem body_make_record {f : Addr} (T : Txt P w K mg) {cdv : Value} {A : Around} {outer : List Env} {st0 : Shared} {E : XK} {vs : List V} {H : Hp} {Q : VK} (hr : Room 5 (A.deeper (envOfC "Yard.make_record" (defScope s_Yard_make_record) st0.heap.objs.size f cdv))) (h : spMakeRecord K vs H Q E)
    (c_Yard_level_of : Callable P w K mg base 2 (He.ma K (He.ga K "Yard") "level_of") ["self", "level"] [] (spLevelOf K)) (c_Yard_level_name : Callable P w K mg base 1 (He.ma K (He.ga K "Yard") "level_name") ["self", "level"] [] (spLevelName K))
    (c_LogRecord_init : Callable P w K mg base 4 (He.ma K (He.ga K "LogRecord") "__init__") ["self", "name", "levelno", "levelname", "msg", "args", "created", "extra"] [] (spRecInit K)) :
    ∃ t, PSs (cxOf CX0 P w K mg base nm_Yard_make_record "Yard.make_record" (defScope s_Yard_make_record) f cdv A outer st0 H E).nox (defBody s_Yard_make_record) t ∧ t { nx := fun _ H' => Q .non H', rt := Q } (start nm_Yard_make_record vs) H := by
  obtain ⟨y, dy, na, nu, a, fs, nms, nums, name, msg, lv, clk, xs, rfl, hT, hx, hl, hy, hna, hnu, hck, hlo, hln, gna, gnu, hz, hlv, hQ⟩ := h
  refine ⟨_, (pss_cons (ps_set (i := 6) sc_Yard_make_record.nd rfl (by first | exact Or.inl rfl | exact Or.inr rfl) (pe_mt T.c_Yard T.m_Yard_level_of c_Yard_level_of (hr.mono (by first | decide | exact Nat.le_refl _)) (pv 0) (pa_cons (pv 2) pa_nil)))
      (pss_cons (ps_set (i := 7) sc_Yard_make_record.nd rfl (by first | exact Or.inl rfl | exact Or.inr rfl) (pe_ifExp (pt_cmpR op_isN (pv 5) pe_non (nomark _)) pe_dnewK (pv 5)))
      (pss_cons (ps_set (i := 8) sc_Yard_make_record.nd rfl (by first | exact Or.inl rfl | exact Or.inr rfl) (pe_callB cr_sortedS (by rfl) T.b_sorted (by decide +kernel) (pa_cons (pe_lock (pe_lc (own := [("key", 9)]) (by rfl) sc_Yard_make_record.nd (pi_keys (pv 7)) (blkOk_by (own := [("key", 9)]) (N := nm_Yard_make_record) (sc := defScope s_Yard_make_record) (by decide +kernel)) (fun _ _ _ _ _ => (pg_name (i := 9) sc_Yard_make_record.nd rfl (by first | exact Or.inl rfl | exact Or.inr rfl))) (fun _ _ _ _ _ => (pts_one pt_never)) (fun _ _ _ _ _ => (pv 9)))) pa_nil)))
      (pss_cons (ps_if (pt_cmpR (op_neD hr.units) (pv 8) (pe_lst pa_nil) (nomark _)) (pss_one ps_never) pss_nil)
      (pss_one (ps_ret (pe_mk T.k_LogRecord T.g_LogRecord c_LogRecord_init (hr.mono (by first | decide | exact Nat.le_refl _)) (by rfl) (pa_cons (pv 1) (pa_cons (pv 6) (pa_cons (pe_mt T.c_Yard T.m_Yard_level_name c_Yard_level_name (hr.mono (by first | decide | exact Nat.le_refl _)) (pv 0) (pa_cons (pv 6) pa_nil)) (pa_cons (pv 3) (pa_cons (pv 4) (pa_cons (pe_fld (pv 0) rfl) (pa_cons (pv 7) pa_nil)))))))))))))), ?_⟩
  -- number = self.level_of(level)
  refine ⟨_, rfl, y, dy, fs, rfl, hy, hlo, _, rfl, y, dy, nu, fs, nums, .int lv, .int lv, rfl, hy, hnu, gnu, rfl, ?_⟩
  -- more = {}
  refine ⟨_, rfl, rfl, _, rfl, iteT' (by rfl) fun m hm => ?_⟩
  have s1 : Same H (upd H m (.dK [])) := same_new hm _
  -- bad = sorted([..])
  refine ⟨m, _, upd_same, trivial, fun od => ?_⟩
  refine ⟨_, rfl, m, od, rfl, .inl ⟨[], upd_same, fun D hD => ?_⟩⟩
  have hD' : upd H m (.dK []) D = none := (upd_none hD).2
  refine lc_it walk_keys (fun i H' => H' = upd (upd (upd H m (.dK [])) m (.frz od (.dK []))) D (.lst [])) rfl (fun i H' _ h => ?_) (fun i x H' H'' hi => nomatch hi) (fun H' h => ?_)
  · subst h; rw [upd_ne (Ne.symm (upd_none hD).1)]; exact upd_same
  subst h
  refine ⟨by rw [upd_ne (Ne.symm (upd_none hD).1)]; exact upd_same, ?_⟩
  rw [unlock upd_same hD]
  have s2 := s1.trans (same_new hD' (.lst []))
  refine ⟨D, [], rfl, SqL.of upd_same, (by decide), fun ys q hp _ hq => ?_⟩
  have e0 : ys = [] := hp.eq_nil
  subst e0
  have s3 := s2.trans (same_new hq (.lst ([].map V.str)))
  -- if bad != []
  refine ⟨_, rfl, (by show 0 ≤ sizeLine; decide), fun q2 hq2 => ?_⟩
  have s4 := s3.trans (same_new hq2 (.lst []))
  refine ⟨_, _, Dp.lst (SqL.of (by rw [upd_ne (ne_of_none upd_same hq2)]; exact upd_same)) .nil, Dp.lst (SqL.of upd_same) .nil, by decide +kernel, by decide +kernel, _, rfl, iteF' (by decide +kernel) ?_⟩
  have m4 : (upd (upd (upd (upd H m (.dK [])) D (.lst [])) q (.lst ([].map V.str))) q2 (.lst [])) m = some (.dK []) := by
    have k1 : upd H m (.dK []) m = some (.dK []) := upd_same
    exact (same_new hq2 _) _ _ ((same_new hq _) _ _ ((same_new hD' _) _ _ k1))
  generalize upd (upd (upd (upd H m (.dK [])) D (.lst [])) q (.lst ([].map V.str))) q2 (.lst []) = H4 at s4 m4
  have hT4 := hT.same s4
  have g1 := s4 _ _ hy
  have g2 := s4 _ _ gna
  refine ⟨_, rfl, _, rfl, _, rfl, y, dy, fs, rfl, g1, hln, _, rfl, y, dy, na, fs, nms, lv, rfl, g1, hna, g2, hz, hlv, _, rfl, _, rfl, _, rfl, y, _, dy, fs, _, rfl, g1, T.c_Yard, T.n_Yard_clock, hck, _, rfl, fun x dx hx2 hdx hne => ?_⟩
  have sx : Same H4 (upd (upd H4 dx (.own x)) x (.ins (CR K) dx [])) := made_same hx2 hdx (fun _ _ _ e => e)
  refine ⟨x, dx, a, m, name, _, msg, lv, clk, xs, rfl, upd_same, hT4.same sx, hx, hl, sx _ _ m4, fun H' g e b5 h5' hg he g0 e0 => ⟨rfl, ?_⟩⟩
  have f0 : ∀ b, upd (upd H4 dx (.own x)) x (.ins (CR K) dx []) b = none → H b = none := fun b hb => s4.free (upd_none (upd_none hb).2).2
  exact hQ H' x g e (s4.trans (made_same hx2 hdx b5)) (s4.free hx2) (f0 _ g0) (f0 _ e0) ⟨dx, h5'⟩ hg he
theorem ok_make_record {f : Addr} (T : Txt P w K mg) (F : Stands K "make_record" "Yard.make_record" s_Yard_make_record [.ref (He.dflAt ("Yard", some "make_record") 0 K), .non] f)
    (c_Yard_level_of : Callable P w K mg base 2 (He.ma K (He.ga K "Yard") "level_of") ["self", "level"] [] (spLevelOf K)) (c_Yard_level_name : Callable P w K mg base 1 (He.ma K (He.ga K "Yard") "level_name") ["self", "level"] [] (spLevelName K))
    (c_LogRecord_init : Callable P w K mg base 4 (He.ma K (He.ga K "LogRecord") "__init__") ["self", "name", "levelno", "levelname", "msg", "args", "created", "extra"] [] (spRecInit K)) :
    Callable P w K mg base 6 f ["self", "name", "level", "msg", "args", "extra"] [.non] (spMakeRecord K) := by
  have len : ∀ vs H Q E, spMakeRecord K vs H Q E → vs.length = 6 := fun vs H Q E h => by
    obtain ⟨y, dy, na, nu, a, fs, nms, nums, name, msg, lv, clk, xs, rfl, _⟩ := h; rfl
  exact F.call sc_Yard_make_record 5 1 len (fun cdv A outer s H vs Q E hr h => body_make_record T hr h c_Yard_level_of c_Yard_level_name c_LogRecord_init) (fun z => nomatch z) fun _ => ⟨rfl, fun _ _ _ _ _ _ _ us its hl hi => match us, hl, its, hi with | [_, _, _, _, _], _, [_, _], _ => ⟨_, rfl, rfl⟩⟩
end
end K17

set_option Elab.async false
set_option linter.all false
set_option maxRecDepth 100000
set_option maxHeartbeats 4000000
/-! Defs that may raise own errors, calls of them, raise, except X as e of several clauses. -/
namespace RQ
open PySem PySem.Spec PyProof.Rows L2 RC
/-- as Callable, where an error may leave the def -/
def CallX (P : Program) (w : World) (K : PySem.W.Frag) (mg : Str → Option Value) (base : Heap) (k : Nat) (f : Addr) (ps : List Str) (dvs : List V) (sp : Sp) : Prop :=
  ∃ fd ds, FnOk P w K mg base (L2.CX P w) k f fd ps sp ∧ Vals dvs ds ∧ Binds K fd ps ds ∧ PySem.W.keepIn K (.ref f) = true
section
variable {P : Program} {w : World} {K : PySem.W.Frag} {mg : Str → Option Value} {base : Heap} {x qual : Str} {dvs : List V} {f : Addr} {k : Nat} {N ps : List Str} {sp : Sp}
theorem CallX.up {j : Nat} (c : CallX P w K mg base j f ps dvs sp) (h : j ≤ k) : CallX P w K mg base k f ps dvs sp :=
  let ⟨fd, ds, F, r⟩ := c
  ⟨fd, ds, F.mono h, r⟩
theorem stands_callX {st : Stmt} (F : Stands K x qual st dvs f) (S : FnScope N ps (defScope st)) (n j : Nat) (len : ∀ vs H Q E, sp vs H Q E → vs.length = ps.length)
    (hbody : ∀ (cdv : Value) (A : Around) (outer : List Env) (s : Shared) (H : Hp) (vs : List V) (Q : VK) (E : XK), Room k (A.deeper (envOfC qual (defScope st) s.heap.objs.size f cdv)) → sp vs H Q E →
      ∃ t, PSs (cxOf (L2.CX P w) P w K mg base N qual (defScope st) f cdv A outer s H E) (defBody st) t ∧ t { nx := fun _ H' => Q .non H', rt := Q } (start N vs) H)
    (h0 : dvs = [] → n = ps.length ∧ ∀ (kV doc pm : Value) (an : Option Addr) (cdv ct : Value) (us : List Value), us.length = ps.length → bindArgs (PySem.W.fnOf x qual (defArgs st) (defBody st) (defScope st) .none kV doc pm an cdv ct) ⟨us, []⟩ = pure (ps.zip us))
    (h1 : dvs ≠ [] → n + (dvs.length - j) = ps.length ∧ ∀ (T : Addr) (kV doc pm : Value) (an : Option Addr) (cdv ct : Value) (us its : List Value), us.length = n → its.length = dvs.length →
      ∃ k, bindArgs (PySem.W.fnOf x qual (defArgs st) (defBody st) (defScope st) (.ref T) kV doc pm an cdv ct) ⟨us, []⟩ = seqItems? (.ref T) >>= k ∧ k (some its.toArray) = pure (ps.zip (us ++ its.drop j))) :
    CallX P w K mg base (k + 1) f ps (dvs.drop j) sp := by
  obtain ⟨fd, F⟩ := F
  have ok : FnOk P w K mg base (L2.CX P w) (k + 1) f fd ps sp := F.ok S len fun cdv A outer s H vs Q E hr hsp => hbody cdv A outer s H vs Q E hr hsp
  by_cases hd : dvs = []
  · subst hd
    exact ⟨fd, [], ok, by rw [List.drop_nil]; exact .nil, F.bindsN (h0 rfl).2, F.kp⟩
  · obtain ⟨ds, hv, hb⟩ := F.binds1 n j hd (h1 hd).1 (h1 hd).2
    exact ⟨fd, ds, ok, hv, hb, F.kp⟩
theorem stands_callX0 {st : Stmt} (F : Stands K x qual st [] f) (S : FnScope N ps (defScope st)) (len : ∀ vs H Q E, sp vs H Q E → vs.length = ps.length)
    (hbody : ∀ (cdv : Value) (A : Around) (outer : List Env) (s : Shared) (H : Hp) (vs : List V) (Q : VK) (E : XK), Room k (A.deeper (envOfC qual (defScope st) s.heap.objs.size f cdv)) → sp vs H Q E →
      ∃ t, PSs (cxOf (L2.CX P w) P w K mg base N qual (defScope st) f cdv A outer s H E) (defBody st) t ∧ t { nx := fun _ H' => Q .non H', rt := Q } (start N vs) H)
    (h0 : ∀ (kV doc pm : Value) (an : Option Addr) (cdv ct : Value) (us : List Value), us.length = ps.length → bindArgs (PySem.W.fnOf x qual (defArgs st) (defBody st) (defScope st) .none kV doc pm an cdv ct) ⟨us, []⟩ = pure (ps.zip us)) :
    CallX P w K mg base (k + 1) f ps [] sp := by
  obtain ⟨fd, F⟩ := F
  have ok : FnOk P w K mg base (L2.CX P w) (k + 1) f fd ps sp := F.ok S len fun cdv A outer s H vs Q E hr hsp => hbody cdv A outer s H vs Q E hr hsp
  exact ⟨fd, [], ok, .nil, F.bindsN h0, F.kp⟩
end
section
variable {X : Cx} {k : Nat} {f C : Addr} {ps : List Str} {sp : Sp} {dvs : List V} {x m : Str} {p pos apos : Pos} {e o : Expr} {es : List Expr} {ta : TE} {t : TA} {pl : Sem Bool} {W : WX}
/-- f(e, ..), where f may raise -/
theorem pe_fnX (tk : Takes X W) (hm : X.mg x = some (.ref f)) (c : CallX X.prog X.w X.K X.mg X.base k f ps dvs sp) (hr : Room k X.A) (hg : Gl X x) (ha : PA X (e :: es) t) (hdb : (x == ("__debug__" : Str)) = false := by decide)
    (he : starEach (e :: es) X.env = (false, eval e X.env) :: starEach es X.env := by rfl) (hpl : (backTo pos (starEach es X.env)).any (·.1) = false := by rfl) : PE X (.Call (.Name x p) (e :: es) [] pos) (tCallSD sp dvs (WE W) t) := by
  obtain ⟨fd, ds, F, hd, hb, hk⟩ := c
  exact pe_callSD F hr hg hm hk hb hd (fun σ => passAt tk σ) ha hdb he hpl
/-- o.m(e, ..), where m may raise -/
def tMethX (C : Addr) (m : Str) (sp : Sp) (dvs : List V) (E : L2.St → XK) (ta : TE) (t : TA) : TE := fun σ H Q => ta σ H fun x H1 => ∃ a dx fs, x = .ref a ∧ H1 a = some (.ins C dx fs) ∧ fs.lookup m = none ∧ t σ H1 fun vs H2 => sp (x :: (vs ++ dvs)) H2 Q (E σ)
theorem pe_mtX (tk : Takes X W) (cl : Cls X.K C) (hm : Meth X.K C m f) (c : CallX X.prog X.w X.K X.mg X.base k f ps dvs sp) (hr : Room k X.A) (he : PE X o ta) (ha : PA X (e :: es) t)
    (hst : starEach (e :: es) X.env = (false, eval e X.env) :: starEach es X.env := by rfl) (hpl : (backTo pos (starEach es X.env)).any (·.1) = false := by rfl)
    (ht : eval (.Call (.Attribute o m apos) (e :: es) [] pos) X.env = (do
      let ov ← eval o X.env
      standAt apos.atName
      let (f, first) ← holding [ov] (getMethod ov m pl)
      callWith pos f first (backTo pos (starEach (e :: es) X.env)) (backToKw pos (keywordEach [] X.env))) := by rfl) :
    PE X (.Call (.Attribute o m apos) (e :: es) [] pos) (tMethX C m sp dvs (WE W) ta t) := by
  obtain ⟨fd, ds, F, hd, hb, hk⟩ := c
  refine ⟨fun pins s σ H Q I h => ?_⟩
  refine PySem.W.methodCall_KW (pl := pl) (thn (he.run pins s σ H _ I h) fun u s1 ⟨z, H1, I1, rz, a, dx, fs, ez, ea, l, q⟩ => ?_) ht
  subst ez
  obtain rfl : u = Value.ref a := rz
  refine getmeth_ok I1 ea cl hm l ?_
  refine PySem.W.callWith_K (first := [.ref a]) (h₀ := X.base) I.ok.mod.kin hm.kp (thn (ha.run pos pins s1 σ H1 _ I1 q) fun us s2 ⟨ws, H2, I2, r, q2⟩ => ⟨I2.kIn, ?_⟩) hst hpl
  exact run_fnSD (us := .ref a :: us) (vs := .ref a :: ws) F hr hb hd (passAt tk σ) I2 (.cons rfl r) q2
/-- C(e, ..), where __init__ may raise -/
def tMakeX (C : Addr) (sp : Sp) (dvs : List V) (E : L2.St → XK) (t : TA) : TE := fun σ H Q => t σ H fun vs H1 => ∀ x dx, H1 x = none → H1 dx = none → dx ≠ x →
  sp (.ref x :: (vs ++ dvs)) (upd (upd H1 dx (.own x)) x (.ins C dx [])) (fun v H2 => v = .non ∧ Q (.ref x) H2) (E σ)
theorem pe_mkX (tk : Takes X W) (M : Mk X.K C f) (hm : X.mg x = some (.ref C)) (c : CallX X.prog X.w X.K X.mg X.base k f ps dvs sp) (hr : Room (k + 1) X.A) (hg : Gl X x) (ha : PA X (e :: es) t) (hdb : (x == ("__debug__" : Str)) = false := by decide)
    (he : starEach (e :: es) X.env = (false, eval e X.env) :: starEach es X.env := by rfl) (hpl : (backTo pos (starEach es X.env)).any (·.1) = false := by rfl) : PE X (.Call (.Name x p) (e :: es) [] pos) (tMakeX C sp dvs (WE W) t) := by
  obtain ⟨fd, ds, F, hd, hb, hk⟩ := c
  refine ⟨fun pins s σ H Q I h => ?_⟩
  refine wpAny_Call_Name_kw (ld_glob I hg hm ?_ hdb)
  refine PySem.W.callWith_K (h₀ := X.base) I.ok.mod.kin M.kp (thn (ha.run pos pins s σ H _ I h) fun us s1 ⟨ws, H1, I1, r, q⟩ => ⟨I1.kIn, ?_⟩) he hpl
  have big := Nat.le_succ s1.heap.objs.size
  have spx := q (s1.heap.objs.size + 1) s1.heap.objs.size (I1.hok.fresh big) (I1.hok.fresh (Nat.le_refl _)) (Nat.ne_of_lt (Nat.lt_succ_self _))
  have made := Inv.made (C := C) I1
  have rel : Vals (V.ref (s1.heap.objs.size + 1) :: (ws ++ dvs)) (Value.ref (s1.heap.objs.size + 1) :: (us ++ ds)) := .cons rfl (r.append hd)
  have len : (Value.ref (s1.heap.objs.size + 1) :: us ++ ds).length = ps.length := rel.length.symm.trans (F.len _ _ _ _ spx)
  have bind := hb _ (Value.ref (s1.heap.objs.size + 1) :: us) made.kIn len
  have env := made.env0.make C us []
  have room := hr.make C us []
  refine wpAny_call (make_map (f := f) I1.kIn M.makes M.init (beq_iff_eq.mp M.fn) (codeAny_mono (F.run _ X.stack _ _ ⟨Value.ref (s1.heap.objs.size + 1) :: us, []⟩ _ _ _ (WE W σ) room env bind rel spx) fun z s' hz => ?_))
  cases z with
  | error er => exact passAt tk σ pins _ _ er s' made hz
  | ok fl =>
    cases fl with
    | ret u =>
      obtain ⟨v, H', I3, rv, ev, q3⟩ := made.after hz
      subst ev
      exact ⟨rv, V.ref (s1.heap.objs.size + 1), H', I3, rfl, q3⟩
    | next => exact hz.elim
    | brk => exact hz.elim
    | cont => exact hz.elim
end
/-! ### raise X(e) -/
/-- __init__ of an own error: one field kept -/
def spExcInit (K : PySem.W.Frag) (f : Str) : Sp := fun vs H Q _ => ∃ (a C : Addr) (v : V), vs = [.ref a, v] ∧ RB.ExcF K C f ∧ H a = some (exo a C none) ∧ ∀ dx, H dx = none → dx ≠ a → Q .non (upd (upd H dx (exd dx [(f, v)])) a (exo a C (some dx)))
section
variable {X : Cx} {C : Addr} {f x : Str} {k : Nat} {ps : List Str} {e : Expr} {p pos pos2 : Pos} {ta : TA} {W : WX}
def tMkE (C : Addr) (f : Str) (ta : TA) : L2.St → Hp → XK → Prop := fun σ H Q => ta σ H fun vs H1 => ∃ v, vs = [v] ∧ ∀ d, H1 d = none → Q (.ref C) (some d) (upd H1 d (.xd [(f, v)]))
theorem mkE_of {K : PySem.W.Frag} {Q : XK} {vs : List V} {H1 : Hp} (T : RB.ExcF K C f) (h : ∃ v, vs = [v] ∧ ∀ d, H1 d = none → Q (.ref C) (some d) (upd H1 d (.xd [(f, v)]))) :
    vs.length ≤ 1000 ∧ ∀ a, H1 a = none → spExcInit K f (.ref a :: (vs ++ [])) (upd H1 a (exo a C none))
      (fun v H2 => v = .non ∧ ∃ (d : Addr) (fs : List (Str × V)), H2 a = some (exo a C (some d)) ∧ H2 d = some (exd d fs) ∧ H1 d = none ∧ Q (.ref C) (some d) (upd (del H2 a) d (.xd fs))) (fun _ _ _ => False) := by
  obtain ⟨v, rfl, h⟩ := h
  refine ⟨by show 1 ≤ 1000; decide, fun a ha => ⟨a, C, v, rfl, T, upd_same, fun dx hdx nd => ⟨rfl, dx, [(f, v)], upd_same, by rw [upd_ne nd, upd_same], ?_, ?_⟩⟩⟩
  · have := hdx
    rw [upd_ne nd] at this
    exact this
  · have hd : H1 dx = none := by have := hdx; rw [upd_ne nd] at this; exact this
    have e : upd (del (upd (upd (upd H1 a (exo a C none)) dx (exd dx [(f, v)])) a (exo a C (some dx))) a) dx (.xd [(f, v)]) = upd H1 dx (.xd [(f, v)]) := by
      funext b
      by_cases c : b = dx
      · rw [c, upd_same, upd_same]
      · rw [upd_ne c, upd_ne c]
        by_cases z : b = a
        · rw [z, del_same, ha]
        · rw [del_ne z, upd_ne z, upd_ne c, upd_ne z]
    rw [e]
    exact h dx hd
theorem pmk_exc (T : RB.ExcF X.K C f) (c : Callable X.prog X.w X.K X.mg X.base k (He.ma X.K C "__init__") ps [] (spExcInit X.K f)) (hr : Room (k + 1) X.A) (hm : X.mg x = some (.ref C)) (hg : Gl X x) (ha : PA X [e] ta)
    (hdb : (x == ("__debug__" : Str)) = false := by decide) (he : starEach (e :: []) X.env = (false, eval e X.env) :: starEach [] X.env := by rfl) (hpl : (backTo pos (starEach [] X.env)).any (·.1) = false := by rfl) :
    PMk X (.Call (.Name x p) [e] [] pos) (tMkE C f ta) := by
  obtain ⟨fd, ds, F, hd, hb, hk⟩ := c
  have m := pmk_oex (dvs := []) (x := x) (p := p) (pos := pos) T.ox T.ini T.ty F hr hb hd pass0 hg hm ha hdb he hpl
  intro pins s σ H Q I h
  have ha2 : PA X [e] (fun σ0 H0 K0 => ta σ0 H0 (fun vs H1 => ∃ v, vs = [v] ∧ ∀ d, H1 d = none → Q (.ref C) (some d) (upd H1 d (.xd [(f, v)]))) ∧
      ∀ vs H1, (∃ v, vs = [v] ∧ ∀ d, H1 d = none → Q (.ref C) (some d) (upd H1 d (.xd [(f, v)]))) → K0 vs H1) := ⟨fun pos0 pins0 s0 σ0 H0 K0 I0 h0 =>
    wpAny_mono (ha.run pos0 pins0 s0 σ0 H0 _ I0 h0.1) (fun us s1 hz => by
      obtain ⟨vs, H1, I1, r1, q1⟩ := hz
      exact ⟨vs, H1, I1, r1, h0.2 vs H1 q1⟩) (fun _ _ z => z)⟩
  exact pmk_oex (dvs := []) (x := x) (p := p) (pos := pos) T.ox T.ini T.ty F hr hb hd pass0 hg hm ha2 hdb he hpl pins s σ H Q I ⟨h, fun vs H1 q => mkE_of T q⟩
/-- raise X(e) -/
def tExc (C : Addr) (f : Str) (W : WX) (ta : TA) : TS := fun _ σ H => tMkE C f ta σ H fun cls d H' => W cls d σ H'
theorem ps_exc (hc : X.calm = true) (tk : Takes X W) (T : RB.ExcF X.K C f) (c : Callable X.prog X.w X.K X.mg X.base k (He.ma X.K C "__init__") ps [] (spExcInit X.K f)) (hr : Room (k + 1) X.A) (hm : X.mg x = some (.ref C)) (hg : Gl X x) (ha : PA X [e] ta)
    (hdb : (x == ("__debug__" : Str)) = false := by decide) (he : starEach (e :: []) X.env = (false, eval e X.env) :: starEach [] X.env := by rfl) (hpl : (backTo pos (starEach [] X.env)).any (·.1) = false := by rfl) :
    PS X (.Raise (some (.Call (.Name x p) [e] [] pos)) none pos2) (tExc C f W ta) := ps_raise hc tk (pmk_exc T c hr hm hg ha hdb he hpl)
/-- self.f = e in an own error's __init__, the first field -/
theorem init_rd {K : PySem.W.Frag} {D : Ends} {σ : L2.St} {H : Hp} {a C : Addr} {v : V} {to te : TE} (T : RB.ExcF K C f) (h : ∀ (Q : V → Hp → Prop), Q v H → te σ H Q) (h2 : ∀ (Q : V → Hp → Prop), Q (.ref a) H → to σ H Q) (ea : H a = some (exo a C none))
    (q : ∀ dx, H dx = none → dx ≠ a → D.nx σ (upd (upd H dx (exd dx [(f, v)])) a (exo a C (some dx)))) : tOst K f to te D σ H :=
  h _ (h2 _ ⟨a, C, rfl, T.ox, T.no, .inl ⟨ea, q⟩⟩)
end
/-! ### except X as e, several clauses -/
abbrev HdT : Type := Value × Option Nat × (Addr → Value → Option Addr → TS)
/-- the ends of a suite whose slot i goes -/
def Ends.un (D : Ends) (i : Nat) : Ends := { nx := fun σ' H' => D.nx (σ'.set i none) H', rt := D.rt, bk := fun σ' H' => D.bk (σ'.set i none) H', ct := fun σ' H' => D.ct (σ'.set i none) H' }
def wAny (K : PySem.W.Frag) (Wout : WX) (D : Ends) : List HdT → WX
  | [] => Wout
  | (c, none, ts) :: r => fun cls d σ H => ∃ b, PySem.W.exmOne K cls c = some b ∧ (b = true → ∀ a, H a = none → ts a cls d D σ H) ∧ (b = false → wAny K Wout D r cls d σ H)
  | (c, some i, ts) :: r => fun cls d σ H => ∃ b, PySem.W.exmOne K cls c = some b ∧ (b = true → ∀ a, H a = none → ts a cls d (Ends.un D i) (σ.set i (some (.ref a))) H) ∧ (b = false → wAny K Wout D r cls d σ H)
inductive HdA (X : Cx) : List ExceptHandler → List HdT → Prop
  | nil : HdA X [] []
  | plain {x : Str} {c : Value} {ts : Addr → Value → Option Addr → TS} {b : Stmt} {bs : List Stmt} {np pe : Pos} {hds : List ExceptHandler} {l : List HdT} (hc : Names X x c)
      (su : ∀ (a : Addr) (oe : Obj) (cls : Value) (d : Option Addr) (pn : List (Addr × Obj)), Zc cls d oe → (∃ vs, oe.data = .fields vs) → PSs (X.suite a ((a, oe) :: pn)) (b :: bs) (ts a cls d)) (r : HdA X hds l) :
      HdA X (.ExceptHandler (some (.Name x np)) none (b :: bs) pe :: hds) ((c, none, ts) :: l)
  | named {x n : Str} {c : Value} {i : Nat} {ts : Addr → Value → Option Addr → TS} {b : Stmt} {bs : List Stmt} {np pe : Pos} {hds : List ExceptHandler} {l : List HdT} (hN : X.N.Nodup) (hi : X.N[i]? = some n) (hl : X.env.kindOf n = some .local) (hc : Names X x c)
      (su : ∀ (a : Addr) (oe : Obj) (cls : Value) (d : Option Addr) (pn : List (Addr × Obj)), Zc cls d oe → (∃ vs, oe.data = .fields vs) → PSs (X.suite a ((a, oe) :: pn)) (b :: bs) (ts a cls d)) (r : HdA X hds l) :
      HdA X (.ExceptHandler (some (.Name x np)) (some n) (b :: bs) pe :: hds) ((c, some i, ts) :: l)
section
variable {X : Cx} {body : List Stmt} {hd0 : ExceptHandler} {hds : List ExceptHandler} {l : List HdT} {pos : Pos} {tb : WX → TS} {Wout : WX}
/-- what a caught error leaves: looked at by clause after clause -/
theorem hd_go {pins : List (Addr × Obj)} {σq : L2.St} {Hq : Hp} {B : Heap} {a : Addr} {cls : Value} {d : Option Addr} {sq : Shared} {st : Shared} {D : Ends} (ok : X.Ok) (hs : X.stack = X.env :: X.outer) (hf : X.env.frame = some X.env.locals) (tk : Takes X Wout)
    (J : Inv X pins σq Hq sq) (grd : ∀ b o, sq.heap.get? b = some o → b ∉ frs X.stack → B.get? b = some o) (up : sq.heap.UpToSlots st.heap) (free : Hq a = none) (os : st.os = sq.os) (bare : AllBare st.gens)
    (fly : PySem.HandSPX.FlyingZ B (X.env :: X.outer) a (Zc cls d) st.heap) : ∀ {hds : List ExceptHandler} {l : List HdT}, HdA X hds l → wAny X.K Wout D l cls d σq Hq → wpAny (model X.prog X.w) X.A (handleBy (.ref a) X.env hds) (SP X pins D) X.xe st := by
  have J3 : Inv X pins σq Hq st := J.landed grd fly.1 up os bare
  obtain ⟨oA, vA, eA, zA, dA⟩ := fly.there
  have out : a ∉ frs (X.env :: X.outer) := fun hm => by
    obtain ⟨_, o2, e2, nf⟩ := fly.2.2.1.mem hm
    rw [eA] at e2
    cases e2
    exact nf _ dA
  have aL : a ≠ X.env.locals := fun z => out (List.mem_filterMap.mpr ⟨X.env, List.mem_cons_self, hf.trans (congrArg some z.symm)⟩)
  have aF : a ∉ X.fs := fun hm => by
    obtain ⟨v, hv, q⟩ := List.mem_filterMap.mp hm
    exact out (List.mem_filterMap.mpr ⟨v, List.mem_cons_of_mem _ hv, q⟩)
  have S3 := J3.suite eA dA free aL aF
  have ty : PySem.W.Looks (model X.prog X.w) st.heap (typeOf (.ref a)) cls := fun A Q E s kp q => wpAny_typeOf_ref (kp _ _ eA) (by rw [zA.1]; exact q)
  have named : ∀ {x : Str} {c : Value} {np : Pos} {Q : Value → Shared → Prop} {E : Value → Shared → Prop}, Names X x c → Q c st → wpAny (model X.prog X.w) (X.A.mark (some (.ref a))) (eval (.Name x np) X.env) Q E st := fun {x c np Q E} hc q => by
    obtain ⟨g1, g2, g3 | ⟨g3, g4, g5⟩⟩ := hc
    · exact ld_glob (X := X.suite a ((a, oA) :: (X.pn ++ pins))) S3 g1 g3 q g2
    · exact ld_blt (X := X.suite a ((a, oA) :: (X.pn ++ pins))) S3 g1 g3 g4 q g5 g2
  intro hds l hk
  induction hk with
  | nil =>
    intro w
    refine wpAny_handleBy_nil ?_
    obtain ⟨k1, k2, k3, oe, vs, T, oT, ts', he, hz, hd, h1, hr⟩ := id fly
    unfold PySem.passOn
    refine wpAny_bind (wpAny_field he hd h1 ?_)
    rw [if_neg (show ¬((Value.ref T == Value.none) = true) by simp)]
    have last : wpAny (model X.prog X.w) X.A (setFlight (.ref a) X.env.frame) (fun _ s4 => wpAny (model X.prog X.w) X.A (throw (.ref a) : Sem Flow) (SP X pins D) X.xe s4) X.xe st := by
      rw [hf]
      refine PySem.HandSPX.setFlight_upZ fly fun hW held upW => wpAny_throw (tk _ _ ?_)
      exact ⟨a, B, sq, pins, σq, Hq, cls, d, rfl, J, grd, up.trans upW, .inr (.inr (by rw [hs]; exact held)), free, os, bare, w⟩
    first
      | exact wpAny_bind (wpAny_pure (wpAny_bind last))
      | exact wpAny_bind last
  | @plain x c ts b bs np pe hds2 l2 hc su r ih =>
    rintro ⟨z, hz, hyes, hno⟩
    refine wpAny_handleBy_cons (codeAny_handlers_test ?_) (by intro q; cases q)
    refine named hc ((PySem.W.exm_one (M := model X.prog X.w) J3.kIn ty hz).here ?_)
    cases z with
    | false => exact ih (hno rfl)
    | true =>
      refine codeAny_handlers_suite (PySem.HandSPX.lands_againZ fly fun h4 fl4 up4 => ?_)
      have J4 : Inv X pins σq Hq { st with heap := h4 } := J.landed grd fl4.1 (up.trans up4) os bare
      obtain ⟨o4, v4, e4, z4, d4⟩ := fl4.there
      refine wpAny_mono ((su a o4 cls d (X.pn ++ pins) z4 ⟨_, d4⟩).run [] _ _ Hq _ (J4.suite e4 d4 free aL aF) (hyes rfl a free)) (fun fl s6 hsp => ?_) (fun _ _ z => z.elim)
      cases fl with
      | ret u =>
        obtain ⟨v6, σ6, H6, S6, r6, q6⟩ := hsp
        exact ⟨v6, σ6, H6, S6.unsuite ok, r6, q6⟩
      | next =>
        obtain ⟨σ6, H6, S6, q6⟩ := hsp
        exact ⟨σ6, H6, S6.unsuite ok, q6⟩
      | brk =>
        obtain ⟨σ6, H6, S6, q6⟩ := hsp
        exact ⟨σ6, H6, S6.unsuite ok, q6⟩
      | cont =>
        obtain ⟨σ6, H6, S6, q6⟩ := hsp
        exact ⟨σ6, H6, S6.unsuite ok, q6⟩
  | @named x n c i ts b bs np pe hds2 l2 hN hi hl hc su r ih =>
    rintro ⟨z, hz, hyes, hno⟩
    refine wpAny_handleBy_cons (codeAny_handlers_test ?_) (by intro q; cases q)
    refine named hc ((PySem.W.exm_one (M := model X.prog X.w) J3.kIn ty hz).here ?_)
    cases z with
    | false => exact ih (hno rfl)
    | true =>
      refine codeAny_handlers_suite_as (PySem.HandSPX.lands_againZ fly fun h4 fl4 up4 => ?_)
      have J4 : Inv X pins σq Hq { st with heap := h4 } := J.landed grd fl4.1 (up.trans up4) os bare
      obtain ⟨o4, v4, e4, z4, d4⟩ := fl4.there
      refine store_ok (X := X.suite a ((a, o4) :: (X.pn ++ pins))) (v := .ref a) (J4.suite e4 d4 free aL aF) hN hi (.inl hl) rfl (fun s5 S5 => ?_) (.inr hl)
      refine wpAny_mono ((su a o4 cls d (X.pn ++ pins) z4 ⟨_, d4⟩).run [] s5 _ Hq _ S5 (hyes rfl a free)) (fun fl s6 hsp => ?_) (fun _ _ z => z.elim)
      have gone : ∀ {σ6 : L2.St} {H6 : Hp} {Q : Shared → Prop}, Inv (X.suite a ((a, o4) :: (X.pn ++ pins))) [] σ6 H6 s6 → (∀ s7, Inv X pins (σ6.set i none) H6 s7 → Q s7) →
          wpAny (model X.prog X.w) X.A (do bindName X.env n .none; unbindBehindTheSuite X.env n pe) (fun _ s7 => Q s7) X.xe s6 := fun {σ6 H6 Q} S6 hq => gone_ok (S6.unsuite ok) hN hi hl hq
      cases fl with
      | ret u =>
        obtain ⟨v6, σ6, H6, S6, r6, q6⟩ := hsp
        exact gone S6 fun s7 J7 => ⟨v6, _, H6, J7, r6, q6⟩
      | next =>
        obtain ⟨σ6, H6, S6, q6⟩ := hsp
        exact gone S6 fun s7 J7 => ⟨_, H6, J7, q6⟩
      | brk =>
        obtain ⟨σ6, H6, S6, q6⟩ := hsp
        exact gone S6 fun s7 J7 => ⟨_, H6, J7, q6⟩
      | cont =>
        obtain ⟨σ6, H6, S6, q6⟩ := hsp
        exact gone S6 fun s7 J7 => ⟨_, H6, J7, q6⟩
theorem ps_tryA (hs : X.stack = X.env :: X.outer) (hf : X.env.frame = some X.env.locals) (tk : Takes X Wout)
    (hb : ∀ (W : WX) (pn : List (Addr × Obj)) (xe : Value → Shared → Prop), Takes (X.tr pn xe) W → PassesOwn (model X.prog X.w) X.A X.env xe → PSs (X.tr pn xe) body (tb W))
    (hh : HdA X (hd0 :: hds) l) : PS X (.Try body (hd0 :: hds) [] [] pos) (fun D σ H => tb (wAny X.K Wout D l) D σ H) := by
  refine ⟨fun pins s σ H D I h => ?_⟩
  have ok := I.ok
  have fr : X.A.frames = some (X.env :: X.outer) := ok.frames.trans (congrArg some hs)
  refine wpAny_Try_except ?_
  have air : Takes (X.tr (X.pn ++ pins) (fun e s₁ => wpAny (model X.prog X.w) X.A (noteFrame e X.env) (fun _ s₂ => wpAny (model X.prog X.w) X.A (setFlight e none) (fun _ s₃ =>
      wpAny (model X.prog X.w) X.A (handleBy e X.env (hd0 :: hds)) (SP X pins D) X.xe s₃) X.xe s₂) X.xe s₁)) (wAny X.K Wout D l) := fun u s' xx => by
    obtain ⟨a, B, sq, pq, σq, Hq, cls, d, rfl, Jq, grd, up, sky, free, os, bare, w⟩ := xx
    have J : Inv X pins σq Hq sq := Jq.ofTry ok
    have sky2 : Sky B (X.env :: X.outer) a (Zc cls d) X.env.locals s'.heap := hs ▸ sky
    show wpAny (model X.prog X.w) X.A (noteFrame (.ref a) X.env) _ _ _
    refine Sky.land Zc.steady fr hf sky2 fun h3 fly up3 => ?_
    exact hd_go (st := { s' with heap := h3 }) ok hs hf tk J grd (up.trans up3) free os bare fly hh w
  refine wpAny_mono ((hb (wAny X.K Wout D l) (X.pn ++ pins) _ air PassesOwn.looking).run [] s σ H D (I.toTry _) h) (fun fl s1 hsp => ?_) (fun e s1 he => he)
  cases fl with
  | ret u =>
    obtain ⟨v, σ', H', J', r, q⟩ := hsp
    exact ⟨v, σ', H', J'.ofTry ok, r, q⟩
  | next =>
    obtain ⟨σ', H', J', q⟩ := hsp
    exact wpAny_execs_nil ⟨σ', H', J'.ofTry ok, q⟩
  | brk =>
    obtain ⟨σ', H', J', q⟩ := hsp
    exact ⟨σ', H', J'.ofTry ok, q⟩
  | cont =>
    obtain ⟨σ', H', J', q⟩ := hsp
    exact ⟨σ', H', J'.ofTry ok, q⟩
end
end RQ

set_option Elab.async false
set_option linter.all false
set_option maxRecDepth 100000
set_option maxHeartbeats 4000000
/-! Defs called in an except suite, whatever the context of the handled error is. -/
namespace RI
open PySem PySem.Spec PyProof.Rows L2 RC
variable {P : Program} {w : World} {K : PySem.W.Frag} {mg : Str → Option Value} {base : Heap} {f : Addr} {fd : FuncData} {k : Nat} {ps : List Str} {sp : Sp}
/-- what a def promises of a call there -/
structure HotOk (P : Program) (w : World) (K : PySem.W.Frag) (mg : Str → Option Value) (base : Heap)
    (k : Nat) (f : Addr) (fd : FuncData) (ps : List Str) (sp : Sp) : Prop where
  size : ∀ vs H Q, sp vs H Q L2.E0 → vs.length = ps.length
  go : ∀ (A : Around) (st : List Env) (s : Shared) (H : Hp) (us : List Value) (vs : List V) (Q : VK) (p : Addr × Obj),
    L2H.RoomH k A → L2H.PinOk st H s p → Env0 P w K mg base A st s H → BindsTo s fd ⟨us, []⟩ (ps.zip us) →
    Vals vs us → sp vs H Q L2.E0 → codeAny (model P w) A (.call (.ref f) ⟨us, []⟩) (CR L2.CX0 st P w H s Q L2.E0) s
def CallI (P : Program) (w : World) (K : PySem.W.Frag) (mg : Str → Option Value) (base : Heap)
    (k : Nat) (f : Addr) (ps : List Str) (sp : Sp) : Prop :=
  ∃ fd, HotOk P w K mg base k f fd ps sp ∧ Binds K fd ps [] ∧ PySem.W.keepIn K (.ref f) = true
theorem CallI.up {j : Nat} (c : CallI P w K mg base j f ps sp) (h : j ≤ k) : CallI P w K mg base k f ps sp :=
  let ⟨fd, o, r⟩ := c
  ⟨fd, ⟨o.size, fun A st s H us vs Q p hr => o.go A st s H us vs Q p (hr.mono h)⟩, r⟩
theorem stands_callI {x qual : Str} {N : List Str} {st : Stmt} (F : Stands K x qual st [] f) (S : FnScope N ps (defScope st))
    (size : ∀ vs H Q E, sp vs H Q E → vs.length = ps.length)
    (body : ∀ (cdv : Value) (A : Around) (outer : List Env) (s : Shared) (H : Hp) (vs : List V) (Q : VK) (p : Addr × Obj),
      L2H.RoomH k (A.deeper (envOfC qual (defScope st) s.heap.objs.size f cdv)) → sp vs H Q L2.E0 →
      ∃ t, PSs (L2H.cxH L2.CX0 P w K mg base N qual (defScope st) f cdv A outer s H L2.E0 p) (defBody st) t ∧
        t { nx := fun _ H' => Q .non H', rt := Q } (L2.start N vs) H)
    (bind : ∀ (kV doc pm : Value) (an : Option Addr) (cdv ct : Value) (us : List Value), us.length = ps.length →
      bindArgs (PySem.W.fnOf x qual (defArgs st) (defBody st) (defScope st) .none kV doc pm an cdv ct) ⟨us, []⟩ = pure (ps.zip us)) :
    CallI P w K mg base (k + 1) f ps sp := by
  obtain ⟨fd, D⟩ := F
  refine ⟨fd, ⟨fun vs H Q h => size _ _ _ _ h, fun A outer s H us vs Q p hr pin e0 bd rel h => ?_⟩, D.bindsN bind, D.kp⟩
  obtain ⟨oc, od, dV, kV, doc, pm, an, cdv, ct, osl, rfl, look, code, _, _⟩ := D.ex
  have n1 := size _ _ _ _ h
  have inK : K.In s.heap := e0.mod.kin.keeps fun b o e => (e0.bs b o e).1
  have nolim : s.heap.NoLimit := e0.mod.nolimit.keeps fun b o e => (e0.bs b o e).1
  have kinds : ∀ y ∈ ps.zip us, (defScope st).names.lookup y.1 = some .local ∨
      ((defScope st).names.lookup y.1 = some .cell ∧ ((cellsFrom (s.heap.objs.size + 1) (defScope st).names []).lookup y.1).isSome = true) := by
    rintro ⟨n, v⟩ hy
    rcases S.par n (List.of_mem_zip hy).1 with q | q
    · exact .inl q
    · exact .inr ⟨q, PySem.W.cellsFrom_some _ _ _ (.inl q)⟩
  refine codeAny_call_function hr.depth (inK _ _ look) rfl S.co S.gen rfl (PySem.W.codeRec_of inK code) (bd _ _ _ _ ?_)
  refine wpAny_newFunctionEnv_cells S.kind kinds fun env he s1 x => ?_
  subst he
  refine ⟨nolim.keeps x.toInCall.keep, codeAny_func ?_⟩
  obtain ⟨t, ht, hq⟩ := body cdv A outer s H vs Q p (hr.deeper _) h
  have I := L2H.inv_startH (E := L2.E0) (CX := L2.CX0) (w := w) S pin e0 n1 rel x
  refine wpAny_mono (ht.run [] s1 _ H _ I hq) (fun fl s' hs => ?_) fun e s' hs => hs
  rcases fl with _ | _ | _ | u
  · obtain ⟨σ', H', J, q⟩ := hs
    exact ⟨.non, H', J.os, J.bare, J.base, J.hok, rfl, q⟩
  · obtain ⟨_, _, _, q⟩ := hs
    exact q.elim
  · obtain ⟨_, _, _, q⟩ := hs
    exact q.elim
  · obtain ⟨v, σ', H', J, rv, q⟩ := hs
    exact ⟨v, H', J.os, J.bare, J.base, J.hok, rv, q⟩
section
variable {X : Cx} {C : Addr} {m : Str} {pos apos : Pos} {e o : Expr} {es : List Expr} {ta : TE} {t : TA} {pl2 : Sem Bool}
/-- some object is held in the suite -/
def Held0 (X : Cx) : Prop := ∃ p : Addr × Obj, p ∈ X.pn
def tMethI (C : Addr) (m : Str) (sp : Sp) (ta : TE) (t : TA) : TE := fun σ H Q => ta σ H fun x H1 =>
  ∃ a dx fs, x = .ref a ∧ H1 a = some (.ins C dx fs) ∧ fs.lookup m = none ∧ t σ H1 fun vs H2 => sp (x :: vs) H2 Q L2.E0
theorem run_I {pins : List (Addr × Obj)} {σ : L2.St} {H : Hp} {s : Shared} {Q : VK} {us : List Value} {vs : List V}
    (c : CallI X.prog X.w X.K X.mg X.base k f ps sp) (hr : L2H.RoomH k X.A) (hp : Held0 X)
    (I : Inv X pins σ H s) (r : Vals vs us) (h : sp vs H Q L2.E0) : wpAny (model X.prog X.w) X.A (call (.ref f) us) (EP X pins σ Q) X.xe s := by
  obtain ⟨fd, F, hb, hk⟩ := c
  obtain ⟨p, hp⟩ := hp
  have n1 : us.length = ps.length := r.length.symm.trans (F.size _ _ _ h)
  have b := hb s us I.kIn (by rw [List.append_nil]; exact n1)
  rw [List.append_nil] at b
  obtain ⟨q1, q2, q3, q4, q5⟩ := I.pin p (List.mem_append_left _ hp)
  have pin : L2H.PinOk X.stack H s p := ⟨q1, q2, fun z => (List.mem_cons.mp (I.stkSub p.1 z)).elim q3 q4, q5⟩
  refine wpAny_call (codeAny_mono (F.go X.A X.stack s H us vs Q p hr pin I.env0 b r h) fun z s' hz => ?_)
  rcases z with e | fl
  · exact hz.elim
  · rcases fl with _ | _ | _ | u
    · exact hz.elim
    · exact hz.elim
    · exact hz.elim
    · exact I.after hz
/-- o.m(e, ..) there -/
theorem pe_mtI (he : PE X o ta) (cl : Cls X.K C) (hm : Meth X.K C m f) (c : CallI X.prog X.w X.K X.mg X.base k f ps sp)
    (hr : L2H.RoomH k X.A) (hp : Held0 X) (ha : PA X (e :: es) t)
    (hst : starEach (e :: es) X.env = (false, eval e X.env) :: starEach es X.env := by rfl) (hpl : (backTo pos (starEach es X.env)).any (·.1) = false := by rfl)
    (ht : eval (.Call (.Attribute o m apos) (e :: es) [] pos) X.env = (do
      let ov ← eval o X.env
      standAt apos.atName
      let (f, first) ← holding [ov] (getMethod ov m pl2)
      callWith pos f first (backTo pos (starEach (e :: es) X.env)) (backToKw pos (keywordEach [] X.env))) := by rfl) :
    PE X (.Call (.Attribute o m apos) (e :: es) [] pos) (tMethI C m sp ta t) := by
  refine ⟨fun pins s σ H Q I h => ?_⟩
  refine PySem.W.methodCall_KW (pl := pl2) (thn (he.run pins s σ H _ I h) fun u s1 ⟨x, H1, I1, rx, a, dx, fs, ex, ea, nf, q⟩ => ?_) ht
  subst ex
  obtain rfl : u = Value.ref a := rx
  refine getmeth_ok I1 ea cl hm nf ?_
  refine PySem.W.callWith_K (first := [.ref a]) (h₀ := X.base) I.ok.mod.kin hm.kp (thn (ha.run pos pins s1 σ H1 _ I1 q) fun us s2 ⟨vs, H2, I2, r, q2⟩ => ⟨I2.kIn, ?_⟩) hst hpl
  exact run_I (us := .ref a :: us) (vs := .ref a :: vs) c hr hp I2 (.cons rfl r) q2
/-- o.m() there -/
theorem pe_mtI0 (he : PE X o ta) (cl : Cls X.K C) (hm : Meth X.K C m f) (c : CallI X.prog X.w X.K X.mg X.base k f ps sp)
    (hr : L2H.RoomH k X.A) (hp : Held0 X)
    (ht : eval (.Call (.Attribute o m apos) [] [] pos) X.env = (do
      let ov ← eval o X.env
      standAt apos.atName
      let (f, first) ← holding [ov] (getMethod ov m pl2)
      callWith pos f first (backTo pos (starEach [] X.env)) (backToKw pos (keywordEach [] X.env))) := by rfl) :
    PE X (.Call (.Attribute o m apos) [] [] pos) (tMethI C m sp ta tNil) := by
  refine ⟨fun pins s σ H Q I h => ?_⟩
  refine PySem.W.methodCall_KW (pl := pl2) (thn (he.run pins s σ H _ I h) fun u s1 ⟨x, H1, I1, rx, a, dx, fs, ex, ea, nf, q⟩ => ?_) ht
  subst ex
  obtain rfl : u = Value.ref a := rx
  refine getmeth_ok I1 ea cl hm nf ?_
  exact PySem.W.callWith_K0 (first := [.ref a]) I1.kIn hm.kp (run_I (us := [.ref a]) (vs := [.ref a]) c hr hp I1 (.cons rfl .nil) q)
theorem held_of {X : Cx} {a : Addr} {oe : Obj} {pn : List (Addr × Obj)} : Held0 (X.suite a ((a, oe) :: pn)) := ⟨(a, oe), List.mem_cons_self⟩
theorem room_suite {X : Cx} {a : Addr} {pn : List (Addr × Obj)} (hr : Room k X.A) : L2H.RoomH k (X.suite a pn).A := ⟨hr.dp, hr.un⟩
end
end RI

set_option Elab.async false
set_option linter.all false
set_option maxRecDepth 100000
set_option maxHeartbeats 4000000
/-! Own errors raised where nothing is handled (their context is None), and raised anew in an except suite. -/
namespace RH
open PySem PySem.Spec PyProof.Rows L2 RC
/-- as RQ.CallX; an error that leaves has no context -/
def CallN (P : Program) (w : World) (K : PySem.W.Frag) (mg : Str → Option Value) (base : Heap) (k : Nat) (f : Addr) (ps : List Str) (dvs : List V) (sp : Sp) : Prop :=
  ∃ fd ds, FnOk P w K mg base (L2N.CX P w) k f fd ps sp ∧ Vals dvs ds ∧ Binds K fd ps ds ∧ PySem.W.keepIn K (.ref f) = true
theorem cx_weak {P : Program} {w : World} {o : List Env} {H : Hp} {s : Shared} {E : XK} {u : Value} {s' : Shared} (h : L2N.CX P w o H s E u s') : L2.CX P w o H s E u s' := by
  obtain ⟨a, B, H', cls, d, e, fl, r⟩ := h
  exact ⟨a, B, H', cls, d, e, L2H.flyingZ_imp (fun _ z => L2N.Zn.zc z) fl, r⟩
section
variable {P : Program} {w : World} {K : PySem.W.Frag} {mg : Str → Option Value} {base : Heap} {x qual : Str} {dvs : List V} {f : Addr} {k : Nat} {N ps : List Str} {sp : Sp}
theorem CallN.up {j : Nat} (c : CallN P w K mg base j f ps dvs sp) (h : j ≤ k) : CallN P w K mg base k f ps dvs sp :=
  let ⟨fd, ds, F, r⟩ := c
  ⟨fd, ds, F.mono h, r⟩
theorem fn_weak {fd : FuncData} (F : FnOk P w K mg base (L2N.CX P w) k f fd ps sp) : FnOk P w K mg base (L2.CX P w) k f fd ps sp := by
  refine ⟨F.len, fun A outer s H args us vs Q E hr e0 hb r h => codeAny_mono (F.run A outer s H args us vs Q E hr e0 hb r h) fun z s' hz => ?_⟩
  cases z with
  | error e => exact cx_weak hz
  | ok fl => cases fl <;> exact hz
theorem CallN.toX (c : CallN P w K mg base k f ps dvs sp) : RQ.CallX P w K mg base k f ps dvs sp :=
  let ⟨fd, ds, F, r⟩ := c
  ⟨fd, ds, fn_weak F, r⟩
theorem stands_callN0 {st : Stmt} (F : Stands K x qual st [] f) (S : FnScope N ps (defScope st)) (len : ∀ vs H Q E, sp vs H Q E → vs.length = ps.length)
    (body : ∀ (cdv : Value) (A : Around) (outer : List Env) (s : Shared) (H : Hp) (vs : List V) (Q : VK) (E : XK), Room k (A.deeper (envOfC qual (defScope st) s.heap.objs.size f cdv)) → sp vs H Q E →
      ∃ t, PSs (cxOf (L2N.CX P w) P w K mg base N qual (defScope st) f cdv A outer s H E) (defBody st) t ∧ t { nx := fun _ H' => Q .non H', rt := Q } (start N vs) H)
    (bind : ∀ (kV doc pm : Value) (an : Option Addr) (cdv ct : Value) (us : List Value), us.length = ps.length → bindArgs (PySem.W.fnOf x qual (defArgs st) (defBody st) (defScope st) .none kV doc pm an cdv ct) ⟨us, []⟩ = pure (ps.zip us)) :
    CallN P w K mg base (k + 1) f ps [] sp := by
  obtain ⟨fd, F⟩ := F
  have ok : FnOk P w K mg base (L2N.CX P w) (k + 1) f fd ps sp := F.ok S len fun cdv A outer s H vs Q E hr h => body cdv A outer s H vs Q E hr h
  exact ⟨fd, [], ok, .nil, F.bindsN bind, F.kp⟩
end
section
variable {X : Cx} {k : Nat} {f C : Addr} {ps : List Str} {sp : Sp} {dvs : List V} {x m fl : Str} {p pos pos2 apos : Pos} {e o : Expr} {es : List Expr} {ta : TE} {t : TA} {pl : Sem Bool} {W : WX}
/-- f(e, ..), where f may raise an error without context -/
theorem pe_fnN (tk : L2N.Takes X W) (hm : X.mg x = some (.ref f)) (c : CallN X.prog X.w X.K X.mg X.base k f ps dvs sp) (hr : Room k X.A) (hg : Gl X x) (ha : PA X (e :: es) t) (hdb : (x == ("__debug__" : Str)) = false := by decide)
    (he : starEach (e :: es) X.env = (false, eval e X.env) :: starEach es X.env := by rfl) (hpl : (backTo pos (starEach es X.env)).any (·.1) = false := by rfl) : PE X (.Call (.Name x p) (e :: es) [] pos) (tCallSD sp dvs (WE W) t) := by
  obtain ⟨fd, ds, F, hd, hb, hk⟩ := c
  exact pe_callSD F hr hg hm hk hb hd (fun σ => L2N.passAt tk σ) ha hdb he hpl
theorem pe_mtN (tk : L2N.Takes X W) (cl : Cls X.K C) (hm : Meth X.K C m f) (c : CallN X.prog X.w X.K X.mg X.base k f ps dvs sp) (hr : Room k X.A) (he : PE X o ta) (ha : PA X (e :: es) t)
    (hst : starEach (e :: es) X.env = (false, eval e X.env) :: starEach es X.env := by rfl) (hpl : (backTo pos (starEach es X.env)).any (·.1) = false := by rfl)
    (ht : eval (.Call (.Attribute o m apos) (e :: es) [] pos) X.env = (do
      let ov ← eval o X.env
      standAt apos.atName
      let (f, first) ← holding [ov] (getMethod ov m pl)
      callWith pos f first (backTo pos (starEach (e :: es) X.env)) (backToKw pos (keywordEach [] X.env))) := by rfl) :
    PE X (.Call (.Attribute o m apos) (e :: es) [] pos) (RQ.tMethX C m sp dvs (WE W) ta t) := by
  obtain ⟨fd, ds, F, hd, hb, hk⟩ := c
  refine ⟨fun pins s σ H Q I h => ?_⟩
  refine PySem.W.methodCall_KW (pl := pl) (thn (he.run pins s σ H _ I h) fun u s1 ⟨z, H1, I1, rz, a, dx, fs, ez, ea, l, q⟩ => ?_) ht
  subst ez
  obtain rfl : u = Value.ref a := rz
  refine getmeth_ok I1 ea cl hm l ?_
  refine PySem.W.callWith_K (first := [.ref a]) (h₀ := X.base) I.ok.mod.kin hm.kp (thn (ha.run pos pins s1 σ H1 _ I1 q) fun us s2 ⟨ws, H2, I2, r, q2⟩ => ⟨I2.kIn, ?_⟩) hst hpl
  exact run_fnSD (us := .ref a :: us) (vs := .ref a :: ws) F hr hb hd (L2N.passAt tk σ) I2 (.cons rfl r) q2
theorem pe_mtN0 (tk : L2N.Takes X W) (cl : Cls X.K C) (hm : Meth X.K C m f) (c : CallN X.prog X.w X.K X.mg X.base k f ps dvs sp) (hr : Room k X.A) (he : PE X o ta)
    (ht : eval (.Call (.Attribute o m apos) [] [] pos) X.env = (do
      let ov ← eval o X.env
      standAt apos.atName
      let (f, first) ← holding [ov] (getMethod ov m pl)
      callWith pos f first (backTo pos (starEach [] X.env)) (backToKw pos (keywordEach [] X.env))) := by rfl) :
    PE X (.Call (.Attribute o m apos) [] [] pos) (RQ.tMethX C m sp dvs (WE W) ta tNil) := by
  obtain ⟨fd, ds, F, hd, hb, hk⟩ := c
  refine ⟨fun pins s σ H Q I h => ?_⟩
  refine PySem.W.methodCall_KW (pl := pl) (thn (he.run pins s σ H _ I h) fun u s1 ⟨z, H1, I1, rz, a, dx, fs, ez, ea, l, q⟩ => ?_) ht
  subst ez
  obtain rfl : u = Value.ref a := rz
  refine getmeth_ok I1 ea cl hm l ?_
  exact PySem.W.callWith_K0 (first := [.ref a]) I1.kIn hm.kp (run_fnSD (us := [.ref a]) (vs := [.ref a]) F hr hb hd (L2N.passAt tk σ) I1 (.cons rfl .nil) q)
theorem pe_mtX0 (tk : Takes X W) (cl : Cls X.K C) (hm : Meth X.K C m f) (c : RQ.CallX X.prog X.w X.K X.mg X.base k f ps dvs sp) (hr : Room k X.A) (he : PE X o ta)
    (ht : eval (.Call (.Attribute o m apos) [] [] pos) X.env = (do
      let ov ← eval o X.env
      standAt apos.atName
      let (f, first) ← holding [ov] (getMethod ov m pl)
      callWith pos f first (backTo pos (starEach [] X.env)) (backToKw pos (keywordEach [] X.env))) := by rfl) :
    PE X (.Call (.Attribute o m apos) [] [] pos) (RQ.tMethX C m sp dvs (WE W) ta tNil) := by
  obtain ⟨fd, ds, F, hd, hb, hk⟩ := c
  refine ⟨fun pins s σ H Q I h => ?_⟩
  refine PySem.W.methodCall_KW (pl := pl) (thn (he.run pins s σ H _ I h) fun u s1 ⟨z, H1, I1, rz, a, dx, fs, ez, ea, l, q⟩ => ?_) ht
  subst ez
  obtain rfl : u = Value.ref a := rz
  refine getmeth_ok I1 ea cl hm l ?_
  exact PySem.W.callWith_K0 (first := [.ref a]) I1.kIn hm.kp (run_fnSD (us := [.ref a]) (vs := [.ref a]) F hr hb hd (passAt tk σ) I1 (.cons rfl .nil) q)
/-- C(e) of an own error, made where nothing is handled: no context -/
theorem pmk_excN (T : RB.ExcF X.K C fl) (c : Callable X.prog X.w X.K X.mg X.base k (He.ma X.K C "__init__") ps [] (RQ.spExcInit X.K fl)) (hr : Room (k + 1) X.A) (hm : X.mg x = some (.ref C)) (hg : Gl X x) (ha : PA X [e] t)
    (hdb : (x == ("__debug__" : Str)) = false := by decide) (he : starEach (e :: []) X.env = (false, eval e X.env) :: starEach [] X.env := by rfl) (hpl : (backTo pos (starEach [] X.env)).any (·.1) = false := by rfl) :
    L2N.PMk X (.Call (.Name x p) [e] [] pos) (RQ.tMkE C fl t) := by
  obtain ⟨fd, ds, Fi, hd, hb, hk⟩ := c
  cases hd
  intro pins s0 σ0 H0 Q0 I0 h0
  have ox := T.ox
  obtain ⟨nm, qn, N, bs, bm, sn, sub, ab, col, dd, j0, j1, j2, j3, j5, jC, jB⟩ := ox.cls
  refine wpAny_Call_Name_kw (ld_glob I0 hg hm ?_ hdb)
  refine PySem.W.callWith_K (h₀ := X.base) I0.ok.mod.kin ox.kC (thn (ha.run pos pins s0 σ0 H0 _ I0 h0) fun us sA ⟨vs, HA, IA, rA, qA⟩ => ⟨IA.kIn, ?_⟩) he hpl
  show wpAny _ _ (call (.ref C) us) _ _ _
  obtain ⟨big, first⟩ := RQ.mkE_of T qA
  obtain ⟨hp, gs, dr, tks, os⟩ := sA
  generalize eN : hp.objs.size + 1 = nw
  have up : hp.objs.size ≤ nw := eN ▸ Nat.le_succ _
  have free : HA nw = none := IA.hok.fresh up
  have wish := first nw free
  have keep : ∀ b u, hp.get? b = some u → ((hp.push (PySem.W.kdv_tup us)).push (PySem.HandSPX.excO C hp.objs.size)).get? b = some u := fun b u z => Heap.get?_push_of_some _ (Heap.get?_push_of_some _ z)
  have there : ((hp.push (PySem.W.kdv_tup us)).push (PySem.HandSPX.excO C hp.objs.size)).get? nw = some (PySem.HandSPX.excO C hp.objs.size) := by rw [← eN]; heap_get
  have IB : Inv X pins σ0 (upd HA nw (exo nw C none)) ⟨(hp.push (PySem.W.kdv_tup us)).push (PySem.HandSPX.excO C hp.objs.size), gs, dr, tks, os⟩ := IA.laid keep up (exo_ok there)
  have relB : Vals (V.ref nw :: (vs ++ [])) (Value.ref nw :: us) := .cons rfl (by rw [List.append_nil]; exact rA)
  have lenB : (Value.ref nw :: us).length = ps.length := relB.length.symm.trans (Fi.len _ _ _ _ wish)
  have few : us.length ≤ sizeLine := by rw [← Paired.length rA, sizeLine_eq]; omega
  have bindB := hb _ (Value.ref nw :: us) IB.kIn (by rw [List.append_nil]; exact lenB)
  rw [List.append_nil] at bindB
  have call : wpAny (model X.prog X.w) X.A (call (.ref C) us) (L2N.MkP X pins σ0 Q0) X.xe ⟨hp, gs, dr, tks, os⟩ := by
    refine wpAny_call (PySem.HandSPX.call_own F.excBase_ValueError (fun Y => PySem.HandSPX.refsVE_contains Y bm jB) (IA.kIn _ _ jC) (PySem.W.looks_findIn IA.kIn T.ini) (fun self => PySem.W.bind_fn IA.kIn self T.ty) few ?_)
    rw [eN]
    refine codeAny_mono (Fi.run _ X.stack _ _ ⟨Value.ref nw :: us, []⟩ _ _ _ (fun _ _ _ => False) (hr.make C us []) (IB.env0.make C us []) bindB relB wish) fun z sZ hz => ?_
    cases z with
    | error er => exact pass0 pins σ0 _ _ er sZ IB hz
    | ok flw =>
      cases flw with
      | next => exact hz.elim
      | brk => exact hz.elim
      | cont => exact hz.elim
      | ret u =>
        obtain ⟨v, HB, osB, bareB, unB, hokB, rv, ev, d, fs, ea, ed, hd1, qB⟩ := hz
        subst ev
        obtain ⟨hB, gB, dB, tB, osZ⟩ := sZ
        obtain ⟨t0, G, J, kG, ge, hoe, na⟩ := mk_end0 (d2 := dB) (t2 := tB) IA up keep unB hokB osB bareB ea ed hd1
        exact ⟨rv, nw, _, _, ⟨G, gB, dB, tB, osZ⟩, _, .ref C, some d, rfl, J, kG, ge, hoe, ⟨rfl, rfl, fun ws hw => by cases hw; rfl⟩, rfl, rfl, na, rfl, bareB, raises_own ox.exC ox.tyC, qB⟩
  exact call
theorem ps_excN (hc : X.calm = true) (tk : L2N.Takes X W) (T : RB.ExcF X.K C fl) (c : Callable X.prog X.w X.K X.mg X.base k (He.ma X.K C "__init__") ps [] (RQ.spExcInit X.K fl)) (hr : Room (k + 1) X.A) (hm : X.mg x = some (.ref C)) (hg : Gl X x) (ha : PA X [e] t)
    (hdb : (x == ("__debug__" : Str)) = false := by decide) (he : starEach (e :: []) X.env = (false, eval e X.env) :: starEach [] X.env := by rfl) (hpl : (backTo pos (starEach [] X.env)).any (·.1) = false := by rfl) :
    PS X (.Raise (some (.Call (.Name x p) [e] [] pos)) none pos2) (RQ.tExc C fl W t) := L2N.ps_raise hc tk (pmk_excN T c hr hm hg ha hdb he hpl)
end
section
variable {P : Program} {w : World} {K : PySem.W.Frag} {mg : Str → Option Value} {base : Heap} {nm qual : Str} {f : Addr} {k : Nat} {N ps : List Str} {sp : Sp}
/-- an error's __init__, called while another error is handled -/
def InitH (P : Program) (w : World) (K : PySem.W.Frag) (mg : Str → Option Value) (base : Heap) (k : Nat) (f : Addr) (ps : List Str) (sp : Sp) : Prop :=
  ∃ fd, L2H.FnH P w K mg base CX0 k f fd ps sp ∧ Binds K fd ps [] ∧ PySem.W.keepIn K (.ref f) = true
theorem stands_initH {st : Stmt} (F : Stands K nm qual st [] f) (S : FnScope N ps (defScope st)) (size : ∀ vs H Q E, sp vs H Q E → vs.length = ps.length)
    (body : ∀ (cdv : Value) (A : Around) (outer : List Env) (s : Shared) (H : Hp) (vs : List V) (Q : VK) (E : XK) (p : Addr × Obj), L2H.RoomH k (A.deeper (envOfC qual (defScope st) s.heap.objs.size f cdv)) → sp vs H Q E →
      ∃ t, PSs (L2H.cxH CX0 P w K mg base N qual (defScope st) f cdv A outer s H E p) (defBody st) t ∧ t { nx := fun _ H' => Q .non H', rt := Q } (L2.start N vs) H)
    (bind : ∀ (kV doc pm : Value) (an : Option Addr) (cdv ct : Value) (us : List Value), us.length = ps.length → bindArgs (PySem.W.fnOf nm qual (defArgs st) (defBody st) (defScope st) .none kV doc pm an cdv ct) ⟨us, []⟩ = pure (ps.zip us)) :
    InitH P w K mg base (k + 1) f ps sp := by
  obtain ⟨fd, D⟩ := F
  obtain ⟨oc, od, dV, kV, doc, pm, an, cdv, ct, osl, rfl, look, code, _, _⟩ := D.ex
  exact ⟨_, L2H.fn_ofH look code S size fun A outer s H vs Q E p _ hr h => body cdv A outer s H vs Q E p hr h, D.bindsN bind, D.kp⟩
end
section
variable {X : Cx} {k : Nat} {C : Addr} {ps : List Str} {x fl : Str} {p pos pos2 : Pos} {e : Expr} {t : TA} {W : WX}
theorem pmk_excH (T : RB.ExcF X.K C fl) (c : InitH X.prog X.w X.K X.mg X.base k (He.ma X.K C "__init__") ps (RQ.spExcInit X.K fl)) (hr : L2H.RoomH (k + 1) X.A) (hot : L2H.HotC X) (hm : X.mg x = some (.ref C)) (hg : Gl X x) (ha : PA X [e] t)
    (hdb : (x == ("__debug__" : Str)) = false := by decide) (he : starEach (e :: []) X.env = (false, eval e X.env) :: starEach [] X.env := by rfl) (hpl : (backTo pos (starEach [] X.env)).any (·.1) = false := by rfl) :
    L2N.PMk X (.Call (.Name x p) [e] [] pos) (RQ.tMkE C fl t) := by
  obtain ⟨fd, Fi, hb, hk⟩ := c
  intro pins s σ H Q I h
  have both : PA X [e] (fun σ0 H0 K0 => t σ0 H0 (fun vs H1 => ∃ v, vs = [v] ∧ ∀ d, H1 d = none → Q (.ref C) (some d) (upd H1 d (.xd [(fl, v)]))) ∧
      ∀ vs H1, (∃ v, vs = [v] ∧ ∀ d, H1 d = none → Q (.ref C) (some d) (upd H1 d (.xd [(fl, v)]))) → K0 vs H1) := ⟨fun pos0 pins0 s0 σ0 H0 K0 I0 h0 =>
    wpAny_mono (ha.run pos0 pins0 s0 σ0 H0 _ I0 h0.1) (fun us s1 ⟨vs, H1, I1, r1, q1⟩ => ⟨vs, H1, I1, r1, h0.2 vs H1 q1⟩) (fun _ _ z => z)⟩
  exact (L2H.pmk5_oexH (x := x) (p := p) (pos := pos) T.ox T.ini T.ty Fi hr hot hb pass0 hg hm both hdb he hpl).pmk pins s σ H Q I ⟨h, fun vs H1 q => RQ.mkE_of T q⟩
/-- raise C(e) in an except suite -/
theorem ps_excH (hot : L2H.HotC X) (tk : L2.Takes X W) (T : RB.ExcF X.K C fl) (c : InitH X.prog X.w X.K X.mg X.base k (He.ma X.K C "__init__") ps (RQ.spExcInit X.K fl)) (hr : L2H.RoomH (k + 1) X.A) (hm : X.mg x = some (.ref C)) (hg : Gl X x) (ha : PA X [e] t)
    (hdb : (x == ("__debug__" : Str)) = false := by decide) (he : starEach (e :: []) X.env = (false, eval e X.env) :: starEach [] X.env := by rfl) (hpl : (backTo pos (starEach [] X.env)).any (·.1) = false := by rfl) :
    PS X (.Raise (some (.Call (.Name x p) [e] [] pos)) none pos2) (RQ.tExc C fl W t) := L2H.ps_raiseH hot tk (pmk_excH T c hr hot hm hg ha hdb he hpl)
end
end RH

set_option Elab.async false
set_option linter.all false
set_option maxRecDepth 100000
set_option maxHeartbeats 4000000
/-! None as a key: d.get(x, z) where x may be None. -/
namespace RZN
open PySem PySem.Spec PyProof.Rows L2 RC
section
variable {X : Cx} {pins : List (Addr × Obj)} {σ : L2.St} {H : Hp} {s : Shared} {a : Addr} {kvs : List (Key × V)} {A : Around} {E : Value → Shared → Prop} {r : Value}
theorem none_get2 {Q : Value → Shared → Prop} (I : Inv X pins σ H s) (e : Rd H a (.dK kvs)) (h : ∀ s', Inv X pins σ H s' → Q r s') :
    wpAny (model X.prog X.w) A (call (.builtin "dict.get") [.ref a, .none, r]) Q E s := by
  obtain ⟨_, hd, vs, rel, dd⟩ := dk_rd I.hok e
  obtain ⟨g, mp, g0⟩ := none_map dd
  refine call_meetsIn PySem.F.slot_dict_get dd.typeIs PySem.F.entry_dict_get (PySem.F.args_dict_get_3 _ _ _) (meets_dict_get_default (noneKind X.prog X.w) a (show (noneKind X.prog X.w).is none .none = true from rfl) hd r) ⟨g, mp, ?_⟩
  rw [g0]
  exact h _ (I.tok _)
end
def tDGetN2 (td ty tx : TE) : TE := fun σ H Q => td σ H fun x H1 => ∃ a, x = .ref a ∧ IsD H1 a ∧ ty σ H1 fun y H2 => tx σ H2 fun z H3 => (∃ o, DGet H3 a y o ∧ Q (o.getD z) H3) ∨ ∃ kvs, y = .non ∧ Rd H3 a (.dK kvs) ∧ Q z H3
section
variable {X : Cx} {o e f : Expr} {td ty tx : TE} {apos cpos : Pos}
theorem pe_dgetN2 (hu : X.A.units + 1 < cLine) (ho : PE X o td) (he : PE X e ty) (hf : PE X f tx) (m : M2 X o "get" apos e f cpos) : PE X (.Call (.Attribute o "get" apos) [e, f] [] cpos) (tDGetN2 td ty tx) := by
  refine ⟨fun pins s σ H Q I h => ?_⟩
  refine wpAny_Call_method m.base m.few m.line PySem.F.plainAttrs_dict PySem.F.slot_dict_get PySem.F.type_dict_get (thn (ho.run pins s σ H _ I h) fun du sA ⟨x, HA, IA, rx, a, ex, isd, qA⟩ => ?_)
  subst ex
  obtain rfl : du = Value.ref a := rx
  obtain ⟨k1, k2, _⟩ := isD_at IA isd
  refine ⟨k1, k2, ?_⟩
  rw [m.trees]
  refine Calls.callWith_builtin rfl (Calls.evalArgs_plain (Calls.spliced_cons (thn (he.run pins sA σ HA _ IA qA) fun ku sB ⟨y, HB, IB, ry, qB⟩ =>
    Calls.spliced_cons (thn (hf.run pins sB σ HB _ IB qB) fun zu sC ⟨z, HC, IC, rz, qC⟩ => Calls.spliced_nil ?_))))
  rcases qC with ⟨ov, g, q⟩ | ⟨kvs, ey, g, q⟩
  · exact d_get2 hu IC g ry rz fun w' sD ID rw' => ⟨_, HC, ID, rw', q⟩
  · subst ey
    obtain rfl : ku = Value.none := ry
    exact none_get2 IC g fun sD ID => ⟨z, HC, ID, rz, q⟩
end
end RZN

set_option Elab.async false
set_option linter.all false
set_option maxRecDepth 100000
set_option maxHeartbeats 4000000
/-! Formats with dollars, over lists of signs. -/
namespace RP
abbrev S := List Nat
def letters : S := [97,98,99,100,101,102,103,104,105,106,107,108,109,110,111,112,113,114,115,116,117,118,119,120,121,122,65,66,67,68,69,70,71,72,73,74,75,76,77,78,79,80,81,82,83,84,85,86,87,88,89,90,95]
def digits : S := [48,49,50,51,52,53,54,55,56,57]
def letB (c : Nat) : Bool := decide (c ∈ letters)
def digB (c : Nat) : Bool := decide (c ∈ digits)
def nameB (c : Nat) : Bool := letB c || digB c
/-- the length of the longest name that begins here -/
def nmLen : S → Nat
  | [] => 0
  | c :: r => if letB c then 1 + (r.takeWhile nameB).length else 0
theorem nm_cons (a : Nat) (r : S) : nmLen (a :: r) = if letB a = true then 1 + (r.takeWhile nameB).length else 0 := rfl
def contB (l : S) (k : Nat) : Bool := match l[k]? with
  | none => false
  | some c => letB c || (decide (0 < k) && digB c)
theorem tw_at {p : Nat → Bool} : ∀ (l : S) (k : Nat), k < (l.takeWhile p).length → ∃ c, l[k]? = some c ∧ p c = true
  | [], k, h => by cases h
  | a :: r, k, h => by
    rw [List.takeWhile_cons] at h
    cases e : p a with
    | false => rw [e] at h; cases h
    | true =>
      rw [e] at h
      cases k with
      | zero => exact ⟨a, rfl, e⟩
      | succ k => exact tw_at r k (Nat.lt_of_succ_lt_succ h)
theorem tw_end {p : Nat → Bool} : ∀ (l : S) (c : Nat), l[(l.takeWhile p).length]? = some c → p c = false
  | [], c, h => by cases h
  | a :: r, c, h => by
    rw [List.takeWhile_cons] at h
    cases e : p a with
    | false => rw [e] at h; cases h; exact e
    | true => rw [e] at h; exact tw_end r c h
theorem cont_lt {l : S} {k : Nat} (h : k < nmLen l) : contB l k = true := by
  cases l with
  | nil => cases h
  | cons a r =>
    rw [nm_cons] at h
    cases e : letB a with
    | false => rw [e] at h; cases h
    | true =>
      rw [e, if_pos rfl] at h
      cases k with
      | zero => show (letB a || _) = true; rw [e]; rfl
      | succ k =>
        obtain ⟨c, h1, h2⟩ := tw_at (p := nameB) r k (by omega)
        unfold contB
        rw [List.getElem?_cons_succ, h1]
        show (letB c || (decide (0 < k + 1) && digB c)) = true
        rw [decide_eq_true (Nat.succ_pos k), Bool.true_and]
        exact h2
theorem cont_end (l : S) : contB l (nmLen l) = false := by
  cases l with
  | nil => rfl
  | cons a r =>
    cases e : letB a with
    | false =>
      have z : nmLen (a :: r) = 0 := by rw [nm_cons, e]; rfl
      rw [z]
      show (letB a || (false && digB a)) = false
      rw [e]; rfl
    | true =>
      have z : nmLen (a :: r) = (r.takeWhile nameB).length + 1 := by rw [nm_cons, e, if_pos rfl, Nat.add_comm]
      rw [z]
      unfold contB
      rw [List.getElem?_cons_succ]
      cases h : r[(r.takeWhile nameB).length]? with
      | none => rfl
      | some c =>
        have q := tw_end (p := nameB) r c h
        show (letB c || (decide (0 < _ + 1) && digB c)) = false
        rw [decide_eq_true (Nat.succ_pos _), Bool.true_and]
        exact q
theorem tw_le {p : Nat → Bool} : ∀ l : S, (l.takeWhile p).length ≤ l.length
  | [] => Nat.le_refl _
  | a :: r => by
    rw [List.takeWhile_cons]
    split
    · exact Nat.succ_le_succ (tw_le r)
    · exact Nat.zero_le _
theorem nm_le (l : S) : nmLen l ≤ l.length := by
  cases l with
  | nil => exact Nat.le_refl _
  | cons a r =>
    rw [nm_cons]
    have := tw_le (p := nameB) r
    rw [List.length_cons]
    split <;> omega
/-- behind a dollar sign: the name, and how many signs the field has -/
def fieldD : S → Option (S × Nat)
  | 123 :: r => if nmLen r = 0 then none else if (r.drop (nmLen r)).head? = some 125 then some (r.take (nmLen r), nmLen r + 2) else none
  | l => if nmLen l = 0 then none else some (l.take (nmLen l), nmLen l)
abbrev Pt := Nat ⊕ S
inductive PD : S → Option (List Pt) → Prop
  | nil : PD [] (some [])
  | dd {r : S} {o : Option (List Pt)} : PD r o → PD (36 :: 36 :: r) (o.map (Sum.inl 36 :: ·))
  | fld {l n : S} {k : Nat} {o : Option (List Pt)} : l.head? ≠ some 36 → fieldD l = some (n, k) → PD (l.drop k) o → PD (36 :: l) (o.map (Sum.inr n :: ·))
  | bad {l : S} : l.head? ≠ some 36 → fieldD l = none → PD (36 :: l) none
  | ch {c : Nat} {r : S} {o : Option (List Pt)} : c ≠ 36 → PD r o → PD (c :: r) (o.map (Sum.inl c :: ·))
/-! ### how formats are written -/
def esc : S → S
  | [] => []
  | c :: r => if c = 36 then 36 :: 36 :: esc r else c :: esc r
abbrev Fm := S ⊕ S
/-- a name of letters, digits and _, the first one no digit -/
def nmOk (n : S) : Bool := match n with
  | [] => false
  | c :: r => letB c && r.all nameB
inductive Rnd : List Fm → S → Prop
  | nil : Rnd [] []
  | text {t s : S} {ps : List Fm} : Rnd ps s → Rnd (.inl t :: ps) (esc t ++ s)
  | bare {n s : S} {ps : List Fm} : nmOk n = true → (∀ c, s.head? = some c → nameB c = false) → Rnd ps s → Rnd (.inr n :: ps) (36 :: (n ++ s))
  | brace {n s : S} {ps : List Fm} : nmOk n = true → Rnd ps s → Rnd (.inr n :: ps) (36 :: 123 :: (n ++ 125 :: s))
def flat : List Fm → List Pt
  | [] => []
  | .inl t :: r => t.map Sum.inl ++ flat r
  | .inr n :: r => .inr n :: flat r
theorem nm_of {n s : S} (h : nmOk n = true) (e : ∀ c, s.head? = some c → nameB c = false) : nmLen (n ++ s) = n.length := by
  cases n with
  | nil => cases h
  | cons a r =>
    obtain ⟨h1, h2⟩ := Bool.and_eq_true_iff.mp h
    show (if letB a then 1 + ((r ++ s).takeWhile nameB).length else 0) = r.length + 1
    rw [if_pos h1]
    have z : ((r ++ s).takeWhile nameB).length = r.length := by
      clear h h1
      induction r with
      | nil =>
        cases s with
        | nil => rfl
        | cons c s => show (List.takeWhile nameB (c :: s)).length = 0; rw [List.takeWhile_cons, e c rfl]; rfl
      | cons b r ih =>
        obtain ⟨h3, h4⟩ := Bool.and_eq_true_iff.mp (show (nameB b && r.all nameB) = true from h2)
        show (List.takeWhile nameB (b :: (r ++ s))).length = r.length + 1
        rw [List.takeWhile_cons, h3]
        exact congrArg Nat.succ (ih h4)
    rw [z, Nat.add_comm]
theorem nm_of_tw {n s : S} (h : nmOk n = true) : nmLen (n ++ s) = n.length + (s.takeWhile nameB).length := by
  cases n with
  | nil => cases h
  | cons a r =>
    obtain ⟨h1, h2⟩ := Bool.and_eq_true_iff.mp h
    show (if letB a then 1 + ((r ++ s).takeWhile nameB).length else 0) = r.length + 1 + _
    rw [if_pos h1]
    have z : ((r ++ s).takeWhile nameB).length = r.length + (s.takeWhile nameB).length := by
      clear h h1
      induction r with
      | nil => exact (Nat.zero_add _).symm
      | cons b r ih =>
        obtain ⟨h3, h4⟩ := Bool.and_eq_true_iff.mp (show (nameB b && r.all nameB) = true from h2)
        show (List.takeWhile nameB (b :: (r ++ s))).length = r.length + 1 + _
        rw [List.takeWhile_cons, h3]
        have := ih h4
        show ((r ++ s).takeWhile nameB).length + 1 = _
        omega
    omega
theorem let_ne {c : Nat} (h : letB c = true) : c ≠ 36 ∧ c ≠ 123 := by
  constructor
  · intro z; rw [z] at h; revert h; decide
  · intro z; rw [z] at h; revert h; decide
theorem ok_head {n s : S} (h : nmOk n = true) : (∃ c r, n ++ s = c :: r ∧ letB c = true) := by
  cases n with
  | nil => cases h
  | cons a r => exact ⟨a, r ++ s, rfl, (Bool.and_eq_true_iff.mp h).1⟩
theorem field_bare {l : S} (h : l.head? ≠ some 123) : fieldD l = if nmLen l = 0 then none else some (l.take (nmLen l), nmLen l) := by
  unfold fieldD
  split
  · exact absurd rfl h
  · rfl
theorem pd_text {o : Option (List Pt)} {s : S} (h : PD s o) : ∀ t : S, PD (esc t ++ s) (o.map ((t.map Sum.inl) ++ ·))
  | [] => by
    have e : o.map (([] : List Pt) ++ ·) = o := by cases o <;> rfl
    show PD s (o.map (([] : List Pt) ++ ·))
    rw [e]; exact h
  | c :: t => by
    have ih := pd_text h t
    have e : o.map (((c :: t).map Sum.inl : List Pt) ++ ·) = (o.map ((t.map Sum.inl : List Pt) ++ ·)).map (Sum.inl c :: ·) := by cases o <;> rfl
    rw [e]
    unfold esc
    split
    · rename_i z; subst z; exact .dd ih
    · rename_i z; exact .ch z ih
theorem pd_bare {o : Option (List Pt)} {n s : S} (hn : nmOk n = true) (k : PD (s.dropWhile nameB) o) : PD (36 :: (n ++ s)) (o.map (Sum.inr (n ++ s.takeWhile nameB) :: ·)) := by
  obtain ⟨c, r, e, hc⟩ := ok_head (s := s) hn
  have l1 := nm_of_tw (s := s) hn
  have hd : (s.takeWhile nameB) ++ s.dropWhile nameB = s := List.takeWhile_append_dropWhile
  have sp : n ++ s = (n ++ s.takeWhile nameB) ++ s.dropWhile nameB := by rw [List.append_assoc, hd]
  have ln : n.length + (s.takeWhile nameB).length = (n ++ s.takeWhile nameB).length := (List.length_append ..).symm
  have t1 : (n ++ s).take (n.length + (s.takeWhile nameB).length) = n ++ s.takeWhile nameB := by rw [ln, sp, List.take_left]
  have d1 : (n ++ s).drop (n.length + (s.takeWhile nameB).length) = s.dropWhile nameB := by rw [ln, sp, List.drop_left]
  have pos : nmLen (n ++ s) ≠ 0 := by
    rw [l1]
    cases n with
    | nil => cases hn
    | cons a n => rw [List.length_cons]; omega
  refine .fld (k := nmLen (n ++ s)) (by rw [e]; intro z; exact (let_ne hc).1 (Option.some.inj z)) ?_ (by rw [l1, d1]; exact k)
  rw [field_bare (by rw [e]; intro z; exact (let_ne hc).2 (Option.some.inj z)), if_neg pos, l1, t1]
theorem pd_brace {o : Option (List Pt)} {n s : S} (hn : nmOk n = true) (k : PD s o) : PD (36 :: 123 :: (n ++ 125 :: s)) (o.map (Sum.inr n :: ·)) := by
  have l1 := nm_of (n := n) (s := 125 :: s) hn (fun c e => by cases e; decide)
  have pos : nmLen (n ++ 125 :: s) ≠ 0 := by
    rw [l1]
    cases n with
    | nil => cases hn
    | cons a n => rw [List.length_cons]; omega
  refine .fld (k := n.length + 2) (by intro z; cases z) ?_ ?_
  · show (if nmLen (n ++ 125 :: s) = 0 then none else if ((n ++ 125 :: s).drop (nmLen (n ++ 125 :: s))).head? = some 125 then some ((n ++ 125 :: s).take (nmLen (n ++ 125 :: s)), nmLen (n ++ 125 :: s) + 2) else none) = _
    rw [if_neg pos, l1, List.drop_left, if_pos (show (125 :: s).head? = some 125 from rfl), List.take_left]
  · have e : (123 :: (n ++ 125 :: s)).drop (n.length + 2) = s := by
      show (n ++ 125 :: s).drop (n.length + 1) = s
      rw [show n ++ 125 :: s = (n ++ [125]) ++ s by simp, show n.length + 1 = (n ++ [125]).length by simp, List.drop_left]
    rw [e]; exact k
/-- what is written is read again -/
theorem rnd_pd : ∀ {ps : List Fm} {s : S}, Rnd ps s → PD s (some (flat ps))
  | _, _, .nil => .nil
  | _, _, .text (t := t) h => pd_text (rnd_pd h) t
  | _, _, .bare (n := n) (s := s) hn e h => by
    have z : s.takeWhile nameB = [] := by
      cases s with
      | nil => rfl
      | cons c s => rw [List.takeWhile_cons, e c rfl]; rfl
    have z2 : s.dropWhile nameB = s := by
      cases s with
      | nil => rfl
      | cons c s => rw [List.dropWhile_cons, e c rfl]; rfl
    have := pd_bare (o := some _) (s := s) hn (by rw [z2]; exact rnd_pd h)
    rw [z, List.append_nil] at this
    exact this
  | _, _, .brace hn h => pd_brace (o := some _) hn (rnd_pd h)
/-- what is broken behind what is written is broken -/
theorem rnd_bad {X : S} (h1 : PD X none) (h2 : PD (X.dropWhile nameB) none) : ∀ {ps : List Fm} {s : S}, Rnd ps s → PD (s ++ X) none
  | _, _, .nil => h1
  | _, _, .text (t := t) h => by rw [List.append_assoc]; exact pd_text (rnd_bad h1 h2 h) t
  | _, _, .bare (n := n) (s := s) hn e h => by
    rw [List.cons_append, List.append_assoc]
    cases s with
    | nil => exact pd_bare (o := none) hn (by rw [List.nil_append]; exact h2)
    | cons c s =>
      have z : (c :: s ++ X).dropWhile nameB = c :: s ++ X := by rw [List.cons_append, List.dropWhile_cons, e c rfl]; rfl
      exact pd_bare (o := none) hn (by rw [z]; exact rnd_bad h1 h2 h)
  | _, _, .brace (n := n) (s := s) hn h => by
    have e : (36 :: 123 :: (n ++ 125 :: s)) ++ X = 36 :: 123 :: (n ++ 125 :: (s ++ X)) := by simp
    rw [e]
    exact pd_brace (o := none) hn (rnd_bad h1 h2 h)
/-- without its first signs, as far as they are of names, it is still written -/
theorem rnd_drop : ∀ {ps : List Fm} {s : S}, Rnd ps s → ∃ qs, Rnd qs (s.dropWhile nameB)
  | _, _, .nil => ⟨[], .nil⟩
  | _, _, .bare (n := n) (s := s) hn e h => ⟨_, by
    have z : (36 :: (n ++ s)).dropWhile nameB = 36 :: (n ++ s) := by rw [List.dropWhile_cons, show nameB 36 = false from by decide]; rfl
    rw [z]; exact .bare hn e h⟩
  | _, _, .brace (n := n) (s := s) hn h => ⟨_, by
    have z : (36 :: 123 :: (n ++ 125 :: s)).dropWhile nameB = 36 :: 123 :: (n ++ 125 :: s) := by rw [List.dropWhile_cons, show nameB 36 = false from by decide]; rfl
    rw [z]; exact .brace hn h⟩
  | _, _, .text (t := t) (s := s) (ps := ps) h => by
    induction t with
    | nil => exact rnd_drop h
    | cons c t ih =>
      cases e : nameB c with
      | true =>
        have nc : c ≠ 36 := fun z => by rw [z] at e; revert e; decide
        have z : (esc (c :: t) ++ s).dropWhile nameB = (esc t ++ s).dropWhile nameB := by
          have q : esc (c :: t) = c :: esc t := by show (if c = 36 then _ else _) = _; rw [if_neg nc]
          rw [q, List.cons_append, List.dropWhile_cons, e, if_pos rfl]
        rw [z]; exact ih
      | false =>
        refine ⟨.inl (c :: t) :: ps, ?_⟩
        have z : (esc (c :: t) ++ s).dropWhile nameB = esc (c :: t) ++ s := by
          by_cases d : c = 36
          · subst d
            show (36 :: 36 :: (esc t ++ s)).dropWhile nameB = _
            rw [List.dropWhile_cons, e]; simp [esc]
          · have q : esc (c :: t) = c :: esc t := by show (if c = 36 then _ else _) = _; rw [if_neg d]
            rw [q, List.cons_append, List.dropWhile_cons, e]; rfl
        rw [z]; exact .text h
theorem drop_app {b tail : S} (h : ∀ c, tail.head? = some c → nameB c = false) : (b ++ tail).dropWhile nameB = b.dropWhile nameB ++ tail := by
  induction b with
  | nil =>
    cases tail with
    | nil => rfl
    | cons c t => show (c :: t).dropWhile nameB = _; rw [List.dropWhile_cons, h c rfl]; rfl
  | cons a b ih =>
    rw [List.cons_append, List.dropWhile_cons, List.dropWhile_cons]
    cases nameB a with
    | true => exact ih
    | false => rfl
/-- ahead, behind, something broken at the end that begins with a dollar -/
theorem bad_end {as bs : List Fm} {a b r : S} (ha : Rnd as a) (hb : Rnd bs b) (h : PD (36 :: r) none) : PD (a ++ (b ++ 36 :: r)) none := by
  have h36 : ∀ c, (36 :: r).head? = some c → nameB c = false := fun c e => by cases e; decide
  have hd : (36 :: r).dropWhile nameB = 36 :: r := by rw [List.dropWhile_cons, show nameB 36 = false from by decide]; rfl
  have h2 : PD ((36 :: r).dropWhile nameB) none := by rw [hd]; exact h
  refine rnd_bad (rnd_bad h h2 hb) ?_ ha
  rw [drop_app h36]
  obtain ⟨qs, hq⟩ := rnd_drop hb
  exact rnd_bad h h2 hq
/-- ahead, something broken that begins with a dollar, anything -/
theorem bad_mid {as : List Fm} {a r : S} (ha : Rnd as a) (h : PD (36 :: r) none) : PD (a ++ 36 :: r) none := by
  refine rnd_bad h ?_ ha
  rw [List.dropWhile_cons, show nameB 36 = false from by decide]; exact h
end RP

set_option Elab.async false
set_option linter.all false
set_option maxRecDepth 100000
set_option maxHeartbeats 4000000
/-! Formats in braces, over lists of signs. -/
namespace RO
open RP (S nmLen digB letB nameB digits letters)
def alB (c : Nat) : Bool := decide (c ∈ ([60, 62, 94] : S))
def wdB (l : S) : Bool := (decide (0 < l.length) && decide (l.length < 3)) && (decide (l.head? ≠ some 48) && l.all digB)
/-- fill, align, width as they stand -/
def cut3 : S → S × S × S
  | c :: d :: r => if alB d then ([c], [d], r) else if alB c then ([32], [c], d :: r) else ([32], [], c :: d :: r)
  | [c] => if alB c then ([32], [c], []) else ([32], [], [c])
  | [] => ([32], [], [])
def okB (f a w : S) : Bool := !(decide (f = [123]) || decide (f = [125])) && !(decide (w = []) && decide (a = [])) && (decide (w = []) || wdB w)
def specB (l : S) : Option (S × S × S) := if okB (cut3 l).1 (cut3 l).2.1 (cut3 l).2.2 then some (cut3 l) else none
/-- the conversion, and what is behind it -/
def conv (l : S) : S × S := if l.take 2 = [33, 114] ∨ l.take 2 = [33, 115] then ((l.drop 1).take 1, l.drop 2) else ([], l)
abbrev Fd := S × S × S × S × S
def fieldB (b : S) : Option Fd :=
  if nmLen b = 0 then none else
  match (conv (b.drop (nmLen b))).2 with
  | [] => some (b.take (nmLen b), (conv (b.drop (nmLen b))).1, [32], [], [])
  | c :: r => if c = 58 then (specB r).map fun q => (b.take (nmLen b), (conv (b.drop (nmLen b))).1, q) else none
abbrev Pt := Nat ⊕ Fd
inductive PB : S → Option (List Pt) → Prop
  | nil : PB [] (some [])
  | two {c : Nat} {r : S} {o : Option (List Pt)} : c = 123 ∨ c = 125 → PB r o → PB (c :: c :: r) (o.map (Sum.inl c :: ·))
  | ch {c : Nat} {r : S} {o : Option (List Pt)} : c ≠ 123 → c ≠ 125 → PB r o → PB (c :: r) (o.map (Sum.inl c :: ·))
  | close {r : S} : r.head? ≠ some 125 → PB (125 :: r) none
  | lost {r : S} : r.head? ≠ some 123 → 125 ∉ r → PB (123 :: r) none
  | bad {b r : S} : (b ++ 125 :: r).head? ≠ some 123 → 125 ∉ b → fieldB b = none → PB (123 :: (b ++ 125 :: r)) none
  | fld {b r : S} {f : Fd} {o : Option (List Pt)} : (b ++ 125 :: r).head? ≠ some 123 → 125 ∉ b → fieldB b = some f → PB r o → PB (123 :: (b ++ 125 :: r)) (o.map (Sum.inr f :: ·))
theorem split : ∀ r : S, 125 ∈ r → ∃ b t, r = b ++ 125 :: t ∧ 125 ∉ b
  | [], h => nomatch h
  | c :: r, h => by
    by_cases e : c = 125
    · subst e; exact ⟨[], r, rfl, fun h => nomatch h⟩
    · rcases List.mem_cons.mp h with h | h
      · exact absurd h.symm e
      · obtain ⟨b, t, rfl, hb⟩ := split r h
        refine ⟨c :: b, t, rfl, fun h => ?_⟩
        rcases List.mem_cons.mp h with h | h
        · exact e h.symm
        · exact hb h
theorem total : ∀ (n : Nat) (s : S), s.length ≤ n → ∃ o, PB s o
  | _, [], _ => ⟨_, .nil⟩
  | 0, _ :: _, h => absurd h (Nat.not_succ_le_zero _)
  | n + 1, c :: r, h => by
    have hr : r.length ≤ n := Nat.le_of_succ_le_succ h
    by_cases e1 : c = 123
    · subst e1
      by_cases e : r.head? = some 123
      · cases r with
        | nil => cases e
        | cons d r =>
          cases e
          obtain ⟨o, ho⟩ := total n r (Nat.le_of_succ_le hr)
          exact ⟨_, .two (.inl rfl) ho⟩
      · by_cases m : 125 ∈ r
        · obtain ⟨b, t, rfl, hb⟩ := split r m
          cases f : fieldB b with
          | none => exact ⟨_, .bad e hb f⟩
          | some f' =>
            obtain ⟨o, ho⟩ := total n t (by rw [List.length_append, List.length_cons] at hr; omega)
            exact ⟨_, .fld e hb f ho⟩
        · exact ⟨_, .lost e m⟩
    · by_cases e2 : c = 125
      · subst e2
        by_cases e : r.head? = some 125
        · cases r with
          | nil => cases e
          | cons d r =>
            cases e
            obtain ⟨o, ho⟩ := total n r (Nat.le_of_succ_le hr)
            exact ⟨_, .two (.inr rfl) ho⟩
        · exact ⟨_, .close e⟩
      · obtain ⟨o, ho⟩ := total n r hr
        exact ⟨_, .ch e1 e2 ho⟩
/-- how many braces -/
def brB (c : Nat) : Bool := decide (c = 123 ∨ c = 125)
def cnt (s : S) : Nat := s.countP brB
theorem cnt_app (a b : S) : cnt (a ++ b) = cnt a + cnt b := List.countP_append ..
theorem cnt_zero {s : S} (h : ∀ c ∈ s, c ≠ 123 ∧ c ≠ 125) : cnt s = 0 := by
  unfold cnt
  rw [List.countP_eq_zero]
  intro c hc
  obtain ⟨h1, h2⟩ := h c hc
  unfold brB
  simp [h1, h2]
theorem name_no {c : Nat} (h : nameB c = true) : c ≠ 123 ∧ c ≠ 125 := by
  constructor <;> intro z <;> rw [z] at h <;> revert h <;> decide
theorem dig_no {c : Nat} (h : digB c = true) : c ≠ 123 ∧ c ≠ 125 := by
  constructor <;> intro z <;> rw [z] at h <;> revert h <;> decide
theorem al_no {c : Nat} (h : alB c = true) : c ≠ 123 ∧ c ≠ 125 := by
  constructor <;> intro z <;> rw [z] at h <;> revert h <;> decide
theorem tw_mem {p : Nat → Bool} {c : Nat} : ∀ l : S, c ∈ l.takeWhile p → p c = true
  | [], h => nomatch h
  | a :: r, h => by
    rw [List.takeWhile_cons] at h
    cases e : p a with
    | false => rw [e] at h; cases h
    | true =>
      rw [e] at h
      rcases List.mem_cons.mp h with h | h
      · subst h; exact e
      · exact tw_mem r h
theorem nm_no : ∀ b : S, ∀ c ∈ b.take (nmLen b), c ≠ 123 ∧ c ≠ 125
  | [], _, h => nomatch h
  | a :: r, c, h => by
    rw [RP.nm_cons] at h
    split at h
    · rename_i ha
      rw [show 1 + (r.takeWhile nameB).length = (r.takeWhile nameB).length + 1 by omega, List.take_succ_cons] at h
      rcases List.mem_cons.mp h with h | h
      · subst h; exact name_no (by show (letB c || _) = true; rw [ha]; rfl)
      · refine name_no ?_
        have e : r.take (r.takeWhile nameB).length = r.takeWhile nameB := by
          have hd : r.takeWhile nameB ++ r.dropWhile nameB = r := List.takeWhile_append_dropWhile
          conv => lhs; rw [← hd]
          rw [show (List.takeWhile nameB (List.takeWhile nameB r ++ List.dropWhile nameB r)).length = (List.takeWhile nameB r).length by rw [hd], List.take_left]
        rw [e] at h
        exact tw_mem r h
    · cases h
theorem cut_two (c d : Nat) (r : S) : cut3 (c :: d :: r) = if alB d = true then ([c], [d], r) else if alB c = true then ([32], [c], d :: r) else ([32], [], c :: d :: r) := rfl
theorem cut_one (c : Nat) : cut3 [c] = if alB c = true then ([32], [c], []) else ([32], [], [c]) := rfl
theorem spec_no {l : S} {q : S × S × S} (h : specB l = some q) : ∀ c ∈ l, c ≠ 123 ∧ c ≠ 125 := by
  unfold specB at h
  split at h
  · rename_i hk
    unfold okB at hk
    rw [Bool.and_eq_true, Bool.and_eq_true] at hk
    obtain ⟨⟨h1, _⟩, h3⟩ := hk
    have wno : ∀ w : S, (decide (w = []) || wdB w) = true → ∀ c ∈ w, c ≠ 123 ∧ c ≠ 125 := fun w hw c hc => by
      rcases Bool.or_eq_true_iff.mp hw with z | z
      · rw [of_decide_eq_true z] at hc; cases hc
      · unfold wdB at z
        rw [Bool.and_eq_true] at z
        exact dig_no (List.all_eq_true.mp (Bool.and_eq_true_iff.mp z.2).2 c hc)
    have fno : ∀ c : Nat, (!(decide (([c] : S) = [123]) || decide (([c] : S) = [125]))) = true → c ≠ 123 ∧ c ≠ 125 := fun c hc => by
      constructor <;> intro z <;> rw [z] at hc <;> revert hc <;> decide
    intro c hc
    match l, h1, h3, hc with
    | [], _, _, hc => cases hc
    | [a], h1, h3, hc =>
      obtain rfl := List.mem_singleton.mp hc
      rw [cut_one] at h3
      by_cases ha : alB c = true
      · exact al_no ha
      · rw [if_neg ha] at h3
        exact wno _ h3 _ List.mem_cons_self
    | a :: d :: r, h1, h3, hc =>
      rw [cut_two] at h1 h3
      by_cases hd : alB d = true
      · rw [if_pos hd] at h1 h3
        rcases List.mem_cons.mp hc with rfl | hc
        · exact fno _ h1
        rcases List.mem_cons.mp hc with rfl | hc
        · exact al_no hd
        · exact wno _ h3 _ hc
      · rw [if_neg hd] at h1 h3
        by_cases ha : alB a = true
        · rw [if_pos ha] at h1 h3
          rcases List.mem_cons.mp hc with rfl | hc
          · exact al_no ha
          · exact wno _ h3 _ hc
        · rw [if_neg ha] at h1 h3
          exact wno _ h3 _ hc
  · cases h
theorem conv_no {l r : S} (h : (conv l).2 = r) (hr : ∀ c ∈ r, c ≠ 123 ∧ c ≠ 125) : ∀ c ∈ l, c ≠ 123 ∧ c ≠ 125 := by
  unfold conv at h
  by_cases k : l.take 2 = [33, 114] ∨ l.take 2 = [33, 115]
  · rw [if_pos k] at h
    intro c hc
    rw [← List.take_append_drop 2 l, List.mem_append] at hc
    rcases hc with hc | hc
    · rcases k with k | k
      · rw [k] at hc
        rcases List.mem_cons.mp hc with rfl | hc
        · decide
        · obtain rfl := List.mem_singleton.mp hc; decide
      · rw [k] at hc
        rcases List.mem_cons.mp hc with rfl | hc
        · decide
        · obtain rfl := List.mem_singleton.mp hc; decide
    · exact hr c (h ▸ hc)
  · rw [if_neg k] at h
    subst h; exact hr
theorem field_no {b : S} {f : Fd} (h : fieldB b = some f) : ∀ c ∈ b, c ≠ 123 ∧ c ≠ 125 := by
  unfold fieldB at h
  split at h
  · cases h
  · have tail : ∀ c ∈ b.drop (nmLen b), c ≠ 123 ∧ c ≠ 125 := by
      split at h
      · rename_i e
        exact conv_no e fun c hc => nomatch hc
      · rename_i c r e
        by_cases k : c = 58
        · rw [if_pos k] at h
          cases q : specB r with
          | none => rw [q] at h; cases h
          | some q' =>
            refine conv_no e fun x hx => ?_
            rcases List.mem_cons.mp hx with rfl | hx
            · subst k; decide
            · exact spec_no q x hx
        · rw [if_neg k] at h; cases h
    intro c hc
    rw [← List.take_append_drop (nmLen b) b, List.mem_append] at hc
    rcases hc with hc | hc
    · exact nm_no b c hc
    · exact tail c hc
/-- a right format holds an even number of braces -/
theorem even : ∀ {s : S} {o : Option (List Pt)}, PB s o → o ≠ none → cnt s % 2 = 0
  | _, _, .nil, _ => rfl
  | _, _, .two (c := c) (r := r) (o := o) hc h, k => by
    have ih := even h (fun z => k (by rw [z]; rfl))
    have e : cnt (c :: c :: r) = cnt r + 2 := by
      unfold cnt
      rw [List.countP_cons, List.countP_cons, if_pos (show brB c = true from decide_eq_true hc)]
    rw [e]; omega
  | _, _, .ch (c := c) (r := r) h1 h2 h, k => by
    have ih := even h (fun z => k (by rw [z]; rfl))
    have e : cnt (c :: r) = cnt r := by
      unfold cnt
      rw [List.countP_cons, if_neg (show ¬ brB c = true from fun z => (of_decide_eq_true z).elim h1 h2)]; rfl
    rw [e]; exact ih
  | _, _, .close _, k => absurd rfl k
  | _, _, .lost _ _, k => absurd rfl k
  | _, _, .bad _ _ _, k => absurd rfl k
  | _, _, .fld (b := b) (r := r) _ _ hf h, k => by
    have ih := even h (fun z => k (by rw [z]; rfl))
    have e : cnt (123 :: (b ++ 125 :: r)) = cnt r + 2 := by
      show cnt ([123] ++ (b ++ ([125] ++ r))) = _
      rw [cnt_app, cnt_app, cnt_app, cnt_zero (field_no hf)]
      show 1 + (0 + (1 + cnt r)) = _
      omega
    rw [e]; omega
/-- an odd number: broken -/
theorem odd_none {s : S} (h : cnt s % 2 = 1) : PB s none := by
  obtain ⟨o, ho⟩ := total s.length s (Nat.le_refl _)
  cases o with
  | none => exact ho
  | some ps => have := even ho (fun z => nomatch z); omega
/-- a piece: read as these parts whatever follows -/
def Pc (p : S) (fs : List Pt) : Prop := ∀ (X : S) (o : Option (List Pt)), PB X o → PB (p ++ X) (o.map (fs ++ ·))
theorem Pc.nil : Pc [] [] := fun X o h => by
  have e : o.map (([] : List Pt) ++ ·) = o := by cases o <;> rfl
  rw [e]; exact h
theorem Pc.app {p q : S} {fs gs : List Pt} (h : Pc p fs) (k : Pc q gs) : Pc (p ++ q) (fs ++ gs) := fun X o hX => by
  have e : o.map ((fs ++ gs) ++ ·) = (o.map (gs ++ ·)).map (fs ++ ·) := by cases o <;> simp
  rw [e, List.append_assoc]
  exact h _ _ (k _ _ hX)
theorem Pc.right {p : S} {fs : List Pt} (h : Pc p fs) : PB p (some fs) := by
  have := h [] _ .nil
  rw [List.append_nil] at this
  rw [show some fs = (some ([] : List Pt)).map (fs ++ ·) by simp]
  exact this
theorem Pc.wrong {p X : S} {fs : List Pt} (h : Pc p fs) (k : PB X none) : PB (p ++ X) none := h X none k
def escB : S → S
  | [] => []
  | c :: r => if c = 123 ∨ c = 125 then c :: c :: escB r else c :: escB r
theorem Pc.text : ∀ t : S, Pc (escB t) (t.map Sum.inl)
  | [] => Pc.nil
  | c :: t => fun X o h => by
    have ih := Pc.text t X o h
    have e : o.map ((c :: t).map Sum.inl ++ ·) = (o.map ((t.map Sum.inl : List Pt) ++ ·)).map (Sum.inl c :: ·) := by cases o <;> rfl
    rw [e]
    unfold escB
    by_cases k : c = 123 ∨ c = 125
    · rw [if_pos k]; exact .two k ih
    · rw [if_neg k]; exact .ch (fun z => k (.inl z)) (fun z => k (.inr z)) ih
theorem Pc.field {b : S} {f : Fd} (h : fieldB b = some f) : Pc (123 :: (b ++ [125])) [Sum.inr f] := fun X o hX => by
  have no := field_no h
  have e : 123 :: (b ++ [125]) ++ X = 123 :: (b ++ 125 :: X) := by simp
  rw [e]
  refine .fld (fun z => ?_) (fun z => (no _ z).2 rfl) h hX
  cases b with
  | nil => cases z
  | cons c b => exact (no c List.mem_cons_self).1 (Option.some.inj z)
theorem field_bad {b : S} (h : fieldB b = none) (h1 : 125 ∉ b) (h2 : b.head? ≠ some 123) (X : S) : PB (123 :: (b ++ 125 :: X)) none := by
  refine .bad (fun z => ?_) h1 h
  cases b with
  | nil => cases z
  | cons c b => exact h2 z
end RO

set_option Elab.async false
set_option linter.all false
set_option maxRecDepth 100000
set_option maxHeartbeats 0

namespace K17
open PySem PySem.Spec PyProof.Rows L2 RC
section
variable {P : Program} {w : World} {K : PySem.W.Frag} {mg : Str → Option Value} {base : Heap}
/-! ### messages -/
abbrev CBm (K : PySem.W.Frag) : Addr := He.ga K "BadMessage"
abbrev CBf (K : PySem.W.Frag) : Addr := He.ga K "BadField"
theorem ok_badmessage_init {f : Addr} (T : Txt P w K mg) (F : Stands K "__init__" "BadMessage.__init__" s_BadMessage_init [] f) : Callable P w K mg base 1 f ["self", "msg"] [] (RQ.spExcInit K "msg") := by
  refine F.call0 sc_BadMessage_init (fun vs H Q E h => ?_) (fun cdv A outer s H vs Q E hr h => ?_) (fun _ _ _ _ _ _ us hl => match us, hl with | [_, _], _ => rfl)
  · obtain ⟨a, C, v, rfl, _⟩ := h; rfl
  obtain ⟨a, C, v, rfl, hx, ha, hQ⟩ := h
  refine ⟨_, (pss_one (ps_ost (pv 0) (pv 1))), ?_⟩
  walk_at "in"
  exact RQ.init_rd hx (fun Q h => ⟨_, rfl, h⟩) (fun Q h => ⟨_, rfl, h⟩) ha hQ
theorem ok_badfield_init {f : Addr} (T : Txt P w K mg) (F : Stands K "__init__" "BadField.__init__" s_BadField_init [] f) : Callable P w K mg base 1 f ["self", "name"] [] (RQ.spExcInit K "name") := by
  refine F.call0 sc_BadField_init (fun vs H Q E h => ?_) (fun cdv A outer s H vs Q E hr h => ?_) (fun _ _ _ _ _ _ us hl => match us, hl with | [_, _], _ => rfl)
  · obtain ⟨a, C, v, rfl, _⟩ := h; rfl
  obtain ⟨a, C, v, rfl, hx, ha, hQ⟩ := h
  refine ⟨_, (pss_one (ps_ost (pv 0) (pv 1))), ?_⟩
  walk_at "in"
  exact RQ.init_rd hx (fun Q h => ⟨_, rfl, h⟩) (fun Q h => ⟨_, rfl, h⟩) ha hQ
theorem two_invM : ∀ {s : SS} {as : List SS} {o : Option SS}, PM s as o → ∀ {c : Nat} {r : SS}, s = c :: c :: r → (c = 123 ∨ c = 125) → ∃ o2, PM r as o2 ∧ o = o2.map (c :: ·)
  | _, _, _, .nil, _, _, e, _ => by cases e
  | _, _, _, .left, _, _, e, _ => by cases e
  | _, _, _, .two _ h, _, _, e, _ => by cases e; exact ⟨_, h, rfl⟩
  | _, _, _, .ch h1 h2 _, _, _, e, hc => by cases e; exact (hc.elim h1 h2).elim
  | _, _, _, .arg h, _, _, e, _ => by cases e
  | _, _, _, .bad _ h _, _, _, e, _ => by cases e; exact absurd rfl h
def spMsgOf (K : PySem.W.Frag) : Sp := fun vs H Q E => ∃ (z : Str) (a : Addr) (xs : List V) (o : Option SS), vs = [.str z, .ref a] ∧ H a = some (.tup xs) ∧ (∀ x ∈ xs, PArg x) ∧ z.length ≤ 2000 ∧ xs.length ≤ 100 ∧ PM z.cps.toList (xs.map argS) o ∧
  (∀ (t : SS) (H' : Hp), o = some t → Same H H' → Q (.str (tx t)) H') ∧ (∀ (d : Addr) (H1 : Hp), o = none → Same H H1 → H1 d = none → E (.ref (CBm K)) (some d) (upd H1 d (.xd [("msg", .str z)])))
theorem s_pair : Str.ofString "{}" = tx [123, 125] := by decide +kernel
/-- what holds in the loop -/
def MInv (H : Hp) (z : Str) (a p : Addr) (xs : List V) (o : Option SS) (m : Nat) (σ : L2.St) (H' : Hp) : Prop := Same H H' ∧ ∃ (i u : Nat) (ws : List Str) (o' : Option SS) (a1 b1 : Option V), m = z.length - i ∧ i ≤ z.length ∧ u ≤ xs.length ∧ ws.length ≤ i ∧ (catS ws).length ≤ i + 2000 * u ∧ H' p = some (.lst (ws.map V.str)) ∧ PM (z.cps.toList.drop i) ((xs.drop u).map argS) o' ∧ o = o'.map (catS ws ++ ·) ∧
    σ = [some (.str z), some (.ref a), some (.ref p), some (.int (i : Nat)), some (.int (u : Nat)), a1, b1]
theorem ok_message_of {f : Addr} (T : Txt P w K mg) (F : Stands K "message_of" "message_of" s_message_of [] f) (c_BadMessage_init : Callable P w K mg base 1 (He.ma K (He.ga K "BadMessage") "__init__") ["self", "msg"] [] (RQ.spExcInit K "msg")) : RH.CallN P w K mg base 4 f ["msg", "args"] [] (spMsgOf K) := by
  refine RH.stands_callN0 F sc_message_of (fun vs H Q E h => ?_) (fun cdv A outer s H vs Q E hr h => ?_) (fun _ _ _ _ _ _ us hl => match us, hl with | [_, _], _ => rfl)
  · obtain ⟨z, a, xs, o, rfl, _⟩ := h; rfl
  obtain ⟨z, a, xs, o, rfl, ha, hx, hz, hl, hP, hQ, hE⟩ := h
  refine ⟨_, (pss_cons (ps_par3 (by rfl) sc_message_of.nd (i := 2) (j := 3) (l := 4) rfl rfl rfl (by decide) (by decide) (by decide) rfl rfl rfl (pa_cons (pe_lst pa_nil) (pa_cons pe_int (pa_cons pe_int pa_nil))) (by rfl))
      (pss_cons (ps_while (passes_of rfl) (pt_cmpR op_lt (pv 3) (pe_callB call_len_str (by rfl) T.b_len (by decide +kernel) (pa_cons (pv 0) pa_nil)) (nomark _)) (pss_cons (ps_par (by rfl) sc_message_of.nd (i := 5) (j := 6) rfl rfl (by decide) rfl rfl (pa_cons (pe_ix ix_str (pv 0) (pv 3) (fun _ _ => rfl)) (pa_cons (pe_slice sl_str (pv 0) (po_some (pv 3)) (po_some (pe_op op_add (pv 3) pe_int))) pa_nil)) (by rfl))
      (pss_one (ps_if (pt_cmpR (show OpR _ (compareOp .NotIn) (rIn K true) from op_notIn_seq) (pv 5) (pe_tup (pa_cons pe_str (pa_cons pe_str pa_nil))) (by rfl)) (pss_cons (ps_expr (pe_bm PySem.F.plainAttrs_list PySem.F.slot_list_append PySem.F.type_list_append mt_append (pv 2) (pa_cons (pv 5) pa_nil)))
      (pss_one (ps_aug (i := 3) sc_message_of.nd rfl (by first | exact Or.inl rfl | exact Or.inr rfl) pe_int ip_add))) (pss_one (ps_if (pt_cmpR op_in_seq (pv 6) (pe_tup (pa_cons pe_str (pa_cons pe_str pa_nil))) (by rfl)) (pss_cons (ps_expr (pe_bm PySem.F.plainAttrs_list PySem.F.slot_list_append PySem.F.type_list_append mt_append (pv 2) (pa_cons (pv 5) pa_nil)))
      (pss_one (ps_aug (i := 3) sc_message_of.nd rfl (by first | exact Or.inl rfl | exact Or.inr rfl) pe_int ip_add))) (pss_one (ps_if (PW.pt (pw_and (pt_cmpR op_eq (pv 6) pe_str (nomark _)) (pw_and1 (pt_cmpR op_lt (pv 4) (pe_callB call_len (by rfl) T.b_len (by decide +kernel) (pa_cons (pv 1) pa_nil)) (nomark _))))) (pss_cons (ps_expr (pe_bm PySem.F.plainAttrs_list PySem.F.slot_list_append PySem.F.type_list_append mt_append (pv 2) (pa_cons (RA.PE.or (pe_callTy call_str_int (by rfl) T.b_str (by decide +kernel) (pa_cons (pe_ix ix_tup (pv 1) (pv 4) (fun _ _ => rfl)) pa_nil)) (pe_callTy SkE.call_str_str (by rfl) T.b_str (by decide +kernel) (pa_cons (pe_ix ix_tup (pv 1) (pv 4) (fun _ _ => rfl)) pa_nil))) pa_nil)))
      (pss_cons (ps_aug (i := 4) sc_message_of.nd rfl (by first | exact Or.inl rfl | exact Or.inr rfl) pe_int ip_add)
      (pss_one (ps_aug (i := 3) sc_message_of.nd rfl (by first | exact Or.inl rfl | exact Or.inr rfl) pe_int ip_add)))) (pss_one (RH.ps_excN rfl (L2N.takes_of rfl rfl rfl rfl) T.x_BadMessage c_BadMessage_init (hr.mono (by first | decide | exact Nat.le_refl _)) T.g_BadMessage (by rfl) (pa_cons (pv 0) pa_nil)))))))))))
      (pss_cons (ps_if (pt_cmpR op_lt (pv 4) (pe_callB call_len (by rfl) T.b_len (by decide +kernel) (pa_cons (pv 1) pa_nil)) (nomark _)) (pss_one (RH.ps_excN rfl (L2N.takes_of rfl rfl rfl rfl) T.x_BadMessage c_BadMessage_init (hr.mono (by first | decide | exact Nat.le_refl _)) T.g_BadMessage (by rfl) (pa_cons (pv 0) pa_nil))) pss_nil)
      (pss_one (ps_ret (pe_join pe_str (pv 2))))))), ?_⟩
  walk_at "in"
  dsimp only [cxK2]
  have hlz : z.cps.toList.length = z.length := Array.length_toList ..
  have hz2 : z.length ≤ sizeLine := by rw [sizeLine_eq]; omega
  walk_at "go"
  intro p fp
  walk_at "go"
  have npa : p ≠ a := fun e => by rw [e, ha] at fp; cases fp
  refine ⟨MInv H z a p xs o, ⟨_, same_new fp _, 0, 0, [], o, _, _, rfl, Nat.zero_le _, Nat.zero_le _, Nat.zero_le _, Nat.zero_le _, upd_same, hP, by cases o <;> rfl, rfl⟩, ?_⟩
  rintro m σ H1 ⟨s1, i, u, ws, o', a1, b1, rfl, hi, hu, hw, hcl, hp, hd, ho, rfl⟩
  have ha1 := s1 _ _ ha
  rw [s_open2, s_close2, s_open, s_close, s_pair]
  by_cases c : i < z.length
  · have t1 : decide (((i : Nat) : Int) < (z.length : Nat)) = true := decide_eq_true (by omega)
    have c2 : cutS z (some (i : Int)) (some ((i : Int) + 2)) = tx ((z.cps.toList.drop i).take 2) := cut_two hi
    obtain ⟨ch, hc⟩ : ∃ ch, z.cps.toList[i]? = some ch := ⟨_, List.getElem?_eq_getElem (by rw [hlz]; exact c)⟩
    have hat : atI z.cps.toList ((i : Nat) : Int) = some ch := atI_nat hc
    have hdr : z.cps.toList.drop i = ch :: z.cps.toList.drop (i + 1) := by
      obtain ⟨h1, h2⟩ := List.getElem?_eq_some_iff.mp hc
      rw [← h2]; exact List.drop_eq_getElem_cons h1
    generalize hr0 : z.cps.toList.drop (i + 1) = r at hdr
    have hlr : r.length = z.length - (i + 1) := by rw [← hr0, List.length_drop, hlz]
    rw [hdr] at hd c2
    have hsz : (ws.map V.str).length < sizeLine := by rw [List.length_map, sizeLine_eq]; omega
    have next : ∀ (j u2 : Nat) (e e2 : Int) (w : Str) (H2 : Hp) (o2 : Option SS) (a2 b2 : Option V), e = (j : Int) → e2 = (u2 : Int) → i < j → j ≤ z.length → u2 ≤ xs.length → (catS ws).length + w.length ≤ j + 2000 * u2 → Same H1 H2 → PM (z.cps.toList.drop j) ((xs.drop u2).map argS) o2 → o = o2.map ((catS ws ++ w.cps.toList) ++ ·) →
        ∃ m', m' < z.length - i ∧ MInv H z a p xs o m' [some (.str z), some (.ref a), some (.ref p), some (.int e), some (.int e2), a2, b2] (upd H2 p (.lst (ws.map V.str ++ [.str w]))) := fun j u2 e e2 w H2 o2 a2 b2 h1 h2 h3 h4 h5 h6 h7 h8 h9 =>
      ⟨z.length - j, by omega, fun b v hb => (by rw [upd_ne (ne_of_none hb fp)]; exact h7 _ _ (s1 _ _ hb)), j, u2, ws ++ [w], o2, a2, b2, rfl, h4, h5, by rw [List.length_append]; show ws.length + 1 ≤ j; omega, by
        have hw2 : w.cps.toList.length = w.length := Array.length_toList ..
        rw [catS_snoc, List.length_append, hw2]; exact h6, by rw [upd_same, List.map_append]; rfl, h8, by rw [catS_snoc]; exact h9, by rw [h1, h2]⟩
    walk_at "go"
    obtain ⟨N, hN⟩ : ∃ N : L2.St → Hp → Prop, N = fun σ' H' => ∃ m', m' < z.length - i ∧ MInv H z a p xs o m' σ' H' := ⟨_, rfl⟩
    refine ⟨N, fun σ' H' h => by rw [hN] at h; exact h, ?_⟩
    walk_at "go"
    intro q fq
    have s2 : Same H1 (upd H1 q (.tup [.str (tx [123]), .str (tx [125])])) := same_new fq _
    have hq : (upd H1 q (.tup [.str (tx [123]), .str (tx [125])])) q = some (.tup [.str (tx [123]), .str (tx [125])]) := upd_same
    generalize upd H1 q (.tup [.str (tx [123]), .str (tx [125])]) = H2 at s2 hq ⊢
    have hp2 := s2 _ _ hp
    have ha2 := s2 _ _ ha1
    refine ⟨q, _, rfl, .inr (SqT.of hq), rfl, rfl, _, rfl, ?_⟩
    have vG : inV (.str ⟨#[ch]⟩) [V.str (tx [123]), V.str (tx [125])] = decide ([ch] ∈ ([[123], [125]] : List (List Nat))) := inV_tx [ch] [[123], [125]]
    have mG : (ch = 123 ∨ ch = 125) → [ch] ∈ ([[123], [125]] : List (List Nat)) := fun h => by rcases h with rfl | rfl <;> decide
    generalize hg : (xs.drop u).map argS = as at hd
    have e1 : tx [ch] = ⟨#[ch]⟩ := rfl
    have l1 : (⟨#[ch]⟩ : Str).length = 1 := rfl
    cases hd with
    | @ch _ _ _ o2 h1 h2 h3 =>
      have v1 : (!inV (.str ⟨#[ch]⟩) [V.str (tx [123]), V.str (tx [125])]) = true := by
        rw [vG, decide_eq_false fun h => ?_]; rfl
        rcases List.mem_cons.mp h with h | h
        · cases h; exact h1 rfl
        · cases List.mem_singleton.mp h; exact h2 rfl
      refine iteT' v1 ?_
      walk_at "go"
      rw [hN]
      refine next (i + 1) u ((i : Int) + 1) (u : Nat) ⟨#[ch]⟩ H2 o2 _ _ (by omega) rfl (by omega) (by omega) hu (by rw [l1]; omega) s2 (by rw [hr0, hg]; exact h3) ?_
      rw [ho]; cases o2 <;> simp
    | @two _ r2 _ o2 h1 h3 =>
      have v1 : (!inV (.str ⟨#[ch]⟩) [V.str (tx [123]), V.str (tx [125])]) = false := by rw [vG, decide_eq_true (mG h1)]; rfl
      refine iteF' v1 ?_
      walk_at "go"
      intro q2 fq2
      have s3 := s2.trans (same_new fq2 (.tup [.str (tx [123, 123]), .str (tx [125, 125])]))
      have hp3 := same_new fq2 (.tup [.str (tx [123, 123]), .str (tx [125, 125])]) _ _ hp2
      have hq2 : (upd H2 q2 (.tup [.str (tx [123, 123]), .str (tx [125, 125])])) q2 = some (.tup [.str (tx [123, 123]), .str (tx [125, 125])]) := upd_same
      generalize upd H2 q2 (.tup [.str (tx [123, 123]), .str (tx [125, 125])]) = H3 at s3 hp3 hq2 ⊢
      refine ⟨q2, _, rfl, .inr (SqT.of hq2), rfl, rfl, _, rfl, ?_⟩
      have vF : inV (.str (cutS z (some (i : Int)) (some ((i : Int) + 2)))) [V.str (tx [123, 123]), V.str (tx [125, 125])] = true := by
        rw [c2]
        refine (inV_tx _ [[123, 123], [125, 125]]).trans (decide_eq_true ?_)
        rcases h1 with rfl | rfl
        · exact List.mem_cons_self
        · exact List.mem_cons_of_mem _ List.mem_cons_self
      refine iteT' vF ?_
      walk_at "go"
      rw [List.length_cons] at hlr
      rw [hN]
      refine next (i + 2) u ((i : Int) + 2) (u : Nat) ⟨#[ch]⟩ H3 o2 _ _ (by omega) rfl (by omega) (by omega) hu (by rw [l1]; omega) s3 (by rw [show i + 2 = (i + 1) + 1 by omega, ← List.drop_drop, hr0, hg]; exact h3) ?_
      rw [ho]; cases o2 <;> simp
    | @arg r2 a0 as o2 h3 =>
      have v1 : (!inV (.str ⟨#[123]⟩) [V.str (tx [123]), V.str (tx [125])]) = false := by rw [vG, decide_eq_true (mG (.inl rfl))]; rfl
      refine iteF' v1 ?_
      walk_at "go"
      intro q2 fq2
      have s3 := s2.trans (same_new fq2 (.tup [.str (tx [123, 123]), .str (tx [125, 125])]))
      have hp3 := same_new fq2 (.tup [.str (tx [123, 123]), .str (tx [125, 125])]) _ _ hp2
      have hq2 : (upd H2 q2 (.tup [.str (tx [123, 123]), .str (tx [125, 125])])) q2 = some (.tup [.str (tx [123, 123]), .str (tx [125, 125])]) := upd_same
      generalize upd H2 q2 (.tup [.str (tx [123, 123]), .str (tx [125, 125])]) = H3 at s3 hp3 hq2 ⊢
      refine ⟨q2, _, rfl, .inr (SqT.of hq2), rfl, rfl, _, rfl, ?_⟩
      have vF : inV (.str (cutS z (some (i : Int)) (some ((i : Int) + 2)))) [V.str (tx [123, 123]), V.str (tx [125, 125])] = false := by
        rw [c2]
        exact (inV_tx _ [[123, 123], [125, 125]]).trans (decide_eq_false (by show ¬ ([123, 125] : List Nat) ∈ ([[123, 123], [125, 125]] : List (List Nat)); decide))
      refine iteF' vF ?_
      have cu : u < xs.length := by
        rcases Nat.lt_or_ge u xs.length with h | h
        · exact h
        · rw [List.drop_eq_nil_of_le h] at hg; cases hg
      obtain ⟨x, hxu⟩ : ∃ x, xs[u]? = some x := ⟨_, List.getElem?_eq_getElem cu⟩
      have hd2 : xs.drop u = x :: xs.drop (u + 1) := by
        obtain ⟨h1, h2⟩ := List.getElem?_eq_some_iff.mp hxu
        rw [← h2]; exact List.drop_eq_getElem_cons h1
      rw [hd2, List.map_cons] at hg
      obtain ⟨rfl, rfl⟩ := List.cons.inj hg
      have ha3 := s3 _ _ ha1
      have t3 : decide (V.str (cutS z (some (i : Int)) (some ((i : Int) + 2))) = V.str (tx [123, 125])) = true := by rw [c2]; exact decide_eq_true rfl
      have t4 : decide (((u : Nat) : Int) < (xs.length : Nat)) = true := decide_eq_true (by omega)
      have hat2 : atI xs ((u : Nat) : Int) = some x := atI_nat hxu
      rw [List.length_cons] at hlr
      have fin : ∀ (w : Str) (a2 b2 : Option V), w.cps.toList = argS x → w.length ≤ 2000 → ∃ m', m' < z.length - i ∧ MInv H z a p xs o m' [some (.str z), some (.ref a), some (.ref p), some (.int ((i : Int) + 2)), some (.int ((u : Int) + 1)), a2, b2] (upd H3 p (.lst (ws.map V.str ++ [.str w]))) := fun w a2 b2 hw2 hw3 => by
        refine next (i + 2) (u + 1) _ _ w H3 o2 a2 b2 (by omega) (by omega) (by omega) (by omega) (by omega) (by omega) s3 (by rw [show i + 2 = (i + 1) + 1 by omega, ← List.drop_drop, hr0]; exact h3) ?_
        rw [ho, hw2]; cases o2 <;> simp
      rcases hx x (List.mem_of_getElem? hxu) with ⟨y, rfl, hy⟩ | ⟨k, rfl, hk⟩
      · walk_at "go"
        refine .inr ?_
        walk_at "go"
        rw [hN]
        exact fin y _ _ rfl hy
      · have hl2 : k.natAbs.log2 < 1920 := by
          by_cases c : k.natAbs = 0
          · rw [c]; decide
          · have := (Nat.log2_lt c).mpr hk; omega
        walk_at "go"
        refine .inl ?_
        walk_at "go"
        have hlk := RN.len_toString k
        rw [hN]
        refine fin _ _ _ rfl ?_
        have h64 : k.natAbs.log2 < 63 := by
          by_cases c : k.natAbs = 0
          · rw [c]; decide
          · exact (Nat.log2_lt c).mpr hk
        show (Str.ofString (toString k)).length ≤ 2000
        omega
    | bad h1 h2 h3 =>
      have v1 : (!inV (.str ⟨#[ch]⟩) [V.str (tx [123]), V.str (tx [125])]) = false := by rw [vG, decide_eq_true (mG h1)]; rfl
      refine iteF' v1 ?_
      walk_at "go"
      intro q2 fq2
      have s3 := s2.trans (same_new fq2 (.tup [.str (tx [123, 123]), .str (tx [125, 125])]))
      have hp3 := same_new fq2 (.tup [.str (tx [123, 123]), .str (tx [125, 125])]) _ _ hp2
      have hq2 : (upd H2 q2 (.tup [.str (tx [123, 123]), .str (tx [125, 125])])) q2 = some (.tup [.str (tx [123, 123]), .str (tx [125, 125])]) := upd_same
      generalize upd H2 q2 (.tup [.str (tx [123, 123]), .str (tx [125, 125])]) = H3 at s3 hp3 hq2 ⊢
      refine ⟨q2, _, rfl, .inr (SqT.of hq2), rfl, rfl, _, rfl, ?_⟩
      have tk : ∀ x y : Nat, (ch :: r).take 2 = [x, y] → ch = x ∧ r.head? = some y := fun x y h => by
        cases r with
        | nil => cases h
        | cons d r => cases h; exact ⟨rfl, rfl⟩
      have vF : inV (.str (cutS z (some (i : Int)) (some ((i : Int) + 2)))) [V.str (tx [123, 123]), V.str (tx [125, 125])] = false := by
        rw [c2]
        refine (inV_tx _ [[123, 123], [125, 125]]).trans (decide_eq_false fun h => ?_)
        rcases List.mem_cons.mp h with h | h
        · obtain ⟨e1, e2⟩ := tk _ _ h; rw [e1] at h2; exact h2 e2
        · obtain ⟨e1, e2⟩ := tk _ _ (List.mem_singleton.mp h); rw [e1] at h2; exact h2 e2
      refine iteF' vF ?_
      have s13 : Same H H3 := s1.trans s3
      have ha3 := s3 _ _ ha1
      have on : o = none := by rw [ho]; rfl
      by_cases e : (ch :: r).take 2 = [123, 125]
      · have t3 : decide (V.str (cutS z (some (i : Int)) (some ((i : Int) + 2))) = V.str (tx [123, 125])) = true := by rw [c2, tx_dec]; exact decide_eq_true e
        obtain ⟨e1, e2⟩ := tk _ _ e
        have ea : as = [] := by
          rcases h3 with h | h | h
          · rw [e1] at h; cases h
          · exact absurd e2 h
          · exact h
        have t4 : decide (((u : Nat) : Int) < (xs.length : Nat)) = false := decide_eq_false fun h => by
          have cu : u < xs.length := by omega
          rw [List.drop_eq_getElem_cons cu, ea] at hg
          cases hg
        walk_at "go"
        intro d fd
        exact hE d _ on s13 fd
      · have t3 : decide (V.str (cutS z (some (i : Int)) (some ((i : Int) + 2))) = V.str (tx [123, 125])) = false := by rw [c2, tx_dec]; exact decide_eq_false e
        walk_at "go"
        intro d fd
        exact hE d _ on s13 fd
  · have t1 : decide (((i : Nat) : Int) < (z.length : Nat)) = false := decide_eq_false (by omega)
    have d0 : z.cps.toList.drop i = [] := List.drop_eq_nil_of_le (by omega)
    rw [d0] at hd
    by_cases cu : u < xs.length
    · have t2 : decide (((u : Nat) : Int) < (xs.length : Nat)) = true := decide_eq_true (by omega)
      have on : o = none := by
        obtain ⟨x, r, hx⟩ : ∃ x r, xs.drop u = x :: r := ⟨_, _, List.drop_eq_getElem_cons cu⟩
        rw [hx] at hd
        cases hd; rw [ho]; rfl
      walk_at "go"
      intro d fd
      exact hE d _ on s1 fd
    · have t2 : decide (((u : Nat) : Int) < (xs.length : Nat)) = false := decide_eq_false (by omega)
      have os : o = some (catS ws) := by
        rw [List.drop_eq_nil_of_le (by omega)] at hd
        cases hd; rw [ho]; show some (catS ws ++ []) = _; rw [List.append_nil]
      walk_at "go"
      refine ⟨⟨_, rfl⟩, _, rfl, "", p, ws, rfl, rfl, .inl (SqL.of hp), ?_, ?_⟩
      · rw [catS_len]; show _ + ws.length * 0 ≤ _; omega
      · rw [join_cat]; exact hQ _ _ os s1
end
end K17

set_option Elab.async false
set_option linter.all false
set_option maxRecDepth 100000
set_option maxHeartbeats 0

namespace K17
open PySem PySem.Spec PyProof.Rows L2 RC
section
variable {P : Program} {w : World} {K : PySem.W.Frag} {mg : Str → Option Value} {base : Heap}
/-! ### what a record holds, its message -/
structure Rc where
  name : Str
  lv : Int
  ln : Str
  msg : Str
  clk : Int
  ns : List Int
structure Rc.Ok (d : Rc) : Prop where
  nm : d.name.length ≤ 2000
  l : d.lv.natAbs < 2 ^ 63
  lnl : d.ln.length ≤ 2000
  ms : d.msg.length ≤ 2000
  nsl : d.ns.length ≤ 100
  nsv : ∀ n ∈ d.ns, n.natAbs < 2 ^ 63
  ck : d.clk.natAbs < 2 ^ 63
abbrev RcAt (K : PySem.W.Frag) (H : Hp) (r : Addr) (d : Rc) : Prop := RecAt K H r d.name d.lv d.ln d.msg d.clk (d.ns.map V.int)
def MsgO (d : Rc) (o : Option SS) : Prop := (d.ns = [] ∧ o = some d.msg.cps.toList) ∨ (d.ns ≠ [] ∧ PM d.msg.cps.toList ((d.ns.map V.int).map argS) o)
theorem sh_intsT (ns : List Int) : SeqAt.shaped (.tuple (ns.map PyData.int)) = true := by
  unfold SeqAt.shaped
  simp [PyData.canLay0, PyData.depth, can_ints, dep_ints]
theorem eqv_nil (n : Int) (r : List Int) : PyData.eqv (.tuple ((n :: r).map PyData.int)) (.tuple []) = false := by
  first | rfl | simp [PyData.eqv, PyData.eqvAll] | (unfold PyData.eqv; rfl)
/-- the error of a wrong message -/
def ErrM (K : PySem.W.Frag) (H : Hp) (E : XK) (d : Rc) : Prop := ∀ (dx : Addr) (H1 : Hp), Same H H1 → H1 dx = none → E (.ref (CBm K)) (some dx) (upd H1 dx (.xd [("msg", .str d.msg)]))
def spMessage (K : PySem.W.Frag) : Sp := fun vs H Q E => ∃ (r : Addr) (d : Rc) (o : Option SS), vs = [.ref r] ∧ RcAt K H r d ∧ d.Ok ∧ MsgO d o ∧ (∀ (t : SS) (H' : Hp), o = some t → Same H H' → Q (.str (tx t)) H') ∧ (o = none → ErrM K H E d)
theorem ok_message {f : Addr} (T : Txt P w K mg) (F : Stands K "message" "LogRecord.message" s_LogRecord_message [] f) (c_message_of : RH.CallN P w K mg base 4 (He.ga K "message_of") ["msg", "args"] [] (spMsgOf K)) : RH.CallN P w K mg base 5 f ["self"] [] (spMessage K) := by
  refine RH.stands_callN0 F sc_LogRecord_message (fun vs H Q E h => ?_) (fun cdv A outer s H vs Q E hr h => ?_) (fun _ _ _ _ _ _ us hl => match us, hl with | [_], _ => rfl)
  · obtain ⟨r, d, o, rfl, _⟩ := h; rfl
  obtain ⟨r, d, o, rfl, ⟨dx, g, e, hr1, hg, he⟩, hok, hM, hQ, hE⟩ := h
  refine ⟨_, (pss_one (ps_ret (pe_ifExp (pt_cmpR (op_eqD hr.units) (pe_fld (pv 0) rfl) (pe_tup pa_nil) (nomark _)) (pe_fld (pv 0) rfl) (RH.pe_fnN (L2N.takes_of rfl rfl rfl rfl) T.g_message_of c_message_of (hr.mono (by first | decide | exact Nat.le_refl _)) (by rfl) (pa_cons (pe_fld (pv 0) rfl) (pa_cons (pe_fld (pv 0) rfl) pa_nil)))))), ?_⟩
  dsimp only [cxK2]
  walk_at "go"
  intro p fp
  have s1 := same_new fp (.tup [])
  have hg2 := s1 _ _ hg
  have hr2 := s1 _ _ hr1
  have hp2 := upd_same (H := H) (a := p) (o := .tup [])
  generalize upd H p (.tup []) = H1 at s1 hg2 hr2 hp2 ⊢
  refine ⟨_, _, Dp.tup (SqT.of hg2) (dp_ints _), Dp.tup (SqT.of hp2) .nil, sh_intsT _, by decide +kernel, ?_⟩
  rcases hM with ⟨h0, rfl⟩ | ⟨h0, hP⟩
  · rw [h0] at hg2 ⊢
    refine ⟨true, rfl, iteT ?_⟩
    walk_at "go"
    rw [← tx_of d.msg]
    exact hQ _ _ rfl s1
  · obtain ⟨n, r2, h1⟩ : ∃ n r, d.ns = n :: r := by
      cases e : d.ns with
      | nil => exact absurd e h0
      | cons n r => exact ⟨n, r, rfl⟩
    refine ⟨false, by rw [h1, eqv_nil], iteF ?_⟩
    have hx : ∀ x ∈ d.ns.map V.int, PArg x := fun x hx => by
      obtain ⟨n, hn, rfl⟩ := List.mem_map.mp hx
      exact .inr ⟨n, rfl, hok.nsv n hn⟩
    have hl : (d.ns.map V.int).length ≤ 100 := by rw [List.length_map]; exact hok.nsl
    have hms := hok.ms
    walk_at "go"
    exact ⟨fun t H' ho s2 => hQ t H' ho (s1.trans s2), fun d2 H2 ho s2 fd => hE ho d2 H2 (s1.trans s2) fd⟩
end
end K17

set_option Elab.async false
set_option linter.all false
set_option maxRecDepth 100000
set_option maxHeartbeats 0
namespace K17
open PySem PySem.Spec PyProof.Rows L2 RC
section
variable {P : Program} {w : World} {K : PySem.W.Frag} {mg : Str → Option Value} {base : Heap}
/-! ### fields of a record -/
theorem valV_none {kvs : List (Key × V)} {k : Key} (h : ∀ p ∈ kvs, p.1 ≠ k) : valV kvs k = none := by
  induction kvs with
  | nil => rfl
  | cons p r ih => rw [valV_neg (h p List.mem_cons_self)]; exact ih fun q hq => h q (List.mem_cons_of_mem _ hq)
def ownKeys : List Str := ["name", "levelno", "levelname", "msg", "args", "created", "msecs"]
def own7 (d : Rc) (g : Addr) : List (Key × V) := [(Sum.inr "name", .str d.name), (Sum.inr "levelno", .int d.lv), (Sum.inr "levelname", .str d.ln), (Sum.inr "msg", .str d.msg), (Sum.inr "args", .ref g), (Sum.inr "created", .int d.clk), (Sum.inr "msecs", .int (d.clk % 1000))]
def fval (d : Rc) (nm : Str) : Option V := ([((Sum.inr "name" : Key), V.str d.name), (Sum.inr "levelno", .int d.lv), (Sum.inr "levelname", .str d.ln), (Sum.inr "msg", .str d.msg), (Sum.inr "created", .int d.clk), (Sum.inr "msecs", .int (d.clk % 1000))].find? (fun p => decide (p.1 = Sum.inr nm))).map (·.2)
/-- what a formatter writes, or the error -/
inductive TxO
  | tx (s : SS)
  | msg
  | fld (nm : Str)
inductive FldO (d : Rc) (nm : Str) : TxO → Prop
  | msgT {t : SS} : nm = "message" → MsgO d (some t) → FldO d nm (.tx t)
  | msgE : nm = "message" → MsgO d none → FldO d nm .msg
  | val {v : V} : nm ≠ "message" → fval d nm = some v → nm ∈ (["name", "levelno", "levelname", "msg", "created", "msecs"] : List Str) → FldO d nm (.tx (argS v))
  | bad : nm ≠ "message" → nm ∉ ownKeys → FldO d nm (.fld nm)
def ErrF (K : PySem.W.Frag) (H : Hp) (E : XK) (nm : Str) : Prop := ∀ (dx : Addr) (H1 : Hp), Same H H1 → H1 dx = none → E (.ref (CBf K)) (some dx) (upd H1 dx (.xd [("name", .str nm)]))
/-- values that are told -/
def VOk (v : V) : Prop := (∃ z : Str, v = .str z ∧ z.length ≤ 1000000) ∨ ∃ i : Int, v = .int i ∧ i.natAbs < 2 ^ 63
theorem fval_own {d : Rc} {nm : Str} {v : V} (hok : d.Ok) (h : fval d nm = some v) (hm : nm ∈ (["name", "levelno", "levelname", "msg", "created", "msecs"] : List Str)) (g : Addr) : valV (own7 d g) (Sum.inr nm) = some v ∧ VOk v ∧ PlainV v := by
  have n1 := hok.nm
  have n2 := hok.lnl
  have n3 := hok.ms
  have n4 := hok.ck
  simp only [List.mem_cons, List.not_mem_nil, or_false] at hm
  rcases hm with rfl | rfl | rfl | rfl | rfl | rfl
  · have h' : some (V.str d.name) = some v := h
    cases h'; exact ⟨rfl, .inl ⟨_, rfl, by omega⟩, .str _⟩
  · have h' : some (V.int d.lv) = some v := h
    cases h'; exact ⟨rfl, .inr ⟨_, rfl, hok.l⟩, .int _⟩
  · have h' : some (V.str d.ln) = some v := h
    cases h'; exact ⟨rfl, .inl ⟨_, rfl, by omega⟩, .str _⟩
  · have h' : some (V.str d.msg) = some v := h
    cases h'; exact ⟨rfl, .inl ⟨_, rfl, by omega⟩, .str _⟩
  · have h' : some (V.int d.clk) = some v := h
    cases h'; exact ⟨rfl, .inr ⟨_, rfl, hok.ck⟩, .int _⟩
  · have h' : some (V.int (d.clk % 1000)) = some v := h
    cases h'; exact ⟨rfl, .inr ⟨_, rfl, by omega⟩, .int _⟩
theorem fval_not {d : Rc} {nm : Str} (h : nm ∉ ownKeys) (g : Addr) : valV (own7 d g) (Sum.inr nm) = none := valV_none fun p hp z => by
  have hm : p.1 ∈ (own7 d g).map (·.1) := List.mem_map_of_mem hp
  have e : (own7 d g).map (·.1) = ownKeys.map (Sum.inr : Str → Key) := rfl
  rw [e, z] at hm
  obtain ⟨k, hk, ek⟩ := List.mem_map.mp hm
  cases ek; exact h hk
/-- what is told of the value of a field -/
def ValO (K : PySem.W.Frag) (H : Hp) (Q : VK) (E : XK) (d : Rc) (o : TxO) : Prop := (∀ (v : V) (H' : Hp), o = .tx (argS v) → VOk v → Same H H' → Q v H') ∧ (o = .msg → ErrM K H E d) ∧ (∀ nm, o = .fld nm → ErrF K H E nm)
def spField (K : PySem.W.Frag) : Sp := fun vs H Q E => ∃ (r : Addr) (d : Rc) (nm : Str) (o : TxO), vs = [.ref r, .str nm] ∧ RcAt K H r d ∧ d.Ok ∧ FldO d nm o ∧ ValO K H Q E d o
theorem msgO_len {d : Rc} {t : SS} (h : MsgO d (some t)) (hok : d.Ok) : t.length ≤ 2000 + 2000 * 100 := by
  have pl : ∀ {s : SS} {as : List SS} {o : Option SS}, PM s as o → (∀ a ∈ as, a.length ≤ 2000) → ∀ t, o = some t → t.length ≤ s.length + 2000 * as.length := fun {s as o} h => by
    induction h with
    | nil => intro _ t e; cases e; exact Nat.zero_le _
    | left => intro _ t e; cases e
    | two _ _ ih =>
      intro ha t e
      obtain ⟨t2, e2, rfl⟩ := Option.map_eq_some_iff.mp e
      have := ih ha t2 e2
      simp only [List.length_cons]; omega
    | ch _ _ _ ih =>
      intro ha t e
      obtain ⟨t2, e2, rfl⟩ := Option.map_eq_some_iff.mp e
      have := ih ha t2 e2
      simp only [List.length_cons]; omega
    | arg _ ih =>
      intro ha t e
      obtain ⟨t2, e2, rfl⟩ := Option.map_eq_some_iff.mp e
      have := ih (fun a h => ha a (List.mem_cons_of_mem _ h)) t2 e2
      have := ha _ List.mem_cons_self
      simp only [List.length_cons, List.length_append]; omega
    | bad => intro _ t e; cases e
  have hl : d.msg.cps.toList.length = d.msg.length := Array.length_toList ..
  have hms := hok.ms
  rcases h with ⟨_, h⟩ | ⟨_, h⟩
  · cases h; omega
  · have := pl h (fun a ha => by
      obtain ⟨x, hx, rfl⟩ := List.mem_map.mp ha
      obtain ⟨n, hn, rfl⟩ := List.mem_map.mp hx
      have h1 := RN.len_toString n
      have h2 := hok.nsv n hn
      have h64 : n.natAbs.log2 < 63 := by
        by_cases c : n.natAbs = 0
        · rw [c]; decide
        · exact (Nat.log2_lt c).mpr h2
      show (Str.ofString (toString n)).cps.toList.length ≤ 2000
      have h3 : (Str.ofString (toString n)).cps.toList.length = (Str.ofString (toString n)).length := Array.length_toList ..
      omega) t rfl
    have := hok.nsl
    simp only [List.length_map] at *
    omega
end
end K17

set_option Elab.async false
set_option linter.all false
set_option maxRecDepth 100000
set_option maxHeartbeats 0

namespace K17
open PySem PySem.Spec PyProof.Rows L2 RC
section
variable {P : Program} {w : World} {K : PySem.W.Frag} {mg : Str → Option Value} {base : Heap}
/-! ### a plain field written -/
abbrev CFd (K : PySem.W.Frag) : Addr := He.ga K "Field"
def fdF (n c f a : Str) (w : Int) : List (Str × V) := [("name", .str n), ("conversion", .str c), ("fill", .str f), ("align", .str a), ("width", .int w)]
abbrev fdP (n : Str) : List (Str × V) := fdF n "" " " "" 0
def spSide (K : PySem.W.Frag) : Sp := fun vs H Q _ => ∃ (q dx : Addr) (n : Str) (v : V), vs = [.ref q, v] ∧ H q = some (.ins (CFd K) dx (fdP n)) ∧ ((∃ i, v = .int i ∧ Q (.str ">") H) ∨ ∃ z, v = .str z ∧ Q (.str "<") H)
theorem ok_side {f : Addr} (T : Txt P w K mg) (F : Stands K "side_of" "Field.side_of" s_Field_side_of [] f) (c_is_integer : Callable P w K mg base 1 (He.ga K "is_integer") ["thing"] [] spIsInt) : Callable P w K mg base 2 f ["self", "value"] [] (spSide K) := by
  refine F.call0 sc_Field_side_of (fun vs H Q E h => ?_) (fun cdv A outer s H vs Q E hr h => ?_) (fun _ _ _ _ _ _ us hl => match us, hl with | [_, _], _ => rfl)
  · obtain ⟨q, dx, n, v, rfl, _⟩ := h; rfl
  obtain ⟨q, dx, n, v, rfl, hq, h⟩ := h
  refine ⟨_, (pss_cons (ps_if (pt_cmpR op_ne (pe_fld (pv 0) rfl) pe_str (nomark _)) (pss_one (ps_ret (pe_fld (pv 0) rfl))) pss_nil)
      (pss_one (ps_ret (pe_ifExp (PW.pt (pw_and (pt_cmpR op_eq (pe_fld (pv 0) rfl) pe_str (nomark _)) (pw_and1 (pt_val (pe_fn T.g_is_integer c_is_integer (hr.mono (by first | decide | exact Nat.le_refl _)) (by rfl) (pa_cons (pv 1) pa_nil)))))) pe_str pe_str)))), ?_⟩
  walk_at "in"
  have t1 : (!decide (V.str (Str.ofString "") = V.str (Str.ofString ""))) = false := by rw [decide_eq_true rfl]; rfl
  have t2 : decide (V.str (Str.ofString "") = V.str (Str.ofString "")) = true := decide_eq_true rfl
  rcases h with ⟨i, rfl, hQ⟩ | ⟨z, rfl, hQ⟩
  · walk_at "go"
    refine ⟨(rfl : _ = [(LvIn.int i).v]), ?_⟩
    refine ⟨_, rfl, iteT ?_⟩
    exact hQ
  · walk_at "go"
    refine ⟨(rfl : _ = [(LvIn.nm z).v]), ?_⟩
    refine ⟨_, rfl, iteF ?_⟩
    exact hQ
/-- the text of a value -/
def valT : V → Str
  | .str z => z
  | .int i => Str.ofString (toString i)
  | _ => ""
def spWritten (K : PySem.W.Frag) : Sp := fun vs H Q _ => ∃ (q dx : Addr) (n : Str) (v : V), vs = [.ref q, v] ∧ H q = some (.ins (CFd K) dx (fdP n)) ∧ VOk v ∧ ∀ H', Same H H' → Q (.str (valT v)) H'
theorem ok_written {f : Addr} (T : Txt P w K mg) (F : Stands K "written" "Field.written" s_Field_written [] f) (c_Field_side_of : Callable P w K mg base 2 (He.ma K (He.ga K "Field") "side_of") ["self", "value"] [] (spSide K)) : Callable P w K mg base 3 f ["self", "value"] [] (spWritten K) := by
  refine F.call0 sc_Field_written (fun vs H Q E h => ?_) (fun cdv A outer s H vs Q E hr h => ?_) (fun _ _ _ _ _ _ us hl => match us, hl with | [_, _], _ => rfl)
  · obtain ⟨q, dx, n, v, rfl, _⟩ := h; rfl
  obtain ⟨q, dx, n, v, rfl, hq, hv, hQ⟩ := h
  refine ⟨_, (pss_cons (ps_set (i := 2) sc_Field_written.nd rfl (by first | exact Or.inl rfl | exact Or.inr rfl) (pe_ifExp (pt_cmpR op_eq (pe_fld (pv 0) rfl) pe_str (nomark _)) pe_never (RA.PE.or (pe_callTy call_str_int (by rfl) T.b_str (by decide +kernel) (pa_cons (pv 1) pa_nil)) (pe_callTy SkE.call_str_str (by rfl) T.b_str (by decide +kernel) (pa_cons (pv 1) pa_nil)))))
      (pss_cons (ps_set (i := 3) sc_Field_written.nd rfl (by first | exact Or.inl rfl | exact Or.inr rfl) (pe_callB (call_max2 rfl) (by rfl) T.b_max (by decide +kernel) (pa_cons pe_int (pa_cons (pe_op op_sub (pe_fld (pv 0) rfl) (pe_callB call_len_str (by rfl) T.b_len (by decide +kernel) (pa_cons (pv 2) pa_nil))) pa_nil))))
      (pss_cons (ps_set (i := 4) sc_Field_written.nd rfl (by first | exact Or.inl rfl | exact Or.inr rfl) (pe_dget (hu_of hr) (pe_disp (pps_cons pe_str pe_int (pps_cons pe_str (pv 3) (pps_cons pe_str (pe_op op_fdiv (pv 3) pe_int) pps_nil))) (by rfl) (by rfl) (fun z => by cases z) (by decide)) (pe_mt T.c_Field T.m_Field_side_of c_Field_side_of (hr.mono (by first | decide | exact Nat.le_refl _)) (pv 0) (pa_cons (pv 1) pa_nil)) (fun _ _ => rfl)))
      (pss_one (ps_ret (pe_op op_add_str (pe_op op_add_str (pe_op RD.op_mulS (pe_fld (pv 0) rfl) (pv 4)) (pv 2)) (pe_op RD.op_mulS (pe_fld (pv 0) rfl) (pe_op op_sub (pv 3) (pv 4))))))))), ?_⟩
  walk_at "in"
  have t1 : decide (V.str (Str.ofString "") = V.str (Str.ofString "r")) = false := by decide +kernel
  have tl : (valT v).length ≤ 1000000 := by
    rcases hv with ⟨z, rfl, hz⟩ | ⟨i, rfl, hi⟩
    · exact hz
    · have h1 := RN.len_toString i
      have h64 : i.natAbs.log2 < 63 := by
        by_cases c : i.natAbs = 0
        · rw [c]; decide
        · exact (Nat.log2_lt c).mpr hi
      show (Str.ofString (toString i)).length ≤ _
      omega
  refine seq_of (fun σ' H' => σ' = [some (.ref q), some v, some (.str (valT v)), none, none] ∧ H = H') (fun b' kb => ?_) (fun σ' H' hm => ?_)
  · rcases hv with ⟨z, rfl, hz⟩ | ⟨i, rfl, hi⟩
    · walk_at "go"
      refine .inr ?_
      walk_at "go"
      exact kb _ _ ⟨rfl, rfl⟩
    · have hl2 : i.natAbs.log2 < 1920 := by
        by_cases c : i.natAbs = 0
        · rw [c]; decide
        · have := (Nat.log2_lt c).mpr hi; omega
      walk_at "go"
      refine .inl ?_
      walk_at "go"
      exact kb _ _ ⟨rfl, rfl⟩
  obtain ⟨rfl, rfl⟩ := hm
  have hz2 : (valT v).length ≤ sizeLine := by rw [sizeLine_eq]; omega
  generalize valT v = z at tl hz2 hQ ⊢
  refine seq_of (fun σ' H' => σ' = [some (.ref q), some v, some (.str z), some (.int 0), none] ∧ H = H') (fun b' kb => ?_) (fun σ' H' hm => ?_)
  · walk_at "go"
    refine kb _ _ ⟨?_, rfl⟩
    have e0 : (if (0 : Int) - (z.length : Nat) > 0 then (0 : Int) - (z.length : Nat) else 0) = 0 := if_neg (by omega)
    rw [e0]; rfl
  obtain ⟨rfl, rfl⟩ := hm
  have mo : PySem.MulOk (Str.ofString " ") 0 := ⟨by decide, fun h => absurd (by decide) h, fun h => absurd (by decide) h⟩
  have mo2 : PySem.MulOk (Str.ofString " ") (0 - 0) := mo
  have cd : CDiv 0 2 := by first | exact ⟨by decide, by decide⟩ | (unfold CDiv; decide)
  have eM : Txt.mul (Str.ofString " ") 0 = Str.ofString "" := by decide +kernel
  have h0 : (Txt.mul (Str.ofString " ") 0).length = 0 := by rw [eM]; rfl
  have e1 : Txt.mul (Str.ofString " ") 0 ++ z = z := by
    rw [eM]; refine TL.ext_tl ?_; rw [TL.tl_append]; rfl
  have hL : (Txt.mul (Str.ofString " ") 0 ++ z).length + (Txt.mul (Str.ofString " ") (0 - 0)).length ≤ sizeLine := by
    rw [e1]; show z.length + (Txt.mul (Str.ofString " ") 0).length ≤ sizeLine; omega
  have e2 : Txt.mul (Str.ofString " ") 0 ++ z ++ Txt.mul (Str.ofString " ") (0 - 0) = z := by
    rw [e1]; show z ++ Txt.mul (Str.ofString " ") 0 = z
    rw [eM]; refine TL.ext_tl ?_; rw [TL.tl_append]; exact List.append_nil _
  walk_at "go"
  intro p fp
  walk_at "go"
  rcases hv with ⟨y, rfl, _⟩ | ⟨i, rfl, _⟩
  · refine .inr ⟨y, rfl, ?_⟩
    walk_at "go"
    rw [e2]
    exact hQ _ (by rw [upd_upd]; exact same_new fp _)
  · refine .inl ⟨i, rfl, ?_⟩
    walk_at "go"
    rw [e2]
    exact hQ _ (by rw [upd_upd]; exact same_new fp _)
end
end K17

set_option Elab.async false
set_option linter.all false
set_option maxRecDepth 100000
set_option maxHeartbeats 0

namespace K17
open PySem PySem.Spec PyProof.Rows L2 RC
section
variable {P : Program} {w : World} {K : PySem.W.Frag} {mg : Str → Option Value} {base : Heap}
/-! ### fields of formats in braces -/
def spFieldInit (K : PySem.W.Frag) : Sp := fun vs H Q _ => ∃ (p dx : Addr) (n c f a : Str) (w : Int), vs = [.ref p, .str n, .str c, .str f, .str a, .int w] ∧ H p = some (.ins (CFd K) dx []) ∧ Q .non (upd H p (.ins (CFd K) dx (fdF n c f a w)))
theorem field_body {f : Addr} {cdv : Value} {A : Around} {outer : List Env} {s : Shared} {H : Hp} {vs : List V} {Q : VK} {E : XK} (T : Txt P w K mg) (h : spFieldInit K vs H Q E) :
    ∃ t, PSs (cxOf CX0 P w K mg base nm_Field_init "Field.__init__" (defScope s_Field_init) f cdv A outer s H E).nox (defBody s_Field_init) t ∧ t { nx := fun _ H' => Q .non H', rt := Q } (L2.start nm_Field_init vs) H := by
  obtain ⟨p, dx, n, c, fl, al, wd, rfl, hp, hQ⟩ := h
  refine ⟨_, (pss_cons (ps_fld (pv 0) (pv 1) rfl)
      (pss_cons (ps_fld (pv 0) (pv 2) rfl)
      (pss_cons (ps_fld (pv 0) (pv 3) rfl)
      (pss_cons (ps_fld (pv 0) (pv 4) rfl)
      (pss_one (ps_fld (pv 0) (pv 5) rfl)))))), ?_⟩
  walk_at "in"
  walk_at "go"
  rw [upd_upd, upd_upd, upd_upd, upd_upd]
  exact hQ
/-- all but the first default given: Field(name, conversion) leaves three -/
theorem ok_field_init2 {f : Addr} (T : Txt P w K mg) (F : Stands K "__init__" "Field.__init__" s_Field_init [.str "", .str " ", .str "", .int 0] f) : Callable P w K mg base 1 f ["self", "name", "conversion", "fill", "align", "width"] [.str " ", .str "", .int 0] (spFieldInit K) := by
  refine F.call sc_Field_init 3 1 (fun vs H Q E h => ?_) (fun cdv A outer s H vs Q E hr h => field_body T h) (fun z => nomatch z) fun _ => ⟨rfl, fun _ _ _ _ _ _ _ us its hl hi => match us, hl, its, hi with | [_, _, _], _, [_, _, _, _], _ => ⟨_, rfl, rfl⟩⟩
  obtain ⟨p, dx, n, c, f, a, w, rfl, _⟩ := h; rfl
def spNameEnd : Sp := fun vs H Q _ => ∃ (z : Str) (i n : Nat), vs = [.str z, .int (i : Nat)] ∧ z.length ≤ 1000000 ∧ i ≤ z.length ∧ RP.nmLen (z.cps.toList.drop i) = n ∧ Q (.int ((i + n : Nat) : Int)) H
theorem ok_name_end {f : Addr} (T : Txt P w K mg) (F : Stands K "name_end" "name_end" s_name_end [] f) : Callable P w K mg base 1 f ["text", "start"] [] spNameEnd := by
  refine F.call0 sc_name_end (fun vs H Q E h => ?_) (fun cdv A outer s H vs Q E hr h => ?_) (fun _ _ _ _ _ _ us hl => match us, hl with | [_, _], _ => rfl)
  · obtain ⟨z, i, n, rfl, _⟩ := h; rfl
  obtain ⟨z, i, n, rfl, hz, hi, rfl, hQ⟩ := h
  refine ⟨_, (pss_cons (ps_set (i := 2) sc_name_end.nd rfl (by first | exact Or.inl rfl | exact Or.inr rfl) (pv 1))
      (pss_cons (ps_while PassesOwn.never (PW.pt (pw_and (pt_cmpR op_lt (pv 2) (pe_callB call_len_str (by rfl) T.b_len (by decide +kernel) (pa_cons (pv 0) pa_nil)) (nomark _)) (pw_and1 (PW.pt (pw_or (pt_cmpR op_inS (pe_ix ix_str (pv 0) (pv 2) (fun _ _ => rfl)) (pe_gs (by rfl) T.g_LETTERS) (by rfl)) (pw_or1 (PW.pt (pw_and (pt_cmpR op_gt (pv 2) (pv 1) (nomark _)) (pw_and1 (pt_cmpR op_inS (pe_ix ix_str (pv 0) (pv 2) (fun _ _ => rfl)) (pe_gs (by rfl) T.g_DIGITS) (by rfl))))))))))) (pss_one (ps_aug (i := 2) sc_name_end.nd rfl (by first | exact Or.inl rfl | exact Or.inr rfl) pe_int ip_add)))
      (pss_one (ps_ret (pv 2))))), ?_⟩
  walk_at "in"
  have hl : z.cps.toList.length = z.length := Array.length_toList ..
  have hn := RP.nm_le (z.cps.toList.drop i)
  rw [List.length_drop, hl] at hn
  refine ⟨_, rfl, ?_⟩
  refine ⟨fun m σ H' => H' = H ∧ ∃ k, k ≤ RP.nmLen (z.cps.toList.drop i) ∧ m = RP.nmLen (z.cps.toList.drop i) - k ∧ σ = [some (.str z), some (.int (i : Nat)), some (.int ((i + k : Nat) : Int))], ⟨_, rfl, 0, Nat.zero_le _, rfl, rfl⟩, ?_⟩
  rintro m σ H' ⟨rfl, k, hk, rfl, rfl⟩
  have eL : ("abcdefghijklmnopqrstuvwxyzABCDEFGHIJKLMNOPQRSTUVWXYZ_" : Str).cps.toList = RP.letters := by decide +kernel
  have eD : ("0123456789" : Str).cps.toList = RP.digits := by decide +kernel
  have hget : (z.cps.toList.drop i)[k]? = z.cps.toList[i + k]? := List.getElem?_drop ..
  by_cases c : k = RP.nmLen (z.cps.toList.drop i)
  · have ce := RP.cont_end (z.cps.toList.drop i)
    rw [← c] at ce hQ
    by_cases e : i + k < z.length
    · have t1 : decide (((i + k : Nat) : Int) < (z.length : Nat)) = true := decide_eq_true (by omega)
      obtain ⟨ch, hc⟩ : ∃ ch, z.cps.toList[i + k]? = some ch := ⟨_, List.getElem?_eq_getElem (by rw [hl]; exact e)⟩
      have hat : atI z.cps.toList ((i + k : Nat) : Int) = some ch := atI_nat hc
      unfold RP.contB at ce
      rw [hget, hc] at ce
      obtain ⟨ce1, ce2⟩ := Bool.or_eq_false_iff.mp ce
      have t2 : decide (ch ∈ ("abcdefghijklmnopqrstuvwxyzABCDEFGHIJKLMNOPQRSTUVWXYZ_" : Str).cps.toList) = false := by rw [eL]; exact ce1
      have hz2 : z.length ≤ sizeLine := by rw [sizeLine_eq]; omega
      by_cases k0 : k = 0
      · have t3 : decide (((i : Nat) : Int) < ((i + k : Nat) : Int)) = false := decide_eq_false (by omega)
        walk_at "go"
        exact hQ
      · have t3 : decide (((i : Nat) : Int) < ((i + k : Nat) : Int)) = true := decide_eq_true (by omega)
        have t4 : decide (ch ∈ ("0123456789" : Str).cps.toList) = false := by
          rw [eD]
          rcases Bool.and_eq_false_iff.mp ce2 with h | h
          · exact absurd (of_decide_eq_false h) (by omega)
          · exact h
        walk_at "go"
        exact hQ
    · have t1 : decide (((i + k : Nat) : Int) < (z.length : Nat)) = false := decide_eq_false (by omega)
      walk_at "go"
      exact hQ
  · have lt : k < RP.nmLen (z.cps.toList.drop i) := by omega
    have ce := RP.cont_lt lt
    have e : i + k < z.length := by omega
    have t1 : decide (((i + k : Nat) : Int) < (z.length : Nat)) = true := decide_eq_true (by omega)
    obtain ⟨ch, hc⟩ : ∃ ch, z.cps.toList[i + k]? = some ch := ⟨_, List.getElem?_eq_getElem (by rw [hl]; exact e)⟩
    have hat : atI z.cps.toList ((i + k : Nat) : Int) = some ch := atI_nat hc
    have hz2 : z.length ≤ sizeLine := by rw [sizeLine_eq]; omega
    unfold RP.contB at ce
    rw [hget, hc] at ce
    have next : ∀ H2 : Hp, H2 = H' → ∃ m', m' < RP.nmLen (z.cps.toList.drop i) - k ∧ H2 = H' ∧ ∃ k', k' ≤ RP.nmLen (z.cps.toList.drop i) ∧ m' = RP.nmLen (z.cps.toList.drop i) - k' ∧ [some (V.str z), some (V.int (i : Nat)), some (V.int (((i + k : Nat) : Int) + 1))] = [some (.str z), some (.int (i : Nat)), some (.int ((i + k' : Nat) : Int))] :=
      fun H2 h => ⟨RP.nmLen (z.cps.toList.drop i) - (k + 1), by omega, h, k + 1, by omega, rfl, by rw [show ((i + (k + 1) : Nat) : Int) = ((i + k : Nat) : Int) + 1 by omega]⟩
    cases ce1 : RP.letB ch with
    | true =>
      have t2 : decide (ch ∈ ("abcdefghijklmnopqrstuvwxyzABCDEFGHIJKLMNOPQRSTUVWXYZ_" : Str).cps.toList) = true := by rw [eL]; exact ce1
      walk_at "go"
      refine ⟨_, fun _ _ h => h, ?_⟩
      walk_at "go"
      exact (next _ rfl).choose_spec
    | false =>
      replace ce : (RP.letB ch || (decide (0 < k) && RP.digB ch)) = true := ce
      rw [ce1, Bool.false_or] at ce
      obtain ⟨ce3, ce4⟩ := Bool.and_eq_true_iff.mp ce
      have t2 : decide (ch ∈ ("abcdefghijklmnopqrstuvwxyzABCDEFGHIJKLMNOPQRSTUVWXYZ_" : Str).cps.toList) = false := by rw [eL]; exact ce1
      have t3 : decide (((i : Nat) : Int) < ((i + k : Nat) : Int)) = true := decide_eq_true (by have := of_decide_eq_true ce3; omega)
      have t4 : decide (ch ∈ ("0123456789" : Str).cps.toList) = true := by rw [eD]; exact ce4
      walk_at "go"
      refine ⟨_, fun _ _ h => h, ?_⟩
      walk_at "go"
      exact (next _ rfl).choose_spec
end
end K17

set_option Elab.async false
set_option linter.all false
set_option maxRecDepth 100000
set_option maxHeartbeats 0

namespace K17
open PySem PySem.Spec PyProof.Rows L2 RC
section
variable {P : Program} {w : World} {K : PySem.W.Frag} {mg : Str → Option Value} {base : Heap}
/-! ### a plain field between two braces -/
def spFieldOf (K : PySem.W.Frag) : Sp := fun vs H Q _ => ∃ z : Str, vs = [.str z] ∧ z.length ≤ 1000 ∧ z.length ≠ 0 ∧ RP.nmLen z.cps.toList = z.length ∧ ∀ (q dx : Addr) (H' : Hp), Same H H' → H q = none → H' q = some (.ins (CFd K) dx (fdP z)) → Q (.ref q) H'
theorem ok_field_of {f : Addr} (T : Txt P w K mg) (F : Stands K "field_of" "field_of" s_field_of [] f) (c_name_end : Callable P w K mg base 1 (He.ga K "name_end") ["text", "start"] [] spNameEnd)
    (c_Field_init_d3 : Callable P w K mg base 1 (He.ma K (He.ga K "Field") "__init__") ["self", "name", "conversion", "fill", "align", "width"] [.str " ", .str "", .int 0] (spFieldInit K)) : Callable P w K mg base 3 f ["body"] [] (spFieldOf K) := by
  refine F.call0 sc_field_of (fun vs H Q E h => ?_) (fun cdv A outer s0 H vs Q E hr h => ?_) (fun _ _ _ _ _ _ us hl => match us, hl with | [_], _ => rfl)
  · obtain ⟨z, rfl, _⟩ := h; rfl
  obtain ⟨z, rfl, hz, hz0, hn, hQ⟩ := h
  refine ⟨_, (pss_cons (ps_set (i := 1) sc_field_of.nd rfl (by first | exact Or.inl rfl | exact Or.inr rfl) (pe_fn T.g_name_end c_name_end (hr.mono (by first | decide | exact Nat.le_refl _)) (by rfl) (pa_cons (pv 0) (pa_cons pe_int pa_nil))))
      (pss_cons (ps_par3 (by rfl) sc_field_of.nd (i := 2) (j := 3) (l := 4) rfl rfl rfl (by decide) (by decide) (by decide) rfl rfl rfl (pa_cons (pe_slice sl_str (pv 0) po_none (po_some (pv 1))) (pa_cons (pe_slice sl_str (pv 0) (po_some (pv 1)) po_none) (pa_cons pe_str pa_nil))) (by rfl))
      (pss_cons (ps_if (pt_cmpR op_in_seq (pe_slice sl_str (pv 3) po_none (po_some pe_int)) (pe_tup (pa_cons pe_str (pa_cons pe_str pa_nil))) (by rfl)) (pss_one (ps_par (by rfl) sc_field_of.nd (i := 4) (j := 3) rfl rfl (by decide) rfl rfl (pa_cons (pe_ix ix_str (pv 3) pe_int (fun _ _ => rfl)) (pa_cons (pe_slice sl_str (pv 3) (po_some pe_int) po_none) pa_nil)) (by rfl))) pss_nil)
      (pss_cons (ps_if (PW.pt (pw_or (pt_cmpR op_eq (pv 2) pe_str (nomark _)) (pw_or1 (PW.pt (pw_and (pt_cmpR op_ne (pv 3) pe_str (nomark _)) (pw_and1 (pt_cmpR op_ne (pe_ix ix_str (pv 3) pe_int (fun _ _ => rfl)) pe_str (nomark _)))))))) (pss_one (ps_ret pe_non)) pss_nil)
      (pss_cons (ps_if (pt_cmpR op_eq (pv 3) pe_str (nomark _)) (pss_one (ps_ret (pe_mk T.k_Field T.g_Field c_Field_init_d3 (hr.mono (by first | decide | exact Nat.le_refl _)) (by rfl) (pa_cons (pv 2) (pa_cons (pv 4) pa_nil))))) pss_nil)
      (pss_cons (ps_set (i := 5) sc_field_of.nd rfl (by first | exact Or.inl rfl | exact Or.inr rfl) pe_never)
      (pss_one (ps_ret pe_never)))))))), ?_⟩
  walk_at "in"
  have hl : z.cps.toList.length = z.length := Array.length_toList ..
  have hz2 : z.length ≤ sizeLine := by rw [sizeLine_eq]; omega
  have hz3 : z.length ≤ 1000000 := by omega
  refine seq_of (fun σ' H' => σ' = [some (.str z), some (.int (z.length : Nat)), none, none, none, none] ∧ H = H') (fun b' kb => ?_) (fun σ' H' hm => ?_)
  · walk_at "go"
    refine kb _ _ ⟨?_, rfl⟩
    rw [Nat.zero_add, List.drop_zero, hn]; rfl
  obtain ⟨rfl, rfl⟩ := hm
  have c1 : cutS z none (some ((z.length : Nat) : Int)) = z := by rw [cut_to, List.take_of_length_le (by omega), tx_of]
  have c2 : cutS z (some ((z.length : Nat) : Int)) none = tx [] := by rw [cut_from, List.drop_eq_nil_of_le (by omega)]
  refine seq_of (fun σ' H' => σ' = [some (.str z), some (.int (z.length : Nat)), some (.str z), some (.str (tx [])), some (.str (tx [])), none] ∧ H = H') (fun b' kb => ?_) (fun σ' H' hm => ?_)
  · walk_at "go"
    refine kb _ _ ⟨?_, rfl⟩
    rw [c1, c2, ← s_empty]; rfl
  obtain ⟨rfl, rfl⟩ := hm
  clear c1 c2
  have c3 : cutS (tx []) none (some 2) = tx [] := cut_to (b := 2)
  have vF : inV (.str (cutS (tx []) none (some 2))) [V.str (tx [33, 114]), V.str (tx [33, 115])] = false := by rw [c3]; exact (inV_tx _ [[33, 114], [33, 115]]).trans (decide_eq_false (by decide))
  have e0 : (tx ([] : List Nat)).length ≤ sizeLine := by rw [sizeLine_eq]; decide
  rw [s_bangr, s_bangs, s_empty]
  walk_at "go"
  intro p fp
  have s1 : Same H (upd H p (.tup [.str (tx [33, 114]), .str (tx [33, 115])])) := same_new fp _
  have hp : (upd H p (.tup [.str (tx [33, 114]), .str (tx [33, 115])])) p = some (.tup [.str (tx [33, 114]), .str (tx [33, 115])]) := upd_same
  generalize upd H p (.tup [.str (tx [33, 114]), .str (tx [33, 115])]) = H1 at s1 hp ⊢
  refine ⟨p, _, rfl, .inr (SqT.of hp), rfl, rfl, _, rfl, ?_⟩
  refine iteF' vF ?_
  have t1 : decide (V.str z = V.str (tx [])) = false := decide_eq_false fun h => by
    have := congrArg Str.length (V.str.inj h)
    rw [tx_len] at this; exact hz0 this
  have t2 : (!decide (V.str (tx ([] : List Nat)) = V.str (tx []))) = false := by rw [decide_eq_true rfl]; rfl
  have t3 : decide (V.str (tx ([] : List Nat)) = V.str (tx [])) = true := decide_eq_true rfl
  walk_at "go"
  intro x dx f1 f2 f3
  refine ⟨x, dx, _, _, _, _, _, rfl, upd_same, rfl, ?_⟩
  rw [upd_upd]
  have s3 := (same_new f2 (.own x)).trans (same_new (by rw [upd_ne (Ne.symm f3)]; exact f1) (.ins (CFd K) dx (fdP z)))
  rw [← s_empty]
  exact hQ x dx _ (s1.trans s3) (RW.free_same s1 f1) upd_same
end
end K17

set_option Elab.async false
set_option linter.all false
set_option maxRecDepth 100000
set_option maxHeartbeats 0

namespace K17
open PySem PySem.Spec PyProof.Rows L2 RC
section
variable {P : Program} {w : World} {K : PySem.W.Frag} {mg : Str → Option Value} {base : Heap}
/-! ### the parts of a plain format in braces -/
/-- what was laid since -/
noncomputable abbrev nw (H H' : Hp) : Hp := rst (fun b => H b ≠ none) H'
theorem nw_at {H H' : Hp} {p : Addr} {o : HO} (h : H' p = some o) (f : H p = none) : nw H H' p = some o := rst_at h fun z => z f
theorem nw_same {H H1 H2 : Hp} (s : Same H1 H2) : Same (nw H H1) (nw H H2) := rst_next (fun b u _ h => s b u h) fun b h => .inl h
theorem nw_free {H H' : Hp} {b : Addr} {u : HO} (e : nw H H' b = some u) : H b = none := Classical.byContradiction fun z => by
  have e2 : rst (fun b => H b ≠ none) H' b = some u := e
  rw [rst_none (S := fun b => H b ≠ none) z] at e2; cases e2
theorem nw_upd {H H2 : Hp} {p : Addr} {o : HO} (f : H p = none) : nw H (upd H2 p o) = upd (nw H H2) p o := by
  funext b
  by_cases e : b = p
  · rw [e, upd_same]; exact nw_at upd_same f
  · rw [upd_ne e]
    show rst _ (upd H2 p o) b = rst _ H2 b
    unfold rst
    by_cases c : H b ≠ none
    · rw [if_pos c, if_pos c]
    · rw [if_neg c, if_neg c, upd_ne e]
abbrev PtT : Type := Nat ⊕ SS
/-- a format of letters and plain fields, read from the left -/
inductive PlB : SS → List PtT → Prop
  | nil : PlB [] []
  | ch {c : Nat} {r : SS} {ps : List PtT} : c ≠ 123 → c ≠ 125 → PlB r ps → PlB (c :: r) (.inl c :: ps)
  | fld {b r : SS} {ps : List PtT} : b ≠ [] → RP.nmLen b = b.length → (b ++ 125 :: r).head? ≠ some 123 → 125 ∉ b → PlB r ps → PlB (123 :: (b ++ 125 :: r)) (.inr b :: ps)
def PtV (K : PySem.W.Frag) (H : Hp) : PtT → V → Prop
  | .inl c, v => v = .str ⟨#[c]⟩
  | .inr b, v => ∃ q dx fs, v = .ref q ∧ H q = some (.ins (CFd K) dx fs) ∧ fs.length = 5 ∧ fs = fdP (tx b)
inductive PtsV (K : PySem.W.Frag) (H : Hp) : List PtT → List V → Prop
  | nil : PtsV K H [] []
  | cons {p : PtT} {v : V} {ps : List PtT} {vs : List V} : PtV K H p v → PtsV K H ps vs → PtsV K H (p :: ps) (v :: vs)
theorem PtV.to {K : PySem.W.Frag} {H H' : Hp} (h : ∀ (q dx : Addr) (fs : List (Str × V)), fs.length = 5 → H q = some (.ins (CFd K) dx fs) → H' q = some (.ins (CFd K) dx fs)) : ∀ {p : PtT} {v : V}, PtV K H p v → PtV K H' p v
  | .inl _, _, e => e
  | .inr _, _, ⟨q, dx, fs, e, g, l⟩ => ⟨q, dx, fs, e, h _ _ _ l.1 g, l⟩
theorem PtsV.to {K : PySem.W.Frag} {H H' : Hp} (h : ∀ (q dx : Addr) (fs : List (Str × V)), fs.length = 5 → H q = some (.ins (CFd K) dx fs) → H' q = some (.ins (CFd K) dx fs)) : ∀ {ps : List PtT} {vs : List V}, PtsV K H ps vs → PtsV K H' ps vs
  | _, _, .nil => .nil
  | _, _, .cons a b => .cons (a.to h) (b.to h)
theorem PtsV.same {K : PySem.W.Frag} {H H' : Hp} (s : Same H H') {ps : List PtT} {vs : List V} (h : PtsV K H ps vs) : PtsV K H' ps vs := h.to fun _ _ _ _ e => s _ _ e
theorem PtsV.put {K : PySem.W.Frag} {H : Hp} {p : Addr} {xs : List V} {o : HO} (e : H p = some (.lst xs)) {ps : List PtT} {vs : List V} (h : PtsV K H ps vs) : PtsV K (upd H p o) ps vs := h.to fun q dx fs l g => by
  rw [upd_ne]; exact g
  intro z; rw [z, e] at g; cases g
theorem PtV.put {K : PySem.W.Frag} {H : Hp} {p : Addr} {xs : List V} {o : HO} (e : H p = some (.lst xs)) {x : PtT} {v : V} (h : PtV K H x v) : PtV K (upd H p o) x v := h.to fun q dx fs l g => by
  rw [upd_ne]; exact g
  intro z; rw [z, e] at g; cases g
theorem PtsV.own {K : PySem.W.Frag} {H : Hp} {p C dx : Addr} {o : HO} (e : H p = some (.ins C dx [])) {ps : List PtT} {vs : List V} (h : PtsV K H ps vs) : PtsV K (upd H p o) ps vs := h.to fun q dx n l g => by
  rw [upd_ne]; exact g
  intro z; rw [z, e] at g; cases g; cases l
theorem PtsV.snoc {K : PySem.W.Frag} {H : Hp} {p : PtT} {v : V} (h : PtV K H p v) : ∀ {ps : List PtT} {vs : List V}, PtsV K H ps vs → PtsV K H (ps ++ [p]) (vs ++ [v])
  | _, _, .nil => .cons h .nil
  | _, _, .cons a b => .cons a (b.snoc h)
theorem PtsV.get {K : PySem.W.Frag} {H : Hp} : ∀ {ps : List PtT} {vs : List V}, PtsV K H ps vs → ∀ {i : Nat} {v : V}, vs[i]? = some v → ∃ x, ps[i]? = some x ∧ PtV K H x v
  | _, _, .nil, _, _, h => by cases h
  | _, _, .cons a b, 0, _, h => by cases h; exact ⟨_, rfl, a⟩
  | _, _, .cons a b, _ + 1, _, h => b.get h
theorem PtsV.len {K : PySem.W.Frag} {H : Hp} : ∀ {ps : List PtT} {vs : List V}, PtsV K H ps vs → ps.length = vs.length
  | _, _, .nil => rfl
  | _, _, .cons _ b => congrArg Nat.succ b.len
theorem len_add (a b : Str) : (a ++ b).length = a.length + b.length := by
  rw [TL.len_tl, TL.tl_append, List.length_append, ← TL.len_tl, ← TL.len_tl]
theorem from_nat (n i : Nat) : fromIndex n (i : Int) = i := by
  unfold fromIndex
  rw [if_neg (by omega)]; omega
theorem getD_list (z : Str) (v : Nat) : z.cps.getD v 0 = (z.cps.toList[v]?).getD 0 := by
  rw [Array.getD_eq_getD_getElem?, Array.getElem?_toList]
theorem getD_some {z : Str} {v : Nat} (h : v < z.length) (e : z.cps.getD v 0 = 125) : z.cps.toList[v]? = some 125 := by
  have hl : z.cps.toList.length = z.length := Array.length_toList ..
  rw [getD_list, List.getElem?_eq_getElem (by rw [hl]; exact h)] at e
  rw [List.getElem?_eq_getElem (by rw [hl]; exact h)]
  exact congrArg some e
theorem find_at {z : Str} {i : Nat} {b t : List Nat} (h : z.cps.toList.drop i = b ++ 125 :: t) (hb : 125 ∉ b) (hi : i ≤ z.length) : Txt.find3 z (tx [125]) (i : Int) = ((i + b.length : Nat) : Int) := by
  have hl : z.cps.toList.length = z.length := Array.length_toList ..
  have at_b : z.cps.toList[i + b.length]? = some 125 := by
    rw [← List.getElem?_drop, h, List.getElem?_append_right (Nat.le_refl _), Nat.sub_self]; rfl
  have inb : ∀ j, j < b.length → z.cps.toList[i + j]? = some 125 → False := fun j hj e => by
    rw [← List.getElem?_drop, h, List.getElem?_append_left hj] at e
    exact hb (List.mem_of_getElem? e)
  have gb : z.cps.getD (i + b.length) 0 = 125 := by rw [getD_list, at_b]; rfl
  have lb : i + b.length < z.length := by rw [← hl]; exact (List.getElem?_eq_some_iff.mp at_b).1
  have hs := PySem.StrLaws.find3_spec z 125 (i : Int)
  rw [from_nat] at hs
  rcases hs with ⟨_, h2⟩ | ⟨k, h1, h2, h3, h4, h5⟩
  · exact absurd gb (h2 _ (by omega) lb)
  · refine h1.trans ?_
    rcases Nat.lt_trichotomy k (i + b.length) with q | q | q
    · exact (inb (k - i) (by omega) (by rw [show i + (k - i) = k by omega]; exact getD_some h3 h4)).elim
    · rw [q]
    · exact absurd gb (h5 _ (by omega) q)
def spParts (K : PySem.W.Frag) : Sp := fun vs H Q _ => ∃ (z : Str) (ps : List PtT), vs = [.str z] ∧ z.length ≤ 1000 ∧ PlB z.cps.toList ps ∧ ∀ (vs : List V) (p : Addr) (H' : Hp), Same H H' → H p = none → H' p = some (.lst vs) → vs.length ≤ 1000 → PtsV K (nw H H') ps vs → Q (.ref p) H'
structure PInv (K : PySem.W.Frag) (H : Hp) (z : Str) (p : Addr) (ps : List PtT) (m : Nat) (σ : L2.St) (H' : Hp) : Prop where
  same : Same H H'
  ex : ∃ (i : Nat) (p1 p2 : List PtT) (vs : List V) (a b : Option V), m = z.length - i ∧ i ≤ z.length ∧ vs.length ≤ i ∧ H' p = some (.lst vs) ∧ PtsV K (nw H H') p1 vs ∧ PlB (z.cps.toList.drop i) p2 ∧ ps = p1 ++ p2 ∧ σ = [some (.str z), some (.ref p), some (.int (i : Nat)), a, b]
theorem ok_parts {f : Addr} (T : Txt P w K mg) (F : Stands K "parts_of_braces" "parts_of_braces" s_parts_of_braces [] f) (c_field_of : Callable P w K mg base 3 (He.ga K "field_of") ["body"] [] (spFieldOf K)) : Callable P w K mg base 4 f ["fmt"] [] (spParts K) := by
  refine F.call0 sc_parts_of_braces (fun vs H Q E h => ?_) (fun cdv A outer s H vs Q E hr h => ?_) (fun _ _ _ _ _ _ us hl => match us, hl with | [_], _ => rfl)
  · obtain ⟨z, ps, rfl, _⟩ := h; rfl
  obtain ⟨z, ps, rfl, hz, hP, hQ⟩ := h
  refine ⟨_, (pss_cons (ps_par (by rfl) sc_parts_of_braces.nd (i := 1) (j := 2) rfl rfl (by decide) rfl rfl (pa_cons (pe_lst pa_nil) (pa_cons pe_int pa_nil)) (by rfl))
      (pss_cons (ps_while PassesOwn.never (pt_cmpR op_lt (pv 2) (pe_callB call_len_str (by rfl) T.b_len (by decide +kernel) (pa_cons (pv 0) pa_nil)) (nomark _)) (pss_cons (ps_par (by rfl) sc_parts_of_braces.nd (i := 3) (j := 4) rfl rfl (by decide) rfl rfl (pa_cons (pe_op op_add (pv 2) pe_int) (pa_cons (pe_ix ix_str (pv 0) (pv 2) (fun _ _ => rfl)) pa_nil)) (by rfl))
      (pss_cons (ps_if (pt_cmpR op_in_seq (pe_slice sl_str (pv 0) (po_some (pv 2)) (po_some (pe_op op_add (pv 2) pe_int))) (pe_tup (pa_cons pe_str (pa_cons pe_str pa_nil))) (by rfl)) (pss_one (ps_set (i := 3) sc_parts_of_braces.nd rfl (by first | exact Or.inl rfl | exact Or.inr rfl) (pe_op op_add (pv 2) pe_int))) (pss_one (ps_if (pt_cmpR op_in_seq (pv 4) (pe_tup (pa_cons pe_str (pa_cons pe_str pa_nil))) (by rfl)) (pss_cons (ps_set (i := 3) sc_parts_of_braces.nd rfl (by first | exact Or.inl rfl | exact Or.inr rfl) (pe_op op_add (pe_bm PySem.F.plainAttrs_str PySem.F.slot_str_find PySem.F.type_str_find mt_find3 (pv 0) (pa_cons pe_str (pa_cons (pv 2) pa_nil))) pe_int))
      (pss_one (ps_set (i := 4) sc_parts_of_braces.nd rfl (by first | exact Or.inl rfl | exact Or.inr rfl) (pe_ifExp (pt_cmpR op_gt (pv 3) pe_int (nomark _)) (pe_fn T.g_field_of c_field_of (hr.mono (by first | decide | exact Nat.le_refl _)) (by rfl) (pa_cons (pe_slice sl_str (pv 0) (po_some (pe_op op_add (pv 2) pe_int)) (po_some (pe_op op_sub (pv 3) pe_int))) pa_nil)) pe_non)))) pss_nil)))
      (pss_cons (ps_if (pt_cmpR op_isN (pv 4) pe_non (nomark _)) (pss_one (ps_ret pe_non)) pss_nil)
      (pss_cons (ps_expr (pe_bm PySem.F.plainAttrs_list PySem.F.slot_list_append PySem.F.type_list_append mt_append (pv 1) (pa_cons (pv 4) pa_nil)))
      (pss_one (ps_set (i := 2) sc_parts_of_braces.nd rfl (by first | exact Or.inl rfl | exact Or.inr rfl) (pv 3))))))))
      (pss_one (ps_ret (pv 1))))), ?_⟩
  walk_at "in"
  have hl : z.cps.toList.length = z.length := Array.length_toList ..
  have hz2 : z.length ≤ sizeLine := by rw [sizeLine_eq]; omega
  walk_at "go"
  intro p fp
  walk_at "go"
  refine ⟨PInv K H z p ps, ⟨_, same_new fp _, 0, [], ps, [], _, _, rfl, Nat.zero_le _, Nat.zero_le _, upd_same, .nil, hP, rfl, rfl⟩, ?_⟩
  rintro m σ H1 ⟨s1, i, p1, p2, vs, a, b, rfl, hi, hv, hp, hps, hd, rfl, rfl⟩
  rw [s_open2, s_close2, s_open, s_close]
  by_cases c : i < z.length
  · have t1 : decide (((i : Nat) : Int) < (z.length : Nat)) = true := decide_eq_true (by omega)
    have c2 : cutS z (some (i : Int)) (some ((i : Int) + 2)) = tx ((z.cps.toList.drop i).take 2) := cut_two hi
    obtain ⟨ch, hc⟩ : ∃ ch, z.cps.toList[i]? = some ch := ⟨_, List.getElem?_eq_getElem (by rw [hl]; exact c)⟩
    have hat : atI z.cps.toList ((i : Nat) : Int) = some ch := atI_nat hc
    have hdr : z.cps.toList.drop i = ch :: z.cps.toList.drop (i + 1) := by
      obtain ⟨h1, h2⟩ := List.getElem?_eq_some_iff.mp hc
      rw [← h2]; exact List.drop_eq_getElem_cons h1
    have hsz : vs.length < sizeLine := by rw [sizeLine_eq]; omega
    have hdi := hdr
    generalize hr : z.cps.toList.drop (i + 1) = r at hdi
    have hlr : r.length = z.length - (i + 1) := by rw [← hr, List.length_drop, hl]
    rw [hdi] at hd c2
    have next : ∀ (j : Nat) (e : Int) (x : PtT) (v : V) (a2 b2 : Option V) (H2 : Hp) (p3 : List PtT), e = (j : Int) → i < j → j ≤ z.length → Same H1 H2 → PtV K (nw H H2) x v → PlB (z.cps.toList.drop j) p3 → p2 = x :: p3 →
        ∃ m', m' < z.length - i ∧ PInv K H z p (p1 ++ p2) m' [some (.str z), some (.ref p), some (.int e), a2, b2] (upd H2 p (.lst (vs ++ [v]))) :=
      fun j e x v a2 b2 H2 p3 e1 e2 e3 e4 e6 e8 e9 => ⟨z.length - j, by omega, fun b u hb => (by rw [upd_ne (ne_of_none hb fp)]; exact e4 _ _ (s1 _ _ hb)), j, p1 ++ [x], p3, vs ++ [v], a2, b2, rfl, e3, by rw [List.length_append]; show vs.length + 1 ≤ j; omega, upd_same, (by rw [nw_upd fp]; exact ((hps.same (nw_same e4)).put (nw_at (e4 _ _ hp) fp)).snoc (e6.put (nw_at (e4 _ _ hp) fp))), e8, by rw [e9]; simp, by rw [e1]⟩
    obtain ⟨N, hN⟩ : ∃ N : L2.St → Hp → Prop, N = fun σ' H' => ∃ m', m' < z.length - i ∧ PInv K H z p (p1 ++ p2) m' σ' H' := ⟨_, rfl⟩
    walk_at "go"
    refine ⟨N, fun σ' H' h => by rw [hN] at h; exact h, ?_⟩
    refine seq_of (fun σ' H' => σ' = [some (.str z), some (.ref p), some (.int (i : Nat)), some (.int ((i : Int) + 1)), some (.str ⟨#[ch]⟩)] ∧ H1 = H') (fun b' kb => ?_) (fun σ' H' hm => ?_)
    · walk_at "go"
      exact kb _ _ ⟨rfl, rfl⟩
    obtain ⟨rfl, rfl⟩ := hm
    walk_at "go"
    intro q fq
    have s2 : Same H1 (upd H1 q (.tup [.str (tx [123, 123]), .str (tx [125, 125])])) := same_new fq _
    have hq : (upd H1 q (.tup [.str (tx [123, 123]), .str (tx [125, 125])])) q = some (.tup [.str (tx [123, 123]), .str (tx [125, 125])]) := upd_same
    generalize upd H1 q (.tup [.str (tx [123, 123]), .str (tx [125, 125])]) = H2 at s2 hq ⊢
    refine ⟨q, _, rfl, .inr (SqT.of hq), rfl, rfl, _, rfl, ?_⟩
    have vF : inV (.str (cutS z (some (i : Int)) (some ((i : Int) + 2)))) [V.str (tx [123, 123]), V.str (tx [125, 125])] = decide ((ch :: r).take 2 ∈ ([[123, 123], [125, 125]] : List (List Nat))) := by rw [c2]; exact inV_tx _ [[123, 123], [125, 125]]
    have hf : ¬ (ch :: r).take 2 ∈ ([[123, 123], [125, 125]] : List (List Nat)) := fun h => by
      have tk : ∀ x y : Nat, (ch :: r).take 2 = [x, y] → ch = x ∧ r.head? = some y := fun x y h => by
        cases r with
        | nil => cases h
        | cons d r => cases h; exact ⟨rfl, rfl⟩
      rcases List.mem_cons.mp h with h | h
      · obtain ⟨e1, e2⟩ := tk _ _ h
        cases hd with
        | ch h1 _ _ => exact h1 e1
        | fld _ _ h3 _ _ => exact h3 e2
      · obtain ⟨e1, e2⟩ := tk _ _ (List.mem_singleton.mp h)
        cases hd with
        | ch _ h2 _ => exact h2 e1
        | fld _ _ h3 _ _ => cases e1
    refine iteF' (vF.trans (decide_eq_false hf)) ?_
    walk_at "go"
    intro q2 fq2
    have s3 : Same H2 (upd H2 q2 (.tup [.str (tx [123]), .str (tx [125])])) := same_new fq2 _
    have hq2 : (upd H2 q2 (.tup [.str (tx [123]), .str (tx [125])])) q2 = some (.tup [.str (tx [123]), .str (tx [125])]) := upd_same
    generalize upd H2 q2 (.tup [.str (tx [123]), .str (tx [125])]) = H3 at s3 hq2 ⊢
    refine ⟨q2, _, rfl, .inr (SqT.of hq2), rfl, rfl, _, rfl, ?_⟩
    have s13 := s2.trans s3
    have hp3 := s13 _ _ hp
    have vG : inV (.str ⟨#[ch]⟩) [V.str (tx [123]), V.str (tx [125])] = decide ([ch] ∈ ([[123], [125]] : List (List Nat))) := inV_tx [ch] [[123], [125]]
    cases hd with
    | @ch _ _ p3 h1 h2 h3 =>
      refine iteF' (vG.trans (decide_eq_false fun h => ?_)) ?_
      · rcases List.mem_cons.mp h with h | h
        · cases h; exact h1 rfl
        · cases List.mem_singleton.mp h; exact h2 rfl
      walk_at "go"
      rw [hN]
      exact next (i + 1) _ (.inl ch) (.str ⟨#[ch]⟩) _ _ H3 p3 (show ((i : Int) + 1) = ((i + 1 : Nat) : Int) by omega) (by omega) (by omega) s13 rfl (by rw [hr]; exact h3) rfl
    | @fld b r2 p3 h0 h1 h2 h3 h4 =>
      refine iteT' (vG.trans (decide_eq_true List.mem_cons_self)) ?_
      have fa : Txt.find3 z (tx [125]) (i : Int) = ((i + (b.length + 1) : Nat) : Int) := find_at (b := 123 :: b) (t := r2) (hdr.trans (by rw [hr]; rfl)) (fun h => (List.mem_cons.mp h).elim (by decide) h3) hi
      have c3 : cutS z (some ((i : Int) + 1)) (some (Txt.find3 z (tx [125]) (i : Int) + 1 - 1)) = tx b := by
        have := cut_ab (z := z) (a := i + 1) (b := i + (b.length + 1)) (by omega)
        rw [hr, show i + (b.length + 1) - (i + 1) = b.length by omega, List.take_left] at this
        rw [fa, show ((i + (b.length + 1) : Nat) : Int) + 1 - 1 = ((i + (b.length + 1) : Nat) : Int) by omega]
        exact this
      walk_at "go"
      refine iteT' (decide_eq_true (show (0 : Int) < Txt.find3 z (tx [125]) (i : Int) + 1 by rw [fa]; omega)) ?_
      walk_at "go"
      rw [c3]
      rw [List.length_append, List.length_cons] at hlr
      have bl : (tx b).length ≤ 1000 := by rw [tx_len]; omega
      have b0 : (tx b).length ≠ 0 := by rw [tx_len]; exact fun h => h0 (List.length_eq_zero_iff.mp h)
      have bn : RP.nmLen (tx b).cps.toList = (tx b).length := by rw [tx_len]; exact h1
      refine ⟨bl, b0, bn, fun x dx H4 s4 fx hx => ?_⟩
      have fx0 : H x = none := (s1.trans s13).free fx
      have hp4 := s4 _ _ hp3
      walk_at "go"
      have hr2 : z.cps.toList.drop (i + (b.length + 2)) = r2 := by
        rw [show i + (b.length + 2) = (i + 1) + (b.length + 1) by omega, ← List.drop_drop, hr, List.drop_append]
        simp
      rw [hN]
      exact next (i + (b.length + 2)) _ (.inr b) (.ref x) _ _ H4 p3 (show Txt.find3 z (tx [125]) (i : Int) + 1 = ((i + (b.length + 2) : Nat) : Int) by rw [fa]; omega) (by omega) (by omega) (s13.trans s4) ⟨x, dx, _, rfl, nw_at hx fx0, rfl, rfl⟩ (by rw [hr2]; exact h4) rfl
  · have t1 : decide (((i : Nat) : Int) < (z.length : Nat)) = false := decide_eq_false (by omega)
    have dn : z.cps.toList.drop i = [] := List.drop_eq_nil_of_le (by omega)
    rw [dn] at hd
    cases hd
    rw [List.append_nil] at hQ
    walk_at "go"
    exact hQ vs p _ s1 fp hp (by omega) hps
end
end K17

set_option Elab.async false
set_option linter.all false
set_option maxRecDepth 100000
set_option maxHeartbeats 0

namespace K17
open PySem PySem.Spec PyProof.Rows L2 RC
section
variable {P : Program} {w : World} {K : PySem.W.Frag} {mg : Str → Option Value} {base : Heap}
/-! ### a field of a record -/
theorem ok_field {f : Addr} (T : Txt P w K mg) (F : Stands K "field" "LogRecord.field" s_LogRecord_field [] f) (c_LogRecord_message : RH.CallN P w K mg base 5 (He.ma K (He.ga K "LogRecord") "message") ["self"] [] (spMessage K))
    (c_BadField_init : Callable P w K mg base 1 (He.ma K (He.ga K "BadField") "__init__") ["self", "name"] [] (RQ.spExcInit K "name")) (c_copied_value : Callable P w K mg base 3 (He.ga K "copied_value") ["thing"] [] (spCopied K 2)) : RH.CallN P w K mg base 6 f ["self", "name"] [] (spField K) := by
  refine RH.stands_callN0 F sc_LogRecord_field (fun vs H Q E h => ?_) (fun cdv A outer s H vs Q E hr h => ?_) (fun _ _ _ _ _ _ us hl => match us, hl with | [_, _], _ => rfl)
  · obtain ⟨r, d, nm, o, rfl, _⟩ := h; rfl
  obtain ⟨r, d, nm, o, rfl, hR, hok, hO, hV, hEm, hEf⟩ := h
  obtain ⟨dx, g, e, hr1, hg, he⟩ := id hR
  refine ⟨_, (pss_cons (ps_if (pt_cmpR op_eq (pv 1) pe_str (nomark _)) (pss_one (ps_ret (RH.pe_mtN0 (L2N.takes_of rfl rfl rfl rfl) T.c_LogRecord T.m_LogRecord_message c_LogRecord_message (hr.mono (by first | decide | exact Nat.le_refl _)) (pv 0)))) pss_nil)
      (pss_cons (ps_set (i := 2) sc_LogRecord_field.nd rfl (by first | exact Or.inl rfl | exact Or.inr rfl) (pe_disp (pps_cons pe_str (pe_fld (pv 0) rfl) (pps_cons pe_str (pe_fld (pv 0) rfl) (pps_cons pe_str (pe_fld (pv 0) rfl) (pps_cons pe_str (pe_fld (pv 0) rfl) pps_nil)))) (by rfl) (by rfl) (fun z => by cases z) (by decide)))
      (pss_cons (ps_expr (pe_bm PySem.F.plainAttrs_dict PySem.F.slot_dict_update PySem.F.type_dict_update RF.mt_updD (pv 2) (pa_cons (pe_disp (pps_cons pe_str (pe_fld (pv 0) rfl) (pps_cons pe_str (pe_fld (pv 0) rfl) (pps_cons pe_str (pe_op op_mod (pe_fld (pv 0) rfl) pe_int) pps_nil))) (by rfl) (by rfl) (fun z => by cases z) (by decide)) pa_nil)))
      (pss_cons (ps_set (i := 3) sc_LogRecord_field.nd rfl (by first | exact Or.inl rfl | exact Or.inr rfl) (pe_ifExp (pt_cmp (pc_din (hu_of hr) (pv 1) (pv 2))) (pv 2) (pe_fld (pv 0) rfl)))
      (pss_cons (ps_if (pt_cmp (pc_dnotin (hu_of hr) (pv 1) (pv 3))) (pss_one (RH.ps_excN rfl (L2N.takes_of rfl rfl rfl rfl) T.x_BadField c_BadField_init (hr.mono (by first | decide | exact Nat.le_refl _)) T.g_BadField (by rfl) (pa_cons (pv 1) pa_nil))) pss_nil)
      (pss_one (ps_ret (pe_fn T.g_copied_value c_copied_value (hr.mono (by first | decide | exact Nat.le_refl _)) (by rfl) (pa_cons (pe_dget (hu_of hr) (pv 3) (pv 1) (fun _ _ => rfl)) pa_nil))))))))), ?_⟩
  dsimp only [cxK2]
  by_cases hm : nm = "message"
  · subst hm
    obtain ⟨oM, hMo, h1, h2⟩ : ∃ oM, MsgO d oM ∧ (∀ t, oM = some t → o = .tx t) ∧ (oM = none → o = .msg) := by
      cases hO with
      | @msgT t _ h => exact ⟨some t, h, fun _ e => by cases e; rfl, fun e => nomatch e⟩
      | msgE _ h => exact ⟨none, h, (fun _ e => nomatch e), fun _ => rfl⟩
      | val h => exact absurd rfl h
      | bad h => exact absurd rfl h
    have t1 : decide (V.str (Str.ofString "message") = V.str (Str.ofString "message")) = true := decide_eq_true rfl
    refine ⟨_, rfl, rfl, _, rfl, ?_⟩
    refine iteT' t1 ?_
    refine ⟨_, rfl, r, dx, _, rfl, hr1, rfl, ?_⟩
    refine ⟨r, d, oM, rfl, hR, hok, hMo, fun t H' ho s => ?_, fun ho => hEm (h2 ho)⟩
    refine hV _ _ (h1 t ho) (.inl ⟨_, rfl, ?_⟩) s
    subst ho
    rw [tx_len]
    have := msgO_len hMo hok
    omega
  · have t1 : decide (V.str nm = V.str (Str.ofString "message")) = false := decide_eq_false fun z => hm (V.str.inj z)
    walk_at "go"
    intro q1 fq1
    walk_at "go"
    generalize hH1 : upd (upd H q1 _) q1 _ = H1
    have s1 : Same H H1 := by rw [← hH1, upd_upd]; exact same_new fq1 _
    have hq1 : H1 q1 = some (.dK [(Sum.inr "name", .str d.name), (Sum.inr "levelno", .int d.lv), (Sum.inr "levelname", .str d.ln), (Sum.inr "msg", .str d.msg)]) := by rw [← hH1]; exact upd_same
    clear hH1
    have hr2 := s1 _ _ hr1
    have n1 : q1 ≠ r := fun z => by rw [z, hr1] at fq1; cases fq1
    have n2 : q1 ≠ e := fun z => by rw [z, he] at fq1; cases fq1
    refine ⟨.inr (.inr (.inl ⟨rfl, .inl ⟨_, hq1⟩⟩)), ?_⟩
    walk_at "go"
    intro q2 fq2
    have n3 : q2 ≠ q1 := fun z => by rw [z, hq1] at fq2; cases fq2
    have he1 := s1 _ _ he
    have n4 : q2 ≠ e := fun z => by rw [z, he1] at fq2; cases fq2
    walk_at "go"
    generalize hH2 : upd (upd (upd H1 q2 _) q2 _) q1 _ = H2
    have hq3 : H2 q1 = some (.dK (own7 d g)) := by rw [← hH2]; exact upd_same
    have he3 : H2 e = some (.dK []) := by rw [← hH2, upd_ne (Ne.symm n2), upd_ne (Ne.symm n4), upd_ne (Ne.symm n4)]; exact he1
    have s2 : Same H H2 := fun b u hb => by
      have b1 : b ≠ q1 := ne_of_none hb fq1
      have b2 : b ≠ q2 := ne_of_none (s1 _ _ hb) fq2
      rw [← hH2, upd_ne b1, upd_ne b2, upd_ne b2]; exact s1 _ _ hb
    clear hH2 s1 hq1 hr2 he1
    show (fun c H1 => if c = true then _ else _) (valV (own7 d g) (Sum.inr nm)).isSome H2
    cases hO with
    | msgT h => exact absurd h hm
    | msgE h => exact absurd h hm
    | @val v _ h hmem =>
      obtain ⟨e1, e2, e3⟩ := fval_own hok h hmem g
      rw [e1]
      refine iteT ?_
      walk_at "go"
      exact .inl ⟨v, rfl, by decide, e3, hV v _ rfl e2 s2⟩
    | bad _ h =>
      have e1 := fval_not h g (d := d)
      rw [e1]
      refine iteF ?_
      walk_at "go"
      intro dd fd
      exact hEf nm rfl dd _ s2 fd
end
end K17

set_option Elab.async false
set_option linter.all false
set_option maxRecDepth 100000
set_option maxHeartbeats 0

namespace K17
open PySem PySem.Spec PyProof.Rows L2 RC
section
variable {P : Program} {w : World} {K : PySem.W.Frag} {mg : Str → Option Value} {base : Heap}
/-! ### the value of a field -/
abbrev CFm (K : PySem.W.Frag) : Addr := He.ga K "Formatter"
def fmF (z : Str) (t d : Addr) : List (Str × V) := [("fmt", .str z), ("style", .str "{"), ("parts", .ref t), ("defaults", .ref d)]
def spValueOf (K : PySem.W.Frag) : Sp := fun vs H Q E => ∃ (m dm t df r : Addr) (z : Str) (d : Rc) (nm : Str) (o : TxO), vs = [.ref m, .str nm, .ref r] ∧ H m = some (.ins (CFm K) dm (fmF z t df)) ∧ H df = some (.dK []) ∧ RcAt K H r d ∧ d.Ok ∧ nm ≠ "asctime" ∧ FldO d nm o ∧ ValO K H Q E d o
theorem fldO_nm {d : Rc} {nm n2 : Str} {o : TxO} (h : FldO d nm o) (e : o = .fld n2) : n2 = nm := by
  cases h with
  | msgT => cases e
  | msgE => cases e
  | val => cases e
  | bad => cases e; rfl
theorem ok_value_of {f : Addr} (T : Txt P w K mg) (F : Stands K "value_of" "Formatter.value_of" s_Formatter_value_of [] f) (c_LogRecord_field : RH.CallN P w K mg base 6 (He.ma K (He.ga K "LogRecord") "field") ["self", "name"] [] (spField K))
    (i_BadField_init : RH.InitH P w K mg base 1 (He.ma K (He.ga K "BadField") "__init__") ["self", "name"] (RQ.spExcInit K "name")) : RQ.CallX P w K mg base 7 f ["self", "name", "record"] [] (spValueOf K) := by
  refine RQ.stands_callX0 F sc_Formatter_value_of (fun vs H Q E h => ?_) (fun cdv A outer s H vs Q E hr h => ?_) (fun _ _ _ _ _ _ us hl => match us, hl with | [_, _, _], _ => rfl)
  · obtain ⟨m, dm, t, df, r, z, d, nm, o, rfl, _⟩ := h; rfl
  obtain ⟨m, dm, t, df, r, z, d, nm, o, rfl, hm, hdf, hR, hok, hne, hO, hV, hEm, hEf⟩ := h
  obtain ⟨dx, g, e, hr1, hg, he⟩ := id hR
  refine ⟨_, (pss_cons (ps_if (pt_cmpR op_eq (pv 1) pe_str (nomark _)) (pss_one (ps_ret pe_never)) pss_nil)
      (pss_cons (L2H.ps_try_onlyX rfl rfl ⟨by rfl, by decide, .inl T.g_BadField⟩ (fun hd => L2H.passesAt_of rfl hd) (takes_of rfl rfl rfl rfl) (fun W pn xe tk tk2 _ => (pss_one (ps_set (i := 3) sc_Formatter_value_of.nd rfl (by first | exact Or.inl rfl | exact Or.inr rfl) (RH.pe_mtN tk T.c_LogRecord T.m_LogRecord_field c_LogRecord_field (hr.mono (by first | decide | exact Nat.le_refl _)) (pv 2) (pa_cons (pv 1) pa_nil))))) (fun a oe cls dd pn hz hf tk hot => (pss_cons (ps_if (pt_cmp (pc_dnotin (by exact hu_hot hr) (pv 1) (pe_fldK (K := K) (pv 0) rfl))) (pss_one (RH.ps_excH hot tk T.x_BadField i_BadField_init (L2H.roomH_mark (hr.mono (by first | decide | exact Nat.le_refl _)) _) T.g_BadField (by rfl) (pa_cons (pv 1) pa_nil))) pss_nil)
      (pss_one (ps_set (i := 3) sc_Formatter_value_of.nd rfl (by first | exact Or.inl rfl | exact Or.inr rfl) (pe_dget (by exact hu_hot hr) (pe_fldK (K := K) (pv 0) rfl) (pv 1) (fun _ _ => rfl)))))))
      (pss_one (ps_ret (pv 3))))), ?_⟩
  dsimp only [cxK2]
  have t1 : decide (V.str nm = V.str (Str.ofString "asctime")) = false := decide_eq_false fun z => hne (V.str.inj z)
  refine ⟨_, rfl, rfl, _, rfl, ?_⟩
  refine iteF' t1 ?_
  refine ⟨_, rfl, r, dx, _, rfl, hr1, rfl, _, rfl, ?_⟩
  refine ⟨r, d, nm, o, rfl, hR, hok, hO, fun v H' ho hv s => ?_, fun ho d2 H1 s1 fd => ?_, fun n2 ho d2 H1 s1 fd => ?_⟩
  · walk_at "go"
    exact hV v H' ho hv s
  · refine ⟨false, T.e_BadMessage_BadField, (fun h => nomatch h), fun _ => hEm ho d2 H1 s1 fd⟩
  · refine ⟨true, T.e_BadField_BadField, fun _ a fa => ?_, fun h => nomatch h⟩
    have e1 := fldO_nm hO ho
    subst e1
    have s2 : Same H (upd H1 d2 (.xd [("name", .str n2)])) := s1.trans (same_new fd _)
    have hm2 := s2 _ _ hm
    have hd2 := s2 _ _ hdf
    generalize upd H1 d2 (.xd [("name", .str n2)]) = H2 at s2 hm2 hd2 fa ⊢
    walk_at "go"
    intro d3 fd3
    exact hEf n2 ho d3 _ s2 fd3
end
end K17

set_option Elab.async false
set_option linter.all false
set_option maxRecDepth 100000
set_option maxHeartbeats 0

namespace K17
open PySem PySem.Spec PyProof.Rows L2 RC
section
variable {P : Program} {w : World} {K : PySem.W.Frag} {mg : Str → Option Value} {base : Heap}
/-! ### a record formatted -/
/-- a part of a formatter: a text, or a plain field of a name -/
inductive PtA (K : PySem.W.Frag) (H : Hp) : Str ⊕ Str → V → Prop
  | txt (z : Str) : PtA K H (.inl z) (.str z)
  | fld {q dx : Addr} {n : Str} : H q = some (.ins (CFd K) dx (fdP n)) → PtA K H (.inr n) (.ref q)
def PtsA (K : PySem.W.Frag) (H : Hp) (ps : List (Str ⊕ Str)) (vs : List V) : Prop := ps.length = vs.length ∧ ∀ (i : Nat) (p : Str ⊕ Str) (v : V), ps[i]? = some p → vs[i]? = some v → PtA K H p v
theorem PtA.same {H H' : Hp} (s : Same H H') : ∀ {p : Str ⊕ Str} {v : V}, PtA K H p v → PtA K H' p v
  | _, _, .txt z => .txt z
  | _, _, .fld h => .fld (s _ _ h)
theorem PtsA.same {H H' : Hp} (s : Same H H') {ps : List (Str ⊕ Str)} {vs : List V} (h : PtsA K H ps vs) : PtsA K H' ps vs := ⟨h.1, fun i p v hp hv => (h.2 i p v hp hv).same s⟩
/-- a formatter of these parts stands at m -/
def FmAt (K : PySem.W.Frag) (H : Hp) (m : Addr) (ps : List (Str ⊕ Str)) : Prop := ∃ (dm t df : Addr) (z : Str) (vs : List V), H m = some (.ins (CFm K) dm (fmF z t df)) ∧ H df = some (.dK []) ∧ H t = some (.tup vs) ∧ PtsA K H ps vs
theorem FmAt.same {H H' : Hp} (s : Same H H') {m : Addr} {ps : List (Str ⊕ Str)} (h : FmAt K H m ps) : FmAt K H' m ps := by
  obtain ⟨dm, t, df, z, vs, h1, h2, h3, h4⟩ := h
  exact ⟨dm, t, df, z, vs, s _ _ h1, s _ _ h2, s _ _ h3, h4.same s⟩
def TxO.pre (s : SS) : TxO → TxO
  | .tx t => .tx (s ++ t)
  | .msg => .msg
  | .fld n => .fld n
theorem TxO.pre_app (a b : SS) : ∀ o : TxO, (o.pre b).pre a = o.pre (a ++ b)
  | .tx t => congrArg TxO.tx (List.append_assoc a b t).symm
  | .msg => rfl
  | .fld _ => rfl
/-- what is written of parts, or the first error -/
inductive FmO (d : Rc) : List (Str ⊕ Str) → TxO → Prop
  | nil : FmO d [] (.tx [])
  | txt {z : Str} {r : List (Str ⊕ Str)} {o : TxO} : FmO d r o → FmO d (.inl z :: r) (o.pre z.cps.toList)
  | val {n : Str} {r : List (Str ⊕ Str)} {t : SS} {o : TxO} : FldO d n (.tx t) → FmO d r o → FmO d (.inr n :: r) (o.pre t)
  | msg {n : Str} {r : List (Str ⊕ Str)} : FldO d n .msg → FmO d (.inr n :: r) .msg
  | fld {n n2 : Str} {r : List (Str ⊕ Str)} : FldO d n (.fld n2) → FmO d (.inr n :: r) (.fld n2)
/-- no part is longer than 1000, nor are there more than 100; no field is the time -/
def PsOk (ps : List (Str ⊕ Str)) : Prop := ps.length ≤ 50 ∧ (∀ z : Str, Sum.inl z ∈ ps → z.length ≤ 1000) ∧ ∀ n : Str, Sum.inr n ∈ ps → n ≠ "asctime"
def TxtO (K : PySem.W.Frag) (H : Hp) (Q : VK) (E : XK) (d : Rc) (o : TxO) : Prop := (∀ (t : SS) (H' : Hp), o = .tx t → t.length ≤ 12000000 → Same H H' → Q (.str (tx t)) H') ∧ (o = .msg → ErrM K H E d) ∧ (∀ nm, o = .fld nm → ErrF K H E nm)
def spFmFormatted (K : PySem.W.Frag) : Sp := fun vs H Q E => ∃ (m r : Addr) (ps : List (Str ⊕ Str)) (d : Rc) (o : TxO), vs = [.ref m, .ref r] ∧ FmAt K H m ps ∧ PsOk ps ∧ RcAt K H r d ∧ d.Ok ∧ FmO d ps o ∧ TxtO K H Q E d o
theorem valT_argS {v : V} (h : VOk v) : (valT v).cps.toList = argS v ∧ (valT v).length ≤ 1000000 ∧ ∃ z, valT v = z := by
  rcases h with ⟨z, rfl, hz⟩ | ⟨i, rfl, hi⟩
  · exact ⟨rfl, hz, _, rfl⟩
  · refine ⟨rfl, ?_, _, rfl⟩
    have h1 := RN.len_toString i
    have h64 : i.natAbs.log2 < 63 := by
      by_cases c : i.natAbs = 0
      · rw [c]; decide
      · exact (Nat.log2_lt c).mpr hi
    show (Str.ofString (toString i)).length ≤ _
    omega
theorem fldO_len {d : Rc} {n : Str} {t : SS} (hok : d.Ok) (h : FldO d n (.tx t)) : t.length ≤ 210000 := by
  cases h with
  | msgT _ h => have := msgO_len h hok; omega
  | @val v _ h hm =>
    obtain ⟨_, _, e⟩ := fval_own hok h hm 0
    have n1 := hok.nm
    have n2 := hok.lnl
    have n3 := hok.ms
    have n4 := hok.ck
    have n5 := hok.l
    simp only [List.mem_cons, List.not_mem_nil, or_false] at hm
    have len : ∀ z : Str, (argS (.str z)).length = z.length := fun z => Array.length_toList ..
    have leni : ∀ i : Int, i.natAbs < 2 ^ 63 → (argS (.int i)).length ≤ 210000 := fun i hi => by
      have h1 := RN.len_toString i
      have h64 : i.natAbs.log2 < 63 := by
        by_cases c : i.natAbs = 0
        · rw [c]; decide
        · exact (Nat.log2_lt c).mpr hi
      have h3 : (argS (.int i)).length = (Str.ofString (toString i)).length := Array.length_toList ..
      omega
    rcases hm with rfl | rfl | rfl | rfl | rfl | rfl
    · have h' : some (V.str d.name) = some v := h
      cases h'; rw [len]; omega
    · have h' : some (V.int d.lv) = some v := h
      cases h'; exact leni _ n5
    · have h' : some (V.str d.ln) = some v := h
      cases h'; rw [len]; omega
    · have h' : some (V.str d.msg) = some v := h
      cases h'; rw [len]; omega
    · have h' : some (V.int d.clk) = some v := h
      cases h'; exact leni _ n4
    · have h' : some (V.int (d.clk % 1000)) = some v := h
      cases h'; exact leni _ (by omega)
theorem ErrM.same {H H' : Hp} {E : XK} {d : Rc} (s : Same H H') (h : ErrM K H E d) : ErrM K H' E d := fun dx H1 s1 => h dx H1 (s.trans s1)
theorem ErrF.same {H H' : Hp} {E : XK} {nm : Str} (s : Same H H') (h : ErrF K H E nm) : ErrF K H' E nm := fun dx H1 s1 => h dx H1 (s.trans s1)
/-- what holds in the loop over the parts -/
structure FInv (H : Hp) (m r p : Addr) (ps : List (Str ⊕ Str)) (d : Rc) (o : TxO) (i : Nat) (σ : L2.St) (H' : Hp) : Prop where
  same : Same H H'
  ex : ∃ (ws : List Str) (o' : TxO) (a : Option V), H' p = some (.lst (ws.map V.str)) ∧ ws.length = i ∧ (catS ws).length ≤ 210000 * i ∧ FmO d (ps.drop i) o' ∧ o = o'.pre (catS ws) ∧ σ = [some (.ref m), some (.ref r), some (.ref p), a]
theorem ok_fm_formatted {f : Addr} (T : Txt P w K mg) (F : Stands K "formatted" "Formatter.formatted" s_Formatter_formatted [] f) (c_Formatter_value_of : RQ.CallX P w K mg base 7 (He.ma K (He.ga K "Formatter") "value_of") ["self", "name", "record"] [] (spValueOf K))
    (c_Field_written : Callable P w K mg base 3 (He.ma K (He.ga K "Field") "written") ["self", "value"] [] (spWritten K)) : RQ.CallX P w K mg base 8 f ["self", "record"] [] (spFmFormatted K) := by
  refine RQ.stands_callX0 F sc_Formatter_formatted (fun vs H Q E h => ?_) (fun cdv A outer s H vs Q E hr h => ?_) (fun _ _ _ _ _ _ us hl => match us, hl with | [_, _], _ => rfl)
  · obtain ⟨m, r, ps, d, o, rfl, _⟩ := h; rfl
  obtain ⟨m, r, ps, d, o, rfl, hFm, hps, hR, hok, hO, hQ, hEm, hEf⟩ := h
  obtain ⟨dm, t, df, z, vs, hm, hdf, ht, hpl, hpt⟩ := id hFm
  refine ⟨_, (pss_cons (ps_set (i := 2) sc_Formatter_formatted.nd rfl (by first | exact Or.inl rfl | exact Or.inr rfl) (pe_lst pa_nil))
      (pss_cons (ps_for (passes_of rfl) rfl (pi_tup (pe_fld (pv 0) rfl)) (pg_name (i := 3) sc_Formatter_formatted.nd rfl (by first | exact Or.inl rfl | exact Or.inr rfl)) (pss_one (ps_expr (pe_bm PySem.F.plainAttrs_list PySem.F.slot_list_append PySem.F.type_list_append mt_append (pv 2) (pa_cons (pe_ifExp (pt_val (pe_callB call_isi (by rfl) T.b_isinstance (by decide +kernel) (pa_cons (pv 3) (pa_cons (pe_bltn (v := .ty "str") (u := .type "str") (by rfl) T.b_str (by decide +kernel) rfl) pa_nil)))) (pv 3) (pe_mt T.c_Field T.m_Field_written c_Field_written (hr.mono (by first | decide | exact Nat.le_refl _)) (pv 3) (pa_cons (RQ.pe_mtX (takes_of rfl rfl rfl rfl) T.c_Formatter T.m_Formatter_value_of c_Formatter_value_of (hr.mono (by first | decide | exact Nat.le_refl _)) (pv 0) (pa_cons (pe_fld (pv 3) rfl) (pa_cons (pv 1) pa_nil))) pa_nil))) pa_nil)))))
      (pss_one (ps_ret (pe_join pe_str (pv 2)))))), ?_⟩
  dsimp only [cxK2]
  walk_at "go"
  intro p fp
  walk_at "go"
  refine for_it (walk_tup (xs := vs)) (FInv H m r p ps d o) ⟨same_new fp _, [], o, _, upd_same, rfl, Nat.zero_le _, hO, by cases o <;> rfl, rfl⟩ (fun i σ H' _ h => SqT.of (h.same _ _ ht)) (fun i x σ H0 H1 hi hP hy => ?_) (fun σ H1 hP => ?_)
  · obtain ⟨rfl, hy⟩ := hy
    obtain ⟨s1, ws, o', a, hp1, hw, hcl, hO', ho, rfl⟩ := hP
    obtain ⟨part, hpart⟩ : ∃ part, ps[i]? = some part := ⟨_, List.getElem?_eq_getElem (by rw [hpl]; exact hi)⟩
    have hdr : ps.drop i = part :: ps.drop (i + 1) := by
      obtain ⟨h1, h2⟩ := List.getElem?_eq_some_iff.mp hpart
      rw [← h2]; exact List.drop_eq_getElem_cons h1
    have hpm := List.mem_of_getElem? hpart
    rw [hdr] at hO'
    have hA := hpt i part x hpart hy
    have l50 := hps.1
    have hsz : (ws.map V.str).length < sizeLine := by rw [List.length_map, sizeLine_eq]; omega
    have next : ∀ (w : Str) (o2 : TxO) (H2 : Hp) (a2 : Option V), w.length ≤ 210000 → Same H1 H2 → FmO d (ps.drop (i + 1)) o2 → o = o2.pre (catS ws ++ w.cps.toList) → FInv H m r p ps d o (i + 1) [some (.ref m), some (.ref r), some (.ref p), a2] (upd H2 p (.lst (ws.map V.str ++ [.str w]))) := fun w o2 H2 a2 h1 s2 h3 h4 =>
      ⟨fun b v hb => (by rw [upd_ne (ne_of_none hb fp)]; exact s2 _ _ (s1 _ _ hb)), ws ++ [w], o2, a2, by rw [upd_same, List.map_append]; rfl, by rw [List.length_append, hw]; rfl, by
        have hw2 : w.cps.toList.length = w.length := Array.length_toList ..
        rw [catS_snoc, List.length_append, hw2]; omega, h3, by rw [catS_snoc]; exact h4, rfl⟩
    cases hA with
    | txt z =>
      cases hO' with
      | @txt _ _ o2 h3 =>
        have hz := hps.2.1 z hpm
        walk_at "go"
        exact next z o2 H1 _ (by omega) (Same.refl _) h3 (by rw [ho, TxO.pre_app])
    | @fld q dq n hq =>
      have hne := hps.2.2 n hpm
      have hq1 := s1 _ _ hq
      have hm1 := s1 _ _ hm
      have hdf1 := s1 _ _ hdf
      have hR1 : RcAt K H1 r d := RecAt.same hR s1
      have ky := T.kiy_Field_str
      have ty4 := RB.TyC.tyx T.ty_Field T.c_Field hq1
      obtain ⟨oF, hF, hf⟩ : ∃ oF, FldO d n oF ∧ ((∃ t o2, oF = .tx t ∧ FmO d (ps.drop (i + 1)) o2 ∧ o' = o2.pre t) ∨ ((∀ t, oF ≠ .tx t) ∧ o' = oF)) := by
        cases hO' with
        | @val _ _ t o2 h1 h2 => exact ⟨_, h1, .inl ⟨t, o2, rfl, h2, rfl⟩⟩
        | msg h1 => exact ⟨_, h1, .inr ⟨(fun t z => nomatch z), rfl⟩⟩
        | fld h1 => exact ⟨_, h1, .inr ⟨(fun t z => nomatch z), rfl⟩⟩
      walk_at "go"
      refine ⟨fun v H2 hv1 hv2 s2 => ?_, fun hv1 => ?_, fun n2 hv1 => ?_⟩
      · rcases hf with ⟨t, o2, rfl, h2, h3⟩ | ⟨h1, _⟩
        · have et : t = argS v := TxO.tx.inj hv1
          have hq2 := s2 _ _ hq1
          have hp2 := s2 _ _ hp1
          have ln := fldO_len hok hF
          walk_at "go"
          intro H3 s3
          have hp3 := s3 _ _ hp2
          obtain ⟨g1, g2, _⟩ := valT_argS hv2
          have hw2 : (valT v).cps.toList.length = (valT v).length := Array.length_toList ..
          walk_at "go"
          refine next (valT v) o2 H3 _ ?_ (s2.trans s3) h2 ?_
          · rw [← hw2, g1, ← et]; exact ln
          · rw [ho, h3, TxO.pre_app, g1, et]
        · exact absurd hv1 (h1 _)
      · subst hv1
        rcases hf with ⟨t, o2, h1, _⟩ | ⟨_, h1⟩
        · cases h1
        · exact (hEm (by rw [ho, h1]; rfl)).same s1
      · subst hv1
        rcases hf with ⟨t, o2, h1, _⟩ | ⟨_, h1⟩
        · cases h1
        · exact (hEf n2 (by rw [ho, h1]; rfl)).same s1
  · obtain ⟨s1, ws, o', a, hp1, hw, hcl, hO', ho, rfl⟩ := hP
    have l50 := hps.1
    rw [List.drop_eq_nil_of_le (by omega)] at hO'
    cases hO'
    have ho2 : o = .tx (catS ws) := by rw [ho]; exact congrArg TxO.tx (List.append_nil _)
    walk_at "go"
    refine ⟨⟨_, rfl⟩, _, rfl, "", p, ws, rfl, rfl, .inl (SqL.of hp1), ?_, ?_⟩
    · rw [catS_len]; show _ + ws.length * 0 ≤ _; omega
    · rw [join_cat]; exact hQ _ _ ho2 (by omega) s1
end
end K17

set_option Elab.async false
set_option linter.all false
set_option maxRecDepth 100000
set_option maxHeartbeats 4000000
/-! A token is out: str.replace in a for; list(text); a list's item in an op=; a dict of the top asked. -/
namespace RT
open PySem PySem.Spec PyProof.Rows L2 RC
section
variable {X : Cx} {st : Stmt} {rest body : List Stmt} {t u : TS} {e f : Expr} {te : TE} {pos : Pos}
/-- x = e -/
theorem pst_set {i : Nat} {x : Str} {px : Pos} (hN : X.N.Nodup) (hi : X.N[i]? = some x) (hx : Loc X.env.scope x) (he : PET X e te) (hs : swapsWith e (some (.Name x px)) pos.line X.env = pure false := by rfl)
    (hf : X.fn x = true ∨ X.env.scope.names.lookup x = some .local := by first | exact .inl rfl | exact .inr rfl | assumption) : PST X (.Assign [.Name x px] e pos) (tAsg te (gName i)) := by
  intro pins s σ H D h0 I h
  refine wpAny_Assign_Name (thn (he pins s σ H _ h0 I h) fun v sA ⟨y, HA, IA, rA, qA⟩ => ?_) hs
  exact store_ok IA hN hi hx rA (fun sB IB => ⟨_, HA, IB, qA⟩) hf
/-- x, y = 'a', 'b': a token is out behind it -/
theorem pss_parS {i j k1 k2 : Nat} {x y c d : Str} {px py pt pc pd pu : Pos} {kt kt2} (hc : X.calm = true) (hN : X.N.Nodup) (hi : X.N[i]? = some x) (hj : X.N[j]? = some y) (hij : i ≠ j)
    (hx : X.env.scope.names.lookup x = some .local) (hy : X.env.scope.names.lookup y = some .local) (hr : PSsT X rest u)
    (hw : swappedStores [.Tuple [.Name x px, .Name y py] kt pt] (.Tuple [.Constant (.str c) k1 pc, .Constant (.str d) k2 pd] kt2 pu) X.env = pure (some [x, y]))
    (hs : swapsWithSole [.Tuple [.Name x px, .Name y py] kt pt] (.Tuple [.Constant (.str c) k1 pc, .Constant (.str d) k2 pd] kt2 pu) pos.line X.env = pure false := by rfl) :
    PSs X (.Assign [.Tuple [.Name x px, .Name y py] kt pt] (.Tuple [.Constant (.str c) k1 pc, .Constant (.str d) k2 pd] kt2 pu) pos :: rest) (tSeq (tPar i j (tCons (tC (.str c)) (tCons (tC (.str d)) tNil))) u) := by
  refine ⟨fun pins s σ H D I h => ?_⟩
  have h : u D ((σ.set i (some (.str c))).set j (some (.str d))) H := by
    obtain ⟨v, w, e1, q⟩ := h
    cases e1
    exact q
  refine wpAny_execs_cons ?_
  rw [exec_Assign_arm]
  refine wpAny_bind (wpAny_standAt ?_)
  rw [hs]
  refine wpAny_bind (wpAny_pure ?_)
  rw [if_neg (by decide)]
  refine wpAny_bind (Tuple_ (Calls.spliced_cons (Calls.Constant_str (k := k1) (pos := pc) (Calls.spliced_cons (Calls.Constant_str (k := k2) (pos := pd) (Calls.spliced_nil ?_))))))
  have tA : 1 ≤ ({ s with toks := s.toks + 1 + 1 } : Shared).toks := by show 1 ≤ s.toks + 1 + 1; omega
  have I1 : Inv X pins σ H { s with toks := s.toks + 1 + 1 } := I.tok _
  refine wpAny_newObj_type ?_ (by show 2 ≤ sizeLine; decide)
  generalize hsA : ({ s with toks := s.toks + 1 + 1 } : Shared) = sA at I1 tA ⊢
  have I2 := I1.kept (t' := sA.toks) (h' := sA.heap.push { cls := .type "tuple", data := .seq [Value.str c s.toks, Value.str d (s.toks + 1)].toArray }) fun b o q => Heap.get?_push_of_some _ q
  rw [hw]
  refine wpAny_bind (wpAny_pure ?_)
  show wpAny (model X.prog X.w) X.A (do rule "assign.swapped-stores"; let its ← unpackItems (.ref sA.heap.objs.size) 2 none; assignInOrder [fun v => bindName X.env y v, fun v => bindName X.env x v] its.reverse; pure Flow.next) _ _ _
  refine wpAny_with_toks (n := 1) tA ?_
  refine wpAny_bind (wpAny_rule (wpAny_bind (unpackItems_tuple (items := #[Value.str c s.toks, Value.str d (s.toks + 1)]) (I.ok.hd hc) (IsTup.new sA.heap _) fun hB kB => ?_)))
  have I3 := I2.kept (h' := hB) (t' := sA.toks) fun b o q => kB b o (Nat.ne_of_lt (Heap.lt_size q)) q
  refine wpAny_bind (assignInOrder_cons (wpAny_bindName (store_ok I3 hN hj (.inl hy) (v := .str d) ⟨_, rfl⟩ (fun s2 I4 => ?_) (.inr hy))))
  refine assignInOrder_cons (wpAny_bindName (store_ok I4 hN hi (.inl hx) (v := .str c) ⟨_, rfl⟩ (fun s3 I5 => assignInOrder_nil (wpAny_pure ?_)) (.inr hx)))
  rw [List.set_comm _ _ (Ne.symm hij)] at I5
  intro h1
  exact hr pins s3 _ H D h1 I5 h
/-- x, y = 'a', 'b', a folded pair: a token is out behind it -/
theorem pss_parC {c d : Str} {k1 k2 kt2 : Nat} {pc pd pu : Pos} {tg : Expr} {g : TG} (hg : PG X tg g) (hr : PSsT X rest u)
    (hw : swappedStores [tg] (.Tuple [.Constant (.str c) k1 pc, .Constant (.str d) k2 pd] kt2 pu) X.env = pure none := by rfl)
    (hs : swapsWithSole [tg] (.Tuple [.Constant (.str c) k1 pc, .Constant (.str d) k2 pd] kt2 pu) pos.line X.env = pure false := by rfl)
    (he : (assignEach [tg] X.env).map (·.2) = [assign tg X.env] := by rfl) :
    PSs X (.Assign [tg] (.Tuple [.Constant (.str c) k1 pc, .Constant (.str d) k2 pd] kt2 pu) pos :: rest) (tSeq (tAsg (tTup (tCons (tC (.str c)) (tCons (tC (.str d)) tNil))) g) u) := by
  refine ⟨fun pins s σ H D I h => ?_⟩
  refine wpAny_execs_cons ?_
  refine wpAny_Assign_stores ?_ hs hw
  refine Tuple_ (Calls.spliced_cons (Calls.Constant_str (k := k1) (pos := pc) (Calls.spliced_cons (Calls.Constant_str (k := k2) (pos := pd) (Calls.spliced_nil ?_)))))
  have tA : 1 ≤ ({ s with toks := s.toks + 1 + 1 } : Shared).toks := by show 1 ≤ s.toks + 1 + 1; omega
  have I1 : Inv X pins σ H { s with toks := s.toks + 1 + 1 } := I.tok _
  refine wpAny_newObj_type ?_ (by show 2 ≤ sizeLine; decide)
  generalize hsA : ({ s with toks := s.toks + 1 + 1 } : Shared) = sA at I1 tA ⊢
  have h : 2 ≤ sizeLine ∧ ∀ a, H a = none → g (.ref a) σ (upd H a (.tup [.str c, .str d])) (u D) := h
  have hf : H sA.heap.objs.size = none := I1.hok.fresh (Nat.le_refl _)
  have I2 := I1.laid (t' := sA.toks) (h' := sA.heap.push { cls := .type "tuple", data := .seq [Value.str c s.toks, Value.str d (s.toks + 1)].toArray }) (a := sA.heap.objs.size) (o := .tup [.str c, .str d]) (fun b u e => Heap.get?_push_of_some _ e) (Nat.le_refl _)
    ⟨by show 2 ≤ sizeLine; decide, [Value.str c s.toks, Value.str d (s.toks + 1)], .cons ⟨_, rfl⟩ (.cons ⟨_, rfl⟩ .nil), ⟨_, Heap.get?_push_size _ rfl, rfl, _, rfl⟩⟩
  rw [he]
  refine wpAny_mono (wpAny_toks_of tA (hg.run pins _ σ _ (.ref sA.heap.objs.size) (.ref sA.heap.objs.size) _ I2 rfl (h.2 _ hf))) (fun _ s2 ⟨t2, σ2, H2, I3, q3⟩ => ?_) (fun _ _ z => z.2)
  exact hr pins s2 σ2 H2 D t2 I3 q3
/-- for, the body where a token is out -/
theorem pst_forT {tg iter : Expr} {wi : TI} {g : TG} {tb : TS} (hp : PassesOwn (model X.prog X.w) X.A X.env X.xe) (hc : X.calm = true) (hi : PI X tg iter wi) (hg : PG X tg g) (hb : PSsT X body tb)
    (hs : ∀ x, foldedSetIterable iter X.env x = pure x := by intro _; rfl) : PST X (.For tg iter body [] pos) (tFor wi g tb) := by
  intro pins s σ H D h0 I h
  refine wpAny_For (wpAny_mono (wpAny_toks_of h0 (hi.run pins s σ H _ I h)) (fun v s1 ⟨t1, h1⟩ => wpAny_mono (wpAny_toks_of t1 h1) (fun itv s2 ⟨t2, h2⟩ => ?_) fun _ _ z => z.2) fun _ _ z => z.2) hs
  obtain ⟨it, fp, tn, J, H2, e, I2, T, st2, f2, W, ⟨m0, w0⟩, turn⟩ := h2
  subst e
  have stat : ∀ {HA : Hp}, (∀ b ∈ fp, HA b = none) → ∀ b ∈ fp, FpOk X pins HA b := fun hn b hb => ⟨hn b hb, (f2 b hb).2⟩
  refine codeAny_forLoop_any (fun n sA => 1 ≤ sA.toks ∧ ∃ i σA HA, Inv X pins σA HA sA ∧ tn i sA.heap ∧ (∀ b ∈ fp, HA b = none) ∧ W i n σA HA) ?_ m0 ⟨t2, 0, σ, H2, I2, st2, fun b hb => (f2 b hb).1, w0⟩
  rintro n s3 ⟨t3, i, σ3, H3, I3, st3, fr3, w3⟩
  rcases turn i n σ3 H3 w3 with ⟨stop, qn⟩ | ⟨go, N, hN, step⟩
  · refine wpAny_passesOwn hp (thn (T.done X rfl rfl rfl hc i pins s3 σ3 H3 X.xe I3 (stat fr3) st3 stop) fun r s4 ⟨hr, I4⟩ => ?_)
    subst hr
    exact wpAny_execs_nil ⟨σ3, H3, I4, qn⟩
  · refine wpAny_passesOwn hp (wpAny_mono (wpAny_toks_of t3 (T.item X rfl rfl rfl hc i pins s3 σ3 H3 X.xe I3 (stat fr3) st3 go)) (fun r s4 ⟨t4, u4, hr, h4⟩ => ?_) fun _ _ z => z.2)
    subst hr
    refine wpAny_passesOwn hp (wpAny_mono (wpAny_toks_of t4 h4) (fun _ s5 ⟨t5, x5, H5, I5, r5, y5, st5, fr5⟩ => ?_) fun _ _ z => z.2)
    have IP := I5.pinned (stat fr5) (T.obj _ _ st5)
    refine wpAny_passesOwn hp (wpAny_mono (wpAny_toks_of t5 (hg.run _ s5 σ3 H5 x5 u4 _ IP r5 (step x5 H5 y5))) (fun _ s6 ⟨t6, σ6, H6, I6, q6⟩ => ?_) fun _ _ z => z.2)
    refine wpAny_passesOwn hp (wpAny_mono (wpAny_toks_of t6 (hb _ s6 σ6 H6 _ t6 I6 q6)) (fun fl s7 ⟨t7, q7⟩ => ?_) fun _ _ z => z.2)
    have again : ∀ {σ7 : L2.St} {H7 : Hp}, Inv X (pins ++ pinsAt fp s5.heap) σ7 H7 s7 → N σ7 H7 → ∃ m, m < n ∧ 1 ≤ s7.toks ∧ ∃ i σA HA, Inv X pins σA HA s7 ∧ tn i s7.heap ∧ (∀ b ∈ fp, HA b = none) ∧ W i m σA HA := fun {σ7 H7} I7 n7 => by
      obtain ⟨m7, lt7, w7⟩ := hN σ7 H7 n7
      refine ⟨m7, lt7, t7, i + 1, σ7, H7, I7.unpinned, T.keep _ _ _ st5 fun b hb o eb => (I7.pin (b, o) (List.mem_append_right _ (List.mem_append_right _ (mem_pinsAt hb eb)))).1, fun b hb => ?_, w7⟩
      obtain ⟨o, eb, _⟩ := T.obj _ _ st5 b hb
      exact (I7.pin (b, o) (List.mem_append_right _ (List.mem_append_right _ (mem_pinsAt hb eb)))).2.1
    cases fl with
    | ret v =>
      obtain ⟨x7, σ7, H7, I7, r7, q8⟩ := q7
      exact ⟨x7, σ7, H7, I7.unpinned, r7, q8⟩
    | next =>
      obtain ⟨σ7, H7, I7, n7⟩ := q7
      exact again I7 n7
    | cont =>
      obtain ⟨σ7, H7, I7, n7⟩ := q7
      exact again I7 n7
    | brk =>
      obtain ⟨σ7, H7, I7, q8⟩ := q7
      exact ⟨σ7, H7, I7.unpinned, q8⟩
end
section
variable {X : Cx}
/-- z not in D, D a dict of the top, z a text -/
theorem op_notInKD {D : Addr} {kvs : List (Key × V)} (k : RB.KD X.prog X.w X.K D kvs) : OpR X (compareOp .NotIn) (fun x y H Q => ∃ z : Str, x = .str z ∧ y = .ref D ∧ Q (.bl (!(valV kvs (Sum.inr z)).isSome)) H) := by
  intro pins s σ H x y v u Q I rx ry h
  obtain ⟨z, rfl, rfl, q⟩ := h
  cases ry
  obtain ⟨vs, rel, dd⟩ := k.at_
  refine wpAny_notIn_of (kV_is (k := Sum.inr z) rx) k.low (dd _ I.kIn).mapOf ?_
  rw [← (rel.val (Sum.inr z)).isSome_eq]
  exact ⟨.bl _, H, I.tok _, rfl, q⟩
theorem op_inKD {D : Addr} {kvs : List (Key × V)} (k : RB.KD X.prog X.w X.K D kvs) : OpR X (compareOp .In) (fun x y H Q => ∃ z : Str, x = .str z ∧ y = .ref D ∧ Q (.bl (valV kvs (Sum.inr z)).isSome) H) := by
  intro pins s σ H x y v u Q I rx ry h
  obtain ⟨z, rfl, rfl, q⟩ := h
  cases ry
  obtain ⟨vs, rel, dd⟩ := k.at_
  refine wpAny_in_of (kV_is (k := Sum.inr z) rx) k.low (dd _ I.kIn).mapOf ?_
  rw [← (rel.val (Sum.inr z)).isSome_eq]
  exact ⟨.bl _, H, I.tok _, rfl, q⟩
/-- list(text) -/
theorem call_listS (hc : X.calm = true) : CallR X (.type "list") (fun xs H Q => ∃ z : Str, xs = [.str z] ∧ z.length ≤ 1000000 ∧ ∀ p, H p = none → Q (.ref p) (upd H p (.lst (z.cps.toList.map fun c => .str ⟨#[c]⟩)))) := by
  intro pins s σ H xs us Q I r q
  obtain ⟨z, ez, hz, q⟩ := q
  subst ez
  obtain ⟨u, eu, rx⟩ := vals1 r
  subst eu
  obtain ⟨t, et⟩ := rx
  subst et
  have z1 : z.cps.size ≤ sizeLine := by rw [sizeLine_eq]; exact Nat.le_trans hz (by decide)
  refine call_list_str (I.ok.hd hc) z t (fun h' tk acc c keep new items => ?_) z1
  have rel : Vals (z.cps.toList.map fun c => V.str ⟨#[c]⟩) acc.toList := by
    obtain ⟨hsz, hat⟩ := items
    refine vals_of_at (by rw [List.length_map, Array.length_toList, Array.length_toList]; exact hsz.symm) fun i v u hv hu => ?_
    rw [List.getElem?_map] at hv
    obtain ⟨c', hc', rfl⟩ := Option.map_eq_some_iff.mp hv
    obtain ⟨c2, u2, hc2, rfl⟩ := hat i u (by rw [← Array.getElem?_toList]; exact hu)
    rw [← Array.getElem?_toList, hc'] at hc2
    cases hc2
    exact ⟨u2, rfl⟩
  refine ⟨.ref s.heap.objs.size, _, I.laid (t' := tk) (o := .lst (z.cps.toList.map fun c => .str ⟨#[c]⟩)) keep (Nat.le_refl _) ?_, rfl, q _ (I.hok.fresh (Nat.le_refl _))⟩
  exact ⟨by rw [List.length_map, Array.length_toList]; exact z1, acc.toList, c, rel, by rw [Array.toArray_toList]; exact new⟩
/-- l[i], by values -/
theorem get_list : PGet X (rIxL X.K) := by
  intro pins s σ H o i ov iv Q I ro ri h
  obtain ⟨p, xs, n, z, rfl, rfl, hq, he, q⟩ := h
  cases ro
  obtain ⟨t, rfl⟩ := ri
  obtain ⟨its, r, pl, hz⟩ := I.list hq
  obtain ⟨j, h1, h2, h3, h4, h5⟩ := atI_get he
  obtain ⟨w, ew, rw'⟩ := r.get h2
  have hl := r.length
  have hn := line63
  by_cases h0 : 0 ≤ n
  · have hj : n.toNat = j := by
      rw [seqIndex_of h0 h5] at h1
      exact Option.some.inj h1
    exact wpAny_getItem_list pl.isList h0 (by omega) (by rw [hj]; simpa using ew) ⟨z, H, I, rw', q⟩
  · have hj : (n + (its.toArray.size : Int)).toNat = j := by
      rw [seqIndex_neg (by omega) h4] at h1
      rw [List.size_toArray, ← hl]
      exact Option.some.inj h1
    exact wpAny_getItem_list_neg pl.isList (by omega) (by rw [List.size_toArray] <;> omega) (by omega) (by rw [hj]; simpa using ew) ⟨z, H, I, rw', q⟩
end
section
variable {P : Program} {w : World} {K : PySem.W.Frag} {mg : Str → Option Value} {base : Heap} {x qual : Str} {f : Addr} {k : Nat} {N ps : List Str} {sp : Sp}
/-- a def with parameters and no cells: a token is out when its body begins -/
theorem call0T {st : Stmt} (F : Stands K x qual st [] f) (S : FnScope N ps (defScope st)) (hnc : ∀ y ∈ (defScope st).names, y.2 ≠ .cell) (hps : 1 ≤ ps.length) (len : ∀ vs H Q E, sp vs H Q E → vs.length = ps.length)
    (hbody : ∀ (cdv : Value) (A : Around) (outer : List Env) (s : Shared) (H : Hp) (vs : List V) (Q : VK) (E : XK), Room k (A.deeper (envOfC qual (defScope st) s.heap.objs.size f cdv)) → sp vs H Q E →
      ∃ t, PSsT (cxOf CX0 P w K mg base N qual (defScope st) f cdv A outer s H E) (defBody st) t ∧ t { nx := fun _ H' => Q .non H', rt := Q } (L2.start N vs) H)
    (h0 : ∀ (kV doc pm : Value) (an : Option Addr) (cdv ct : Value) (us : List Value), us.length = ps.length → bindArgs (PySem.W.fnOf x qual (defArgs st) (defBody st) (defScope st) .none kV doc pm an cdv ct) ⟨us, []⟩ = pure (ps.zip us)) :
    Callable P w K mg base (k + 1) f ps [] sp := by
  obtain ⟨fd, F⟩ := F
  have ok : FnOk P w K mg base CX0 (k + 1) f fd ps sp := by
    obtain ⟨oc, od, dV, kV, doc, pm, an, cdv, ct, osl, rfl, lk, hcd, _, _⟩ := F.ex
    exact fn_ofT lk hcd S hnc hps len fun A outer s H vs Q E hr hsp => hbody cdv A outer s H vs Q E hr hsp
  exact ⟨fd, [], ok, .nil, F.bindsN h0, F.kp⟩
end
end RT

set_option Elab.async false
set_option linter.all false
set_option maxRecDepth 100000
set_option maxHeartbeats 0

namespace K17
open PySem PySem.Spec PyProof.Rows L2 RC
section
variable {P : Program} {w : World} {K : PySem.W.Frag} {mg : Str → Option Value} {base : Heap}
/-! ### joined texts -/
def stepP (acc : List (Str ⊕ Str)) : PtT → List (Str ⊕ Str)
  | .inl c => match acc.getLast? with
    | some (.inl z) => acc.dropLast ++ [.inl (z ++ ⟨#[c]⟩)]
    | _ => acc ++ [.inl ⟨#[c]⟩]
  | .inr b => acc ++ [.inr (tx b)]
def joinP (ps : List PtT) : List (Str ⊕ Str) := ps.foldl stepP []
theorem snocCases {α : Type} : ∀ l : List α, l = [] ∨ ∃ L b, l = L ++ [b]
  | [] => .inl rfl
  | a :: r => match snocCases r with
    | .inl h => .inr ⟨[], a, by rw [h]; rfl⟩
    | .inr ⟨L, b, h⟩ => .inr ⟨a :: L, b, by rw [h]; rfl⟩
theorem PtsA.snoc {H : Hp} {ps : List (Str ⊕ Str)} {vs : List V} {p : Str ⊕ Str} {v : V} (h : PtsA K H ps vs) (a : PtA K H p v) : PtsA K H (ps ++ [p]) (vs ++ [v]) := by
  obtain ⟨h1, h2⟩ := h
  refine ⟨by rw [List.length_append, List.length_append, h1]; rfl, fun i x y hx hy => ?_⟩
  by_cases c : i < ps.length
  · rw [List.getElem?_append_left c] at hx
    rw [List.getElem?_append_left (by omega)] at hy
    exact h2 i x y hx hy
  · rw [List.getElem?_append_right (by omega)] at hx
    rw [List.getElem?_append_right (by omega), ← h1] at hy
    cases e : i - ps.length with
    | zero => rw [e] at hx hy; cases hx; cases hy; exact a
    | succ n => rw [e] at hx; cases hx
theorem PtsA.last {H : Hp} {L : List (Str ⊕ Str)} {ws : List V} {x : Str ⊕ Str} (h : PtsA K H (L ++ [x]) ws) : ∃ W v, ws = W ++ [v] ∧ PtsA K H L W ∧ PtA K H x v := by
  obtain ⟨h1, h2⟩ := h
  rcases snocCases ws with rfl | ⟨W, v, rfl⟩
  · rw [List.length_append] at h1; cases h1
  · rw [List.length_append, List.length_append] at h1
    have hl : L.length = W.length := Nat.succ.inj h1
    refine ⟨W, v, rfl, ⟨hl, fun i p u hp hu => ?_⟩, h2 L.length x v (by rw [List.getElem?_append_right (Nat.le_refl _), Nat.sub_self]; rfl) (by rw [List.getElem?_append_right (by omega), hl, Nat.sub_self]; rfl)⟩
    have l1 := (List.getElem?_eq_some_iff.mp hp).1
    exact h2 i p u (by rw [List.getElem?_append_left l1]; exact hp) (by rw [List.getElem?_append_left (by omega)]; exact hu)
theorem PtA.to {H H' : Hp} (h : ∀ (q dx : Addr) (fs : List (Str × V)), fs.length = 5 → H q = some (.ins (CFd K) dx fs) → H' q = some (.ins (CFd K) dx fs)) : ∀ {p : Str ⊕ Str} {v : V}, PtA K H p v → PtA K H' p v
  | _, _, .txt z => .txt z
  | _, _, .fld e => .fld (h _ _ _ rfl e)
theorem PtsA.to {H H' : Hp} (h : ∀ (q dx : Addr) (fs : List (Str × V)), fs.length = 5 → H q = some (.ins (CFd K) dx fs) → H' q = some (.ins (CFd K) dx fs)) {ps : List (Str ⊕ Str)} {vs : List V} (a : PtsA K H ps vs) : PtsA K H' ps vs := ⟨a.1, fun i p v hp hv => (a.2 i p v hp hv).to h⟩
theorem joinP_snoc (ps : List PtT) (x : PtT) : joinP (ps ++ [x]) = stepP (joinP ps) x := by unfold joinP; rw [List.foldl_append]; rfl
def Short (acc : List (Str ⊕ Str)) (n : Nat) : Prop := acc.length ≤ n ∧ ∀ z : Str, Sum.inl z ∈ acc → z.length ≤ n
def spJoined (K : PySem.W.Frag) : Sp := fun vs H Q _ => ∃ (p : Addr) (xs : List V) (ps : List PtT) (G : Hp), vs = [.ref p] ∧ H p = some (.lst xs) ∧ PtsV K G ps xs ∧ xs.length ≤ 1000 ∧ Same G H ∧
  ∀ (t : Addr) (ws : List V) (H' : Hp), Same H H' → H t = none → H' t = some (.tup ws) → PtsA K G (joinP ps) ws → Q (.ref t) H'
structure JInv (K : PySem.W.Frag) (H G : Hp) (p q : Addr) (ps : List PtT) (i : Nat) (σ : L2.St) (H' : Hp) : Prop where
  same : Same H H'
  ex : ∃ (ws : List V) (a : Option V), H' q = some (.lst ws) ∧ PtsA K G (joinP (ps.take i)) ws ∧ Short (joinP (ps.take i)) i ∧ σ = [some (.ref p), some (.ref q), a]
theorem ok_joined {f : Addr} (T : Txt P w K mg) (F : Stands K "joined_texts" "joined_texts" s_joined_texts [] f) : Callable P w K mg base 1 f ["parts"] [] (spJoined K) := by
  refine F.call0 sc_joined_texts (fun vs H Q E h => ?_) (fun cdv A outer s H vs Q E hr h => ?_) (fun _ _ _ _ _ _ us hl => match us, hl with | [_], _ => rfl)
  · obtain ⟨p, xs, ps, G, rfl, _⟩ := h; rfl
  obtain ⟨p, xs, ps, G, rfl, hp, hps, hxl, hG, hQ⟩ := h
  refine ⟨_, (pss_cons (ps_set (i := 1) sc_joined_texts.nd rfl (by first | exact Or.inl rfl | exact Or.inr rfl) (pe_lst pa_nil))
      (pss_cons (ps_for PassesOwn.never rfl (pi_list (pv 0)) (pg_name (i := 2) sc_joined_texts.nd rfl (by first | exact Or.inl rfl | exact Or.inr rfl)) (pss_one (ps_if (PW.pt (pw_and (pt_val (pe_callB call_isi (by rfl) T.b_isinstance (by decide +kernel) (pa_cons (pv 2) (pa_cons (pe_bltn (v := .ty "str") (u := .type "str") (by rfl) T.b_str (by decide +kernel) rfl) pa_nil)))) (pw_and (pt_cmpR (RY.op_neE (Nat.lt_of_succ_lt (hu_of hr))) (pv 1) (pe_lst pa_nil) (nomark _)) (pw_and1 (pt_val (pe_callB call_isi (by rfl) T.b_isinstance (by decide +kernel) (pa_cons (pe_ix ix_list (pv 1) (pe_un un_neg pe_int) (fun _ _ => rfl)) (pa_cons (pe_bltn (v := .ty "str") (u := .type "str") (by rfl) T.b_str (by decide +kernel) rfl) pa_nil)))))))) (pss_one (ps_augS (pv 1) (pe_un un_neg pe_int) RT.get_list (pv 2) iop_add_str set_list)) (pss_one (ps_expr (pe_bm PySem.F.plainAttrs_list PySem.F.slot_list_append PySem.F.type_list_append mt_append (pv 1) (pa_cons (pv 2) pa_nil)))))))
      (pss_one (ps_ret (pe_callTy call_tuple_of (by rfl) T.b_tuple (by decide +kernel) (pa_cons (pv 1) pa_nil)))))), ?_⟩
  walk_at "in"
  walk_at "go"
  intro q fq
  walk_at "go"
  refine for_it (walk_list (xs := xs)) (JInv K H G p q ps) ⟨same_new fq _, [], _, upd_same, ⟨rfl, fun _ _ _ h => nomatch h⟩, ⟨Nat.le_refl _, fun _ h => nomatch h⟩, rfl⟩ (fun i σ H' _ h => SqL.of (h.same _ _ hp)) (fun i v σ H0 H2 hi hP hx => ?_) (fun σ H2 hP => ?_)
  · obtain ⟨rfl, hx⟩ := hx
    obtain ⟨s2, ws, a, hq, hA, hS, rfl⟩ := hP
    obtain ⟨x, gx, hpx⟩ := hps.get hx
    have hil : i < xs.length := (List.getElem?_eq_some_iff.mp hx).1
    have hwl := hA.1
    have hS1 := hS.1
    have hwz : ws.length < sizeLine := by rw [sizeLine_eq]; omega
    have ej : joinP (ps.take (i + 1)) = stepP (joinP (ps.take i)) x := by rw [take_more gx, joinP_snoc]
    have ky := T.kiy_Field_str
    have next : ∀ (H4 : Hp) (acc' : List (Str ⊕ Str)) (ws' : List V) (a2 : Option V), Same H2 H4 → stepP (joinP (ps.take i)) x = acc' → PtsA K G acc' ws' → Short acc' (i + 1) → JInv K H G p q ps (i + 1) [some (.ref p), some (.ref q), a2] (upd H4 q (.lst ws')) := fun H4 acc' ws' a2 s4 e h2 h3 =>
      ⟨fun b u hb => (by rw [upd_ne (ne_of_none hb fq)]; exact s4 _ _ (s2 _ _ hb)), ws', a2, upd_same, by rw [ej, e]; exact h2, by rw [ej, e]; exact h3, rfl⟩
    generalize joinP (ps.take i) = acc at hA hS hwl hS1 next
    have hS2 := hS.2
    have bnd : ∀ {y : Str ⊕ Str}, (∀ z, y = .inl z → z.length ≤ i + 1) → Short (acc ++ [y]) (i + 1) := fun {y} hy => ⟨by rw [List.length_append]; show acc.length + 1 ≤ _; omega, fun z hz => by
      rcases List.mem_append.mp hz with h | h
      · exact Nat.le_succ_of_le (hS.2 z h)
      · exact hy z (List.mem_singleton.mp h).symm⟩
    cases x with
    | inl c =>
      obtain rfl : v = .str ⟨#[c]⟩ := hpx
      have hc1 : (⟨#[c]⟩ : Str).length = 1 := rfl
      rcases snocCases acc with rfl | ⟨L, y, rfl⟩
      · have e0 : ws = [] := List.length_eq_zero_iff.mp hwl.symm
        subst e0
        have t2 : (!([] : List V).isEmpty) = false := rfl
        walk_at "go"
        intro r fr
        have s4 := same_new fr (.lst [])
        have hq4 := s4 _ _ hq
        have hr4 : (upd H2 r (.lst [])) r = some (.lst []) := upd_same
        generalize upd H2 r (.lst []) = H4 at s4 hq4 hr4
        walk_at "go"
        exact next H4 _ _ _ s4 rfl (hA.snoc (.txt _)) (bnd fun z e => by cases e; rw [hc1]; omega)
      · obtain ⟨W, u, rfl, hW, hu⟩ := hA.last
        cases hu with
        | txt y =>
          have hy3 : y.length ≤ i := hS2 y (by simp)
          have t2 : (!(W ++ [V.str y]).isEmpty) = true := by simp
          have hat : atI (W ++ [V.str y]) (-1) = some (V.str y) := atI_last _ _
          have hix : ixN (W ++ [V.str y]).length (-1) = some W.length := by
            rw [List.length_append]; unfold ixN; simp; omega
          have hy2 : y.length + (⟨#[c]⟩ : Str).length ≤ sizeLine := by rw [sizeLine_eq, hc1]; omega
          walk_at "go"
          intro r fr
          have s4 := same_new fr (.lst [])
          have hq4 := s4 _ _ hq
          have hr4 : (upd H2 r (.lst [])) r = some (.lst []) := upd_same
          generalize upd H2 r (.lst []) = H4 at s4 hq4 hr4
          walk_at "go"
          have es : (W ++ [V.str y]).set W.length (V.str (y ++ ⟨#[c]⟩)) = W ++ [V.str (y ++ ⟨#[c]⟩)] := by simp [List.set_append]
          rw [es]
          refine next H4 (L ++ [.inl (y ++ ⟨#[c]⟩)]) _ _ s4 (by unfold stepP; simp) (hW.snoc (.txt _)) ⟨by rw [List.length_append] at hS1 ⊢; exact Nat.le_succ_of_le hS1, fun z hz => ?_⟩
          rcases List.mem_append.mp hz with h | h
          · exact Nat.le_succ_of_le (hS2 z (List.mem_append_left _ h))
          · cases List.mem_singleton.mp h
            rw [len_add, hc1]; omega
        | @fld q2 dx2 n2 hq2 =>
          have t2 : (!(W ++ [V.ref q2]).isEmpty) = true := by simp
          have hat : atI (W ++ [V.ref q2]) (-1) = some (V.ref q2) := atI_last _ _
          walk_at "go"
          intro r fr
          have s4 := same_new fr (.lst [])
          have hq4 := s4 _ _ hq
          have hr4 : (upd H2 r (.lst [])) r = some (.lst []) := upd_same
          have hq24 := s4 _ _ (s2 _ _ (hG _ _ hq2))
          generalize upd H2 r (.lst []) = H4 at s4 hq4 hr4 hq24
          have ty4 := RB.TyC.tyx T.ty_Field T.c_Field hq24
          walk_at "go"
          exact next H4 _ _ _ s4 (by unfold stepP; simp) (hA.snoc (.txt _)) (bnd fun z e => by cases e; rw [hc1]; omega)
    | inr n =>
      obtain ⟨q3, dx3, fs3, rfl, g3, l3, e3⟩ := hpx
      have g4 := s2 _ _ (hG _ _ g3)
      have ty4 := RB.TyC.tyx T.ty_Field T.c_Field g4
      walk_at "go"
      exact next H2 _ _ _ (Same.refl _) rfl (hA.snoc (.fld (by rw [← e3]; exact g3))) (bnd fun z e => nomatch e)
  · obtain ⟨s2, ws, a, hq, hA, hS, rfl⟩ := hP
    walk_at "go"
    refine .inl ⟨SqL.of hq, fun l fl => ?_⟩
    rw [List.take_of_length_le (by rw [hps.len]; exact Nat.le_refl _)] at hA
    exact hQ l ws _ (s2.trans (same_new fl _)) (s2.free fl) upd_same hA
end
end K17

set_option Elab.async false
set_option linter.all false
set_option maxRecDepth 100000
set_option maxHeartbeats 0

namespace K17
open PySem PySem.Spec PyProof.Rows L2 RC
section
variable {P : Program} {w : World} {K : PySem.W.Frag} {mg : Str → Option Value} {base : Heap}
/-! ### a formatter made -/
def tB : PtT → Bool
  | .inl _ => true
  | .inr _ => false
def spFmInit (K : PySem.W.Frag) : Sp := fun vs H Q _ => ∃ (p dx : Addr) (z : Str) (ps : List PtT), vs = [.ref p, .str z, .str "{", .bl true, .non] ∧ H p = some (.ins (CFm K) dx []) ∧ z.length ≤ 1000 ∧ PlB z.cps.toList ps ∧ ((ps.map tB).all id) = false ∧ (∀ H' : Hp, (∀ b u, b ≠ p → H b = some u → H' b = some u) → FmAt K (rst (fun b => H b ≠ none ∧ b ≠ p) H') p (joinP ps) → Q .non H')
theorem ok_fm_init {f : Addr} (T : Txt P w K mg) (F : Stands K "__init__" "Formatter.__init__" s_Formatter_init [.non, .str "{", .bl true, .non] f) (c_parts_of_braces : Callable P w K mg base 4 (He.ga K "parts_of_braces") ["fmt"] [] (spParts K)) (c_joined_texts : Callable P w K mg base 1 (He.ga K "joined_texts") ["parts"] [] (spJoined K)) : Callable P w K mg base 5 f ["self", "fmt", "style", "validate", "defaults"] [.str "{", .bl true, .non] (spFmInit K) := by
  refine F.call sc_Formatter_init 2 1 (fun vs H Q E h => ?_) (fun cdv A outer s H vs Q E hr h => ?_) (fun z => nomatch z) fun _ => ⟨rfl, fun _ _ _ _ _ _ _ us its hl hi => match us, hl, its, hi with | [_, _], _, [_, _, _, _], _ => ⟨_, rfl, rfl⟩⟩
  · obtain ⟨p, dx, z, ps, rfl, _⟩ := h; rfl
  obtain ⟨p, dx, z, ps, rfl, hp, hz, hP, hall, hQ⟩ := h
  refine ⟨_, (pss_cons (ps_if (PW.pt (pw_or (pt_not (pt_val (pe_callB call_isi (by rfl) T.b_isinstance (by decide +kernel) (pa_cons (pv 2) (pa_cons (pe_bltn (v := .ty "str") (u := .type "str") (by rfl) T.b_str (by decide +kernel) rfl) pa_nil))))) (pw_or1 (pt_cmpR (RT.op_notInKD T.t_MESSAGE_ALONE) (pv 2) (pe_glob (v := .ref _) (by rfl) T.g_MESSAGE_ALONE rfl) (by rfl))))) (pss_one ps_never) pss_nil)
      (pss_cons (ps_set (i := 5) sc_Formatter_init.nd rfl (by first | exact Or.inl rfl | exact Or.inr rfl) (pe_ifExp (pt_cmpR op_isN (pv 1) pe_non (nomark _)) pe_never (pv 1)))
      (pss_cons (ps_set (i := 6) sc_Formatter_init.nd rfl (by first | exact Or.inl rfl | exact Or.inr rfl) (pe_ifExp (pt_cmpR op_eq (pv 2) pe_str (nomark _)) (pe_fn T.g_parts_of_braces c_parts_of_braces (hr.mono (by first | decide | exact Nat.le_refl _)) (by rfl) (pa_cons (pv 5) pa_nil)) pe_never))
      (pss_cons (ps_if (PW.pt (pw_or (pt_cmpR op_isN (pv 6) pe_non (nomark _)) (pw_or1 (PW.pt (pw_and (pt_val (pv 3)) (pw_and1 (pt_val (pe_callB (cr_all rfl) (by rfl) T.b_all (by decide +kernel) (pa_cons (pe_lc (own := [("part", 7)]) (by rfl) sc_Formatter_init.nd (pi_list (pv 6)) (blkOk_by (own := [("part", 7)]) (N := nm_Formatter_init) (sc := defScope s_Formatter_init) (by decide +kernel)) (fun _ _ _ _ _ => (pg_name (i := 7) sc_Formatter_init.nd rfl (by first | exact Or.inl rfl | exact Or.inr rfl))) (fun _ _ _ _ _ => pts_nil) (fun _ _ _ _ _ => (pe_callB (callK (K := K) rIsi call_isi) (by rfl) T.b_isinstance (by decide +kernel) (pa_cons (pv 7) (pa_cons (pe_bltn (v := .ty "str") (u := .type "str") (by rfl) T.b_str (by decide +kernel) rfl) pa_nil))))) pa_nil))))))))) (pss_one ps_never) pss_nil)
      (pss_cons (ps_fld (pv 0) (pv 1) rfl)
      (pss_cons (ps_fld (pv 0) (pv 2) rfl)
      (pss_cons (ps_fld (pv 0) (pe_fn T.g_joined_texts c_joined_texts (hr.mono (by first | decide | exact Nat.le_refl _)) (by rfl) (pa_cons (pv 6) pa_nil)) rfl)
      (pss_one (ps_fld (pv 0) (pe_ifExp (pt_cmpR op_isN (pv 4) pe_non (nomark _)) pe_dnewK pe_never) rfl))))))))), ?_⟩
  walk_at "in"
  walk_at "go"
  intro vs q H' s1 fq hq hv hps
  have hp1 := s1 _ _ hp
  walk_at "go"
  intro D hD
  refine lc_it (walk_list (xs := vs)) (fun i H2 => Same H' H2 ∧ H2 D = some (.lst (((ps.take i).map tB).map V.bl))) ⟨same_new hD _, upd_same⟩ (fun i H2 _ h => SqL.of (h.1 _ _ hq)) (fun i x H3 H2 hi hP hy => ?_) (fun H2 h2 => ?_)
  · obtain ⟨rfl, hx⟩ := hy
    obtain ⟨g1, g2⟩ := hP
    obtain ⟨y, gy, hpy⟩ := hps.get hx
    have hN : Same (nw H H') H' := rst_same
    have ky := T.kiy_Field_str
    have hll : (((ps.take i).map tB).map V.bl).length < sizeLine := by
      have h1 : (ps.take i).length ≤ ps.length := by rw [List.length_take]; exact Nat.min_le_right _ _
      rw [List.length_map, List.length_map, sizeLine_eq]
      have := hps.len
      omega
    cases y with
    | inl c =>
      obtain rfl : x = .str ⟨#[c]⟩ := hpy
      walk_at "go"
      rw [upd_same, take_snoc gy, List.map_append, List.map_append]; rfl
    | inr n =>
      obtain ⟨q3, dx3, fs3, rfl, g3, l3, _⟩ := hpy
      have g4 := g1 _ _ (hN _ _ g3)
      have ty4 := RB.TyC.tyx T.ty_Field T.c_Field g4
      walk_at "go"
      rw [upd_same, take_snoc gy, List.map_append, List.map_append]; rfl
  · obtain ⟨g1, g2⟩ := h2
    rw [List.take_of_length_le (by rw [hps.len]; exact Nat.le_refl _)] at g2
    have hp4 := g1 _ _ hp1
    have hq4 := g1 _ _ hq
    walk_at "go"
    simp only [upd_upd]
    have hGx : ∀ o, Same (nw H H') (upd H2 p o) := fun o b u e => by
      have n1 : H b = none := nw_free e
      rw [upd_ne (fun z => by rw [z, hp] at n1; cases n1)]; exact g1 _ _ (rst_same _ _ e)
    refine ⟨hGx _, fun t ws H3 s3 ft ht hA => ?_⟩
    have hp3 := s3 _ _ upd_same
    walk_at "go"
    intro d fd
    walk_at "go"
    obtain ⟨fd1, fd2⟩ := upd_none fd
    obtain ⟨ft1, ft2⟩ := upd_none ft
    have ntd : t ≠ d := fun e => by rw [e, fd2] at ht; cases ht
    have up : ∀ b u, b ≠ p → H' b = some u → upd (upd (upd H3 p (.ins (CFm K) dx (putF "parts" (.ref t) (putF "style" (.str "{") (putF "fmt" (.str z) []))))) d (.dK [])) p (.ins (CFm K) dx (putF "defaults" (.ref d) (putF "parts" (.ref t) (putF "style" (.str "{") (putF "fmt" (.str z) []))))) b = some u := fun b u h1 h2 => by
      have h3 : H3 b = some u := s3 _ _ (by rw [upd_ne h1]; exact g1 _ _ h2)
      rw [upd_ne h1, upd_ne (ne_of_none h3 fd2), upd_ne h1]; exact h3
    have fr : ∀ b, H2 b = none → ¬ (H b ≠ none ∧ b ≠ p) := fun b h z => z.1 ((s1.trans g1).free h)
    have fd0 : H2 d = none := by
      have e := s3.free fd2
      rw [upd_ne fd1] at e; exact e
    refine hQ _ (fun b u h1 h2 => up b u h1 (s1 _ _ h2)) ⟨dx, t, d, z, ws, rst_at upd_same (fun z => z.2 rfl), rst_at ?_ (fr d fd0), rst_at ?_ (fr t ft2), hA.same fun b u e => ?_⟩
    · rw [upd_ne fd1]; exact upd_same
    · rw [upd_ne ft1, upd_ne ntd, upd_ne ft1]; exact ht
    · have n1 : H b = none := nw_free e
      exact rst_at (up b u (fun z => by rw [z, hp] at n1; cases n1) (rst_same _ _ e)) fun z => z.1 n1
end
end K17

set_option Elab.async false
set_option linter.all false
set_option maxRecDepth 100000
set_option maxHeartbeats 0

namespace K17
open PySem PySem.Spec PyProof.Rows L2 RC
section
variable {P : Program} {w : World} {K : PySem.W.Frag} {mg : Str → Option Value} {base : Heap}
/-! ### the text of a record for a handler -/
def FormV (K : PySem.W.Frag) (H : Hp) : Option (List (Str ⊕ Str)) → V → Prop
  | none, v => v = .non
  | some ps, v => ∃ m, v = .ref m ∧ FmAt K H m ps ∧ PsOk ps
theorem FormV.same {H H' : Hp} (s : Same H H') : ∀ {fo : Option (List (Str ⊕ Str))} {v : V}, FormV K H fo v → FormV K H' fo v
  | none, _, h => h
  | some _, _, ⟨m, h1, h2, h3⟩ => ⟨m, h1, h2.same s, h3⟩
inductive HfO (d : Rc) : Option (List (Str ⊕ Str)) → TxO → Prop
  | msgT {t : SS} : MsgO d (some t) → HfO d none (.tx t)
  | msgE : MsgO d none → HfO d none .msg
  | fm {ps : List (Str ⊕ Str)} {o : TxO} : FmO d ps o → HfO d (some ps) o
def spFormatted (K : PySem.W.Frag) : Sp := fun vs H Q E => ∃ (h dh r : Addr) (fs : List (Str × V)) (d : Rc) (fo : Option (List (Str ⊕ Str))) (fv : V) (o : TxO), vs = [.ref h, .ref r] ∧ H h = some (.ins (CRo K) dh fs) ∧ fs.lookup ("formatter" : Str) = some fv ∧ FormV K H fo fv ∧ RcAt K H r d ∧ d.Ok ∧ HfO d fo o ∧ TxtO K H Q E d o
theorem ok_formatted {f : Addr} (T : Txt P w K mg) (F : Stands K "formatted" "Handler.formatted" s_Handler_formatted [] f) (c_LogRecord_message : RH.CallN P w K mg base 5 (He.ma K (He.ga K "LogRecord") "message") ["self"] [] (spMessage K))
    (c_Formatter_formatted : RQ.CallX P w K mg base 8 (He.ma K (He.ga K "Formatter") "formatted") ["self", "record"] [] (spFmFormatted K)) : RQ.CallX P w K mg base 9 f ["self", "record"] [] (spFormatted K) := by
  refine RQ.stands_callX0 F sc_Handler_formatted (fun vs H Q E h => ?_) (fun cdv A outer s H vs Q E hr h => ?_) (fun _ _ _ _ _ _ us hl => match us, hl with | [_, _], _ => rfl)
  · obtain ⟨h, dh, r, fs, d, fo, fv, o, rfl, _⟩ := h; rfl
  obtain ⟨h, dh, r, fs, d, fo, fv, o, rfl, hh, hf, hF, hR, hok, hO, hQ, hEm, hEf⟩ := h
  obtain ⟨dx, g, e, hr1, hg, he⟩ := id hR
  refine ⟨_, (pss_one (ps_ret (pe_ifExp (pt_cmpR op_isN (pe_fld (pv 0) rfl) pe_non (nomark _)) (RH.pe_mtX0 (takes_of rfl rfl rfl rfl) T.c_LogRecord T.m_LogRecord_message c_LogRecord_message.toX (hr.mono (by first | decide | exact Nat.le_refl _)) (pv 1)) (RQ.pe_mtX (takes_of rfl rfl rfl rfl) T.c_Formatter T.m_Formatter_formatted c_Formatter_formatted (hr.mono (by first | decide | exact Nat.le_refl _)) (pe_fld (pv 0) rfl) (pa_cons (pv 1) pa_nil))))), ?_⟩
  dsimp only [cxK2]
  cases fo with
  | none =>
    cases hF
    obtain ⟨oM, hMo, h1, h2⟩ : ∃ oM, MsgO d oM ∧ (∀ t, oM = some t → o = .tx t) ∧ (oM = none → o = .msg) := by
      cases hO with
      | @msgT t h => exact ⟨some t, h, fun _ e => by cases e; rfl, fun e => nomatch e⟩
      | msgE h => exact ⟨none, h, (fun _ e => nomatch e), fun _ => rfl⟩
    walk_at "go"
    refine ⟨fun t H' ho s => ?_, fun ho => hEm (h2 ho)⟩
    subst ho
    have := msgO_len hMo hok
    exact hQ t H' (h1 t rfl) (by omega) s
  | some ps =>
    obtain ⟨m, rfl, hFm, hps⟩ := hF
    cases hO with
    | fm hO =>
      obtain ⟨dm, t, df, z, vs, hm, _⟩ := id hFm
      walk_at "go"
      first | exact ⟨hQ, hEm, hEf⟩ | exact hEf
def spTextOf (K : PySem.W.Frag) : Sp := fun vs H Q _ => ∃ (h dh r : Addr) (fs : List (Str × V)) (d : Rc) (fo : Option (List (Str ⊕ Str))) (fv : V) (t : SS), vs = [.ref h, .ref r] ∧ H h = some (.ins (CRo K) dh fs) ∧ fs.lookup ("formatter" : Str) = some fv ∧ fs.lookup ("formatted" : Str) = none ∧
  FormV K H fo fv ∧ RcAt K H r d ∧ d.Ok ∧ HfO d fo (.tx t) ∧ (∀ (H' : Hp), t.length ≤ 12000000 → Same H H' → Q (.str (tx t)) H')
theorem ok_text_of {f : Addr} (T : Txt P w K mg) (F : Stands K "text_of" "Handler.text_of" s_Handler_text_of [] f) (c_RotatingFileHandler_formatted : RQ.CallX P w K mg base 9 (He.ma K (He.ga K "RotatingFileHandler") "formatted") ["self", "record"] [] (spFormatted K)) : Callable P w K mg base 10 f ["self", "record"] [] (spTextOf K) := by
  refine F.call0 sc_Handler_text_of (fun vs H Q E h => ?_) (fun cdv A outer s H vs Q E hr h => ?_) (fun _ _ _ _ _ _ us hl => match us, hl with | [_, _], _ => rfl)
  · obtain ⟨h, dh, r, fs, d, fo, fv, t, rfl, _⟩ := h; rfl
  obtain ⟨h, dh, r, fs, d, fo, fv, t, rfl, hh, hf, hff, hF, hR, hok, hO, hQ⟩ := h
  obtain ⟨dx, g, e, hr1, hg, he⟩ := id hR
  refine ⟨_, (pss_cons (ps_set (i := 2) sc_Handler_text_of.nd rfl (by first | exact Or.inl rfl | exact Or.inr rfl) pe_non)
      (pss_cons (ps_try_many rfl rfl takes_none5 (fun W pn xe tk _ => (pss_one (ps_set (i := 2) sc_Handler_text_of.nd rfl (by first | exact Or.inl rfl | exact Or.inr rfl) (RQ.pe_mtX tk T.c_RotatingFileHandler T.m_RotatingFileHandler_formatted c_RotatingFileHandler_formatted (hr.mono (by first | decide | exact Nat.le_refl _)) (pv 0) (pa_cons (pv 1) pa_nil))))) (HdsOk.cons ⟨by rfl, by decide, .inl T.g_BadMessage⟩ (fun a oe cls d pn _ _ => (pss_one (ps_expr pe_never))) (HdsOk.cons ⟨by rfl, by decide, .inl T.g_BadField⟩ (fun a oe cls d pn _ _ => (pss_one (ps_expr pe_never))) HdsOk.nil)))
      (pss_one (ps_ret (pv 2))))), ?_⟩
  walk_at "in"
  refine ⟨_, rfl, ?_⟩
  refine ⟨h, dh, fs, rfl, hh, hff, _, rfl, ?_⟩
  refine ⟨h, dh, r, fs, d, fo, fv, .tx t, rfl, hh, hf, hF, hR, hok, hO, fun t H' ho hl s => ?_, (fun ho => nomatch ho), fun n2 ho => nomatch ho⟩
  cases ho
  walk_at "go"
  exact hQ H' hl s
end
end K17

set_option Elab.async false
set_option linter.all false
set_option maxRecDepth 100000
set_option maxHeartbeats 0

namespace K17
open PySem PySem.Spec PyProof.Rows L2 RC
section
variable {P : Program} {w : World} {K : PySem.W.Frag} {mg : Str → Option Value} {base : Heap}
/-! ### a record written to the file -/
def FS.open1 (s : FS) (d : Hd) (fl y : Addr) : FS := if d.op = true then s else s.op1.setH ({ d with op := true }.F fl y)
theorem open1_hd {s : FS} {d : Hd} {fl y : Addr} (h : s.hd = some (d.F fl y)) : (s.open1 d fl y).hd = some ({ d with op := true }.F fl y) := by
  unfold FS.open1
  obtain ⟨fv, cl, dl, op, tl⟩ := d
  cases op with
  | true => exact h
  | false => rfl
theorem open1_len (s : FS) (d : Hd) (fl y : Addr) : (s.open1 d fl y).files.length ≤ s.files.length + 1 := by
  unfold FS.open1
  split
  · omega
  · exact op1_len s
def spEmitF (K : PySem.W.Frag) : Sp := fun vs H Q _ => ∃ (s : FS) (ad : Ro → Addr) (d : Hd) (mb bc : Int) (G : Hp) (r : Addr) (rc : Rc) (fo : Option (List (Str ⊕ Str))) (t : SS), vs = [.ref (ad .h), .ref r] ∧ YR K s ad H ∧ s.hd = some (d.F (ad .hl) (ad .y)) ∧ d.tl = some (mb, bc) ∧ Ap K s ad G H ∧ FormV K G fo d.fv ∧ RcAt K G r rc ∧ rc.Ok ∧ HfO rc fo (.tx t) ∧
  s.files.length ≤ 900 ∧ (txt (s.open1 d (ad .hl) (ad .y)).files "f").length ≤ 8000000 ∧ t.length ≤ 900000 ∧ (∀ ad' H' s', YR K s' ad' H' → YM K s ad H s' ad' H' → Fx ad ad' → s' = (s.open1 d (ad .hl) (ad .y)).put "f" (txt (s.open1 d (ad .hl) (ad .y)).files "f" ++ (tx t ++ "\n")) → Q .non H')
theorem ok_emitF {f : Addr} (T : Txt P w K mg) (F : Stands K "emit" "FileHandler.emit" s_FileHandler_emit [] f) (c_RotatingFileHandler_text_of : Callable P w K mg base 10 (He.ma K (He.ga K "RotatingFileHandler") "text_of") ["self", "record"] [] (spTextOf K))
    (c_RotatingFileHandler_open_file : Callable P w K mg base 3 (He.ma K (He.ga K "RotatingFileHandler") "open_file") ["self"] [] (spOpen K)) (c_Yard_write_file : Callable P w K mg base 2 (He.ma K (He.ga K "Yard") "write_file") ["self", "name", "text"] [] (spWriteF K)) : Callable P w K mg base 11 f ["self", "record"] [] (spEmitF K) := by
  refine F.call0 sc_FileHandler_emit (fun vs H Q E h => ?_) (fun cdv A outer s0 H vs Q E hr h => ?_) (fun _ _ _ _ _ _ us hl => match us, hl with | [_, _], _ => rfl)
  · obtain ⟨s, ad, d, mb, bc, G, r, rc, fo, t, rfl, _⟩ := h; rfl
  obtain ⟨s, ad, ⟨fv, cl, dl, op, tl⟩, mb, bc, G, r, rc, fo, t, rfl, R, hd, htl, Aq, hF, hR, hok, hO, hfl, hsz, ht, hQ⟩ := h
  cases htl
  refine ⟨_, (pss_cons (ps_if (PW.pt (pw_and (pt_not (pt_val (pe_fld (pv 0) rfl))) (pw_and1 (pt_val (pe_fld (pv 0) rfl))))) (pss_one ps_retN) pss_nil)
      (pss_cons (ps_if (pt_not (pt_val (pe_fld (pv 0) rfl))) (pss_one (ps_expr (pe_mt0 T.c_RotatingFileHandler T.m_RotatingFileHandler_open_file c_RotatingFileHandler_open_file (hr.mono (by first | decide | exact Nat.le_refl _)) (pv 0)))) pss_nil)
      (pss_cons (ps_set (i := 2) sc_FileHandler_emit.nd rfl (by first | exact Or.inl rfl | exact Or.inr rfl) (pe_mt T.c_RotatingFileHandler T.m_RotatingFileHandler_text_of c_RotatingFileHandler_text_of (hr.mono (by first | decide | exact Nat.le_refl _)) (pv 0) (pa_cons (pv 1) pa_nil)))
      (pss_one (ps_if (pt_cmpR op_notN (pv 2) pe_non (nomark _)) (pss_one (ps_expr (pe_mt T.c_Yard T.m_Yard_write_file c_Yard_write_file (hr.mono (by first | decide | exact Nat.le_refl _)) (pe_fld (pv 0) rfl) (pa_cons (pe_fld (pv 0) rfl) (pa_cons (pe_op op_add_str (pv 2) (pe_fld (pv 0) rfl)) pa_nil))))) pss_nil))))), ?_⟩
  walk_at "in"
  have ha := R.h_ hd
  have hd1 := open1_hd hd
  have hl1 := open1_len s ⟨fv, cl, dl, op, some (mb, bc)⟩ (ad .hl) (ad .y)
  refine seq_of (fun σ' H1 => σ' = L2.start nm_FileHandler_emit [.ref (ad .h), .ref r] ∧ H = H1) (fun b' kb => ?_) (fun σ' H1 hm => ?_)
  · cases op with
    | true =>
      walk_at "go"
      exact kb _ _ ⟨rfl, rfl⟩
    | false =>
      walk_at "go"
      exact kb _ _ ⟨rfl, rfl⟩
  obtain ⟨rfl, rfl⟩ := hm
  refine seq_of (fun σ' H1 => σ' = L2.start nm_FileHandler_emit [.ref (ad .h), .ref r] ∧ ∃ ad', YR K (s.open1 ⟨fv, cl, dl, op, some (mb, bc)⟩ (ad .hl) (ad .y)) ad' H1 ∧ YM K s ad H (s.open1 ⟨fv, cl, dl, op, some (mb, bc)⟩ (ad .hl) (ad .y)) ad' H1 ∧ Fx ad ad') (fun b' kb => ?_) (fun σ' H1 hm => ?_)
  · cases op with
    | true =>
      walk_at "go"
      exact kb _ _ ⟨rfl, ad, R, RR.Mv.refl _, Fx.refl _⟩
    | false =>
      have hfl2 : s.files.length ≤ 1000 := by omega
      walk_at "go"
      intro ad' H' s' R' M' X' e
      subst e
      exact kb _ _ ⟨rfl, ad', R', M', X'⟩
  obtain ⟨rfl, ad1, R1, M1, X1⟩ := hm
  have A1 := Aq.mv M1
  generalize s.open1 ⟨fv, cl, dl, op, some (mb, bc)⟩ (ad .hl) (ad .y) = s1 at *
  have e3 : ad1 .h = ad .h := X1 _ fun _ h => nomatch h
  have ha1 := R1.h_ hd1
  rw [e3] at ha1
  have hF1 := hF.same A1.sm
  have hR1 := hR.same A1.sm
  clear ha
  have e4 : ad .y = ad1 .y := (X1 .y fun _ h => nomatch h).symm
  rw [e4] at ha1
  have ln1 : ("\n" : Str).length = 1 := rfl
  have l1 : (tx t).length = t.length := tx_len t
  have l2 : (tx t ++ ("\n" : Str)).length ≤ 1000000 := by rw [len_app, l1, ln1]; omega
  have l3 : (tx t).length + ("\n" : Str).length ≤ sizeLine := by rw [l1, ln1, sizeLine_eq]; omega
  have l4 : s1.files.length ≤ 1000 := by omega
  walk_at "go"
  intro H2 ht2 s2
  have R2 := R1.same s2
  have hy2 := R2.y_
  have ha2 := s2 _ _ ha1
  clear R1 ha1 hR1 hF1
  walk_at "go"
  intro ad2 H3 R3 M3 X3
  exact hQ ad2 H3 _ R3 (M1.trans (M3.sameL s2)) (X1.trans X3) rfl
end
end K17

set_option Elab.async false
set_option linter.all false
set_option maxRecDepth 100000
set_option maxHeartbeats 0

namespace K17
open PySem PySem.Spec PyProof.Rows L2 RC
section
variable {P : Program} {w : World} {K : PySem.W.Frag} {mg : Str → Option Value} {base : Heap}
/-! ### rolling over -/
def bn (k : Nat) : Str := ("f" : Str) ++ ("." : Str) ++ Str.ofString (toString (k : Int))
def FS.mvf (s : FS) (a b : Str) : FS := match s.files.lookup a with
  | some t => s.ren a b t
  | none => s
/-- the backups n, n - 1, .. 1 get numbers one greater -/
def FS.shift (s : FS) : Nat → FS
  | 0 => s
  | n + 1 => (s.mvf (bn (n + 1)) (bn (n + 2))).shift n
def FS.roll (s : FS) (b : Nat) : FS := if b = 0 then s else (s.shift (b - 1)).mvf "f" (bn 1)
theorem mvf_hd (s : FS) (a b : Str) : (s.mvf a b).hd = s.hd := by unfold FS.mvf; split <;> rfl
theorem shift_hd : ∀ (n : Nat) (s : FS), (s.shift n).hd = s.hd
  | 0, _ => rfl
  | n + 1, s => by
    show ((s.mvf (bn (n + 1)) (bn (n + 2))).shift n).hd = _
    rw [shift_hd n, mvf_hd]
theorem filter_len (fs : List (Str × Str)) (a : Str) : ∀ {t : Str}, fs.lookup a = some t → (fs.filter fun e => decide (e.1 ≠ a)).length + 1 ≤ fs.length := by
  induction fs with
  | nil => intro t h; cases h
  | cons e r ih =>
    intro t h
    rw [lkc] at h
    by_cases c : a = e.1
    · rw [List.filter_cons_of_neg (by simp [c]), List.length_cons]
      have := List.length_filter_le (fun e => decide (e.1 ≠ a)) r
      omega
    · rw [if_neg c] at h
      rw [List.filter_cons_of_pos (by simp [Ne.symm c]), List.length_cons, List.length_cons]
      have := ih h
      omega
theorem mvf_len (s : FS) (a b : Str) : (s.mvf a b).files.length ≤ s.files.length := by
  unfold FS.mvf
  split
  · next t e =>
    have h1 := filter_len s.files a e
    have h2 := putS_length (s.files.filter fun e => decide (e.1 ≠ a)) b t
    show (putS _ _ _).length ≤ _
    omega
  · exact Nat.le_refl _
theorem shift_len : ∀ (n : Nat) (s : FS), (s.shift n).files.length ≤ s.files.length
  | 0, _ => Nat.le_refl _
  | n + 1, s => Nat.le_trans (shift_len n (s.mvf (bn (n + 1)) (bn (n + 2)))) (mvf_len _ _ _)
def spName (K : PySem.W.Frag) : Sp := fun vs H Q _ => ∃ (s : FS) (ad : Ro → Addr) (d : Hd) (mb bc : Int) (k : Nat), vs = [.ref (ad .h), .int (k : Int)] ∧ YR K s ad H ∧ s.hd = some (d.F (ad .hl) (ad .y)) ∧ d.tl = some (mb, bc) ∧ k ≤ 100 ∧ Q (.str (bn k)) H
theorem ok_name {f : Addr} (T : Txt P w K mg) (F : Stands K "backup_name" "RotatingFileHandler.backup_name" s_RotatingFileHandler_backup_name [] f) : Callable P w K mg base 1 f ["self", "number"] [] (spName K) := by
  refine F.call0 sc_RotatingFileHandler_backup_name (fun vs H Q E h => ?_) (fun cdv A outer s0 H vs Q E hr h => ?_) (fun _ _ _ _ _ _ us hl => match us, hl with | [_, _], _ => rfl)
  · obtain ⟨s, ad, d, mb, bc, k, rfl, _⟩ := h; rfl
  obtain ⟨s, ad, ⟨fv, cl, dl, op, tl⟩, mb, bc, k, rfl, R, hd, htl, hk, hQ⟩ := h
  cases htl
  refine ⟨_, (pss_cons (ps_set (i := 2) sc_RotatingFileHandler_backup_name.nd rfl (by first | exact Or.inl rfl | exact Or.inr rfl) (pe_op op_add_str (pe_op op_add_str (pe_fld (pv 0) rfl) pe_str) (pe_callTy call_str_int (by rfl) T.b_str (by decide +kernel) (pa_cons (pv 1) pa_nil))))
      (pss_one (ps_ret (pe_ifExp (pt_cmpR op_isN (pe_fld (pv 0) rfl) pe_non (nomark _)) (pv 2) pe_never)))), ?_⟩
  walk_at "in"
  have ha := R.h_ hd
  have hlen := RN.len_toString (k : Int)
  have en : (k : Int).natAbs = k := rfl
  have lg0 : (k : Int).natAbs.log2 ≤ (k : Int).natAbs := Nat.log2_le_self _
  have lg : (k : Int).natAbs.log2 < 1920 := by omega
  have hl63 : (k : Int).natAbs < 2 ^ 63 := Nat.lt_of_le_of_lt (show (k : Int).natAbs ≤ 100 by omega) (by decide)
  have z0 : ("f" : Str).length + ("." : Str).length ≤ sizeLine := by rw [sizeLine_eq]; decide
  have z1 : (("f" : Str) ++ ("." : Str)).length + (Str.ofString (toString (k : Int))).length ≤ sizeLine := by
    have e2 : (("f" : Str) ++ ("." : Str)).length = 2 := rfl
    rw [sizeLine_eq, e2]; omega
  walk_at "go"
  exact hQ
def spMove (K : PySem.W.Frag) : Sp := fun vs H Q _ => ∃ (s : FS) (ad : Ro → Addr) (d : Hd) (a b : Str), vs = [.ref (ad .h), .str a, .str b] ∧ YR K s ad H ∧ s.hd = some (d.F (ad .hl) (ad .y)) ∧ (∃ mb bc, d.tl = some (mb, bc)) ∧ s.files.length ≤ 1000 ∧ a ≠ b ∧ (∀ ad' H' s', YR K s' ad' H' → YM K s ad H s' ad' H' → Fx ad ad' → s' = s.mvf a b → Q .non H')
theorem ok_move {f : Addr} (T : Txt P w K mg) (F : Stands K "move" "RotatingFileHandler.move" s_RotatingFileHandler_move [] f) (c_Yard_has_file : Callable P w K mg base 1 (He.ma K (He.ga K "Yard") "has_file") ["self", "name"] [] (spHas K))
    (c_Yard_rename_file : Callable P w K mg base 1 (He.ma K (He.ga K "Yard") "rename_file") ["self", "name", "other"] [] (spRen K)) : Callable P w K mg base 2 f ["self", "name", "other"] [] (spMove K) := by
  refine F.call0 sc_RotatingFileHandler_move (fun vs H Q E h => ?_) (fun cdv A outer s0 H vs Q E hr h => ?_) (fun _ _ _ _ _ _ us hl => match us, hl with | [_, _, _], _ => rfl)
  · obtain ⟨s, ad, d, a, b, rfl, _⟩ := h; rfl
  obtain ⟨s, ad, ⟨fv, cl, dl, op, tl⟩, a, b, rfl, R, hd, ⟨mb, bc, htl⟩, hl, ne, hQ⟩ := h
  cases htl
  refine ⟨_, (pss_one (ps_if (pt_val (pe_mt T.c_Yard T.m_Yard_has_file c_Yard_has_file (hr.mono (by first | decide | exact Nat.le_refl _)) (pe_fld (pv 0) rfl) (pa_cons (pv 1) pa_nil))) (pss_one (ps_expr (pe_mt T.c_Yard T.m_Yard_rename_file c_Yard_rename_file (hr.mono (by first | decide | exact Nat.le_refl _)) (pe_fld (pv 0) rfl) (pa_cons (pv 1) (pa_cons (pv 2) pa_nil))))) pss_nil)), ?_⟩
  walk_at "in"
  have ha := R.h_ hd
  have hy := R.y_
  walk_at "go"
  unfold FS.mvf at hQ
  cases e : s.files.lookup a with
  | none =>
    rw [e] at hQ
    refine iteF' rfl ?_
    walk_at "go"
    exact hQ ad H s R (RR.Mv.refl _) (Fx.refl _) rfl
  | some t =>
    rw [e] at hQ
    refine iteT' rfl ?_
    walk_at "go"
    intro ad' H' R' M' X'
    exact hQ ad' H' _ R' M' X' rfl
end
end K17

set_option Elab.async false
set_option linter.all false
set_option maxRecDepth 100000
set_option maxHeartbeats 0

namespace K17
open PySem PySem.Spec PyProof.Rows L2 RC
section
variable {P : Program} {w : World} {K : PySem.W.Frag} {mg : Str → Option Value} {base : Heap}
/-! ### a rollover -/
theorem bn_ne : ∀ i, i < 12 → ∀ j, j < 12 → i ≠ j → bn i ≠ bn j := by decide +kernel
theorem bn_f : ∀ i, i < 12 → ("f" : Str) ≠ bn i := by decide +kernel
def FS.rolled (s : FS) (d : Hd) (b : Nat) (fl y : Addr) : FS :=
  if d.dl = true then (s.setH ({ d with op := false }.F fl y)).roll b else ((s.setH ({ d with op := false }.F fl y)).roll b).op1.setH ({ d with op := true }.F fl y)
theorem roll_hd (s : FS) (b : Nat) : (s.roll b).hd = s.hd := by
  unfold FS.roll
  split
  · rfl
  · rw [mvf_hd, shift_hd]
theorem roll_len (s : FS) (b : Nat) : (s.roll b).files.length ≤ s.files.length := by
  unfold FS.roll
  split
  · exact Nat.le_refl _
  · exact Nat.le_trans (mvf_len _ _ _) (shift_len _ _)
def spRoll (K : PySem.W.Frag) : Sp := fun vs H Q _ => ∃ (s : FS) (ad : Ro → Addr) (d : Hd) (mb : Int) (b : Nat), vs = [.ref (ad .h)] ∧ YR K s ad H ∧ s.hd = some (d.F (ad .hl) (ad .y)) ∧ d.tl = some (mb, (b : Int)) ∧ b ≤ 8 ∧ s.files.length ≤ 900 ∧ (∀ ad' H' s', YR K s' ad' H' → YM K s ad H s' ad' H' → Fx ad ad' → s' = s.rolled d b (ad .hl) (ad .y) → Q .non H')
structure RollI (K : PySem.W.Frag) (s : FS) (ad : Ro → Addr) (b : Nat) (H : Hp) (i : Nat) (H' : Hp) : Prop where
  ex : ∃ ad' s', YR K s' ad' H' ∧ YM K s ad H s' ad' H' ∧ Fx ad ad' ∧ s'.shift (b - 1 - i) = s.shift (b - 1) ∧ s'.hd = s.hd ∧ s'.files.length ≤ s.files.length
theorem ok_roll {f : Addr} (T : Txt P w K mg) (F : Stands K "doRollover" "RotatingFileHandler.doRollover" s_RotatingFileHandler_doRollover [] f) (c_RotatingFileHandler_move : Callable P w K mg base 2 (He.ma K (He.ga K "RotatingFileHandler") "move") ["self", "name", "other"] [] (spMove K))
    (c_RotatingFileHandler_backup_name : Callable P w K mg base 1 (He.ma K (He.ga K "RotatingFileHandler") "backup_name") ["self", "number"] [] (spName K)) (c_RotatingFileHandler_open_file : Callable P w K mg base 3 (He.ma K (He.ga K "RotatingFileHandler") "open_file") ["self"] [] (spOpen K)) : Callable P w K mg base 4 f ["self"] [] (spRoll K) := by
  refine F.call0 sc_RotatingFileHandler_doRollover (fun vs H Q E h => ?_) (fun cdv A outer s0 H vs Q E hr h => ?_) (fun _ _ _ _ _ _ us hl => match us, hl with | [_], _ => rfl)
  · obtain ⟨s, ad, d, mb, b, rfl, _⟩ := h; rfl
  obtain ⟨s, ad, ⟨fv, cl, dl, op, tl⟩, mb, b, rfl, R, hd, htl, hb, hl, hQ⟩ := h
  cases htl
  refine ⟨_, (pss_cons (ps_fld (pv 0) pe_bl rfl)
      (pss_cons (ps_if (pt_cmpR op_gt (pe_fld (pv 0) rfl) pe_int (nomark _)) (pss_cons (ps_for PassesOwn.never rfl (pi_range3 (by rfl) T.b_range (pa_cons (pe_op op_sub (pe_fld (pv 0) rfl) pe_int) (pa_cons pe_int (pa_cons (pe_un un_neg pe_int) pa_nil)))) (pg_name (i := 1) sc_RotatingFileHandler_doRollover.nd rfl (by first | exact Or.inl rfl | exact Or.inr rfl)) (pss_one (ps_expr (pe_mt T.c_RotatingFileHandler T.m_RotatingFileHandler_move c_RotatingFileHandler_move (hr.mono (by first | decide | exact Nat.le_refl _)) (pv 0) (pa_cons (pe_mt T.c_RotatingFileHandler T.m_RotatingFileHandler_backup_name c_RotatingFileHandler_backup_name (hr.mono (by first | decide | exact Nat.le_refl _)) (pv 0) (pa_cons (pv 1) pa_nil)) (pa_cons (pe_mt T.c_RotatingFileHandler T.m_RotatingFileHandler_backup_name c_RotatingFileHandler_backup_name (hr.mono (by first | decide | exact Nat.le_refl _)) (pv 0) (pa_cons (pe_op op_add (pv 1) pe_int) pa_nil)) pa_nil))))))
      (pss_one (ps_expr (pe_mt T.c_RotatingFileHandler T.m_RotatingFileHandler_move c_RotatingFileHandler_move (hr.mono (by first | decide | exact Nat.le_refl _)) (pv 0) (pa_cons (pe_fld (pv 0) rfl) (pa_cons (pe_mt T.c_RotatingFileHandler T.m_RotatingFileHandler_backup_name c_RotatingFileHandler_backup_name (hr.mono (by first | decide | exact Nat.le_refl _)) (pv 0) (pa_cons pe_int pa_nil)) pa_nil)))))) pss_nil)
      (pss_one (ps_if (pt_not (pt_val (pe_fld (pv 0) rfl))) (pss_one (ps_expr (pe_mt0 T.c_RotatingFileHandler T.m_RotatingFileHandler_open_file c_RotatingFileHandler_open_file (hr.mono (by first | decide | exact Nat.le_refl _)) (pv 0)))) pss_nil)))), ?_⟩
  walk_at "in"
  have ha := R.h_ hd
  obtain ⟨R1, M1⟩ := R.setH hd (({ fv := fv, cl := cl, dl := dl, op := false, tl := some (mb, (b : Int)) } : Hd).F (ad .hl) (ad .y))
  refine seq_of (fun σ' H1 => σ' = L2.start nm_RotatingFileHandler_doRollover [.ref (ad .h)] ∧ H1 = upd H (ad .h) (.ins (CRo K) (ad (.x 9)) (({ fv := fv, cl := cl, dl := dl, op := false, tl := some (mb, (b : Int)) } : Hd).F (ad .hl) (ad .y)))) (fun b' kb => ?_) (fun σ' H1 hm => ?_)
  · walk_at "go"
    exact kb _ _ ⟨rfl, rfl⟩
  obtain ⟨rfl, rfl⟩ := hm
  have hd1 : (s.setH (({ fv := fv, cl := cl, dl := dl, op := false, tl := some (mb, (b : Int)) } : Hd).F (ad .hl) (ad .y))).hd = some (({ fv := fv, cl := cl, dl := dl, op := false, tl := some (mb, (b : Int)) } : Hd).F (ad .hl) (ad .y)) := rfl
  have hl1 : (s.setH (({ fv := fv, cl := cl, dl := dl, op := false, tl := some (mb, (b : Int)) } : Hd).F (ad .hl) (ad .y))).files.length ≤ 900 := hl
  unfold FS.rolled at hQ
  dsimp only at hQ
  generalize s.setH (({ fv := fv, cl := cl, dl := dl, op := false, tl := some (mb, (b : Int)) } : Hd).F (ad .hl) (ad .y)) = s1 at *
  generalize upd H (ad .h) (.ins (CRo K) (ad (.x 9)) (({ fv := fv, cl := cl, dl := dl, op := false, tl := some (mb, (b : Int)) } : Hd).F (ad .hl) (ad .y))) = H1 at *
  clear ha
  have ha1 := R1.h_ hd1
  refine seq_of (fun σ' H2 => (∃ o, σ' = [some (.ref (ad .h)), o]) ∧ ∃ ad', YR K (s1.roll b) ad' H2 ∧ YM K s1 ad H1 (s1.roll b) ad' H2 ∧ Fx ad ad') (fun b' kb => ?_) (fun σ' H2 hm => ?_)
  · rcases Nat.eq_zero_or_pos b with rfl | hb0
    · have e0 : decide ((0 : Int) < ((0 : Nat) : Int)) = false := by decide
      walk_at "go"
      exact kb _ _ ⟨⟨_, rfl⟩, ad, R1, RR.Mv.refl _, Fx.refl _⟩
    · have e0 : decide ((0 : Int) < (b : Int)) = true := decide_eq_true (by omega)
      walk_at "go"
      refine ⟨RgC.neg (by omega) (by omega) (by decide) (by decide), ?_⟩
      have en : ((b : Int) - 1 - 0).toNat = b - 1 := by omega
      rw [en]
      refine for_it walk_rangeC (fun i σ H' => RollI K s1 ad b H1 i H' ∧ ∃ o, σ = [some (.ref (ad .h)), o]) ⟨⟨ad, s1, R1, RR.Mv.refl _, Fx.refl _, rfl, rfl, Nat.le_refl _⟩, _, rfl⟩ (fun _ _ _ _ _ => trivial) (fun i x σ H9 H2 hi hP hx => ?_) (fun σ H2 hP => ?_)
      · obtain ⟨rfl, rfl⟩ := hx
        obtain ⟨⟨ad2, s2, R2, M2, X2, es, eh, el⟩, o, rfl⟩ := hP
        obtain ⟨k, hk⟩ : ∃ k, b - 1 - i = k + 1 := ⟨b - 1 - i - 1, by omega⟩
        have ek : (b : Int) - 1 + (i : Nat) * (-1) = ((k + 1 : Nat) : Int) := by omega
        show gName 1 (V.int ((b : Int) - 1 + (i : Nat) * (-1))) _ _ _
        rw [ek]
        rw [hk] at es
        have x1 : ad2 .h = ad .h := X2 .h fun _ h => nomatch h
        have x2 : ad2 .hl = ad .hl := X2 .hl fun _ h => nomatch h
        have x3 : ad2 .y = ad .y := X2 .y fun _ h => nomatch h
        have hd2 : s2.hd = some (({ fv := fv, cl := cl, dl := dl, op := false, tl := some (mb, (b : Int)) } : Hd).F (ad2 .hl) (ad2 .y)) := by rw [eh, hd1, x2, x3]
        have ha2 := R2.h_ hd2
        rw [← x1]
        have hk100 : k + 1 ≤ 100 := by omega
        have hk101 : k + 1 + 1 ≤ 100 := by omega
        have ne : bn (k + 1) ≠ bn (k + 1 + 1) := bn_ne (k + 1) (by omega) (k + 1 + 1) (by omega) (by omega)
        have hl2 : s2.files.length ≤ 1000 := by omega
        have e1 : ((k + 1 : Nat) : Int) + 1 = ((k + 1 + 1 : Nat) : Int) := by omega
        walk_at "go"
        refine ⟨⟨_, _, rfl⟩, hl2, ne, fun ad3 H3 s3 R3 M3 X3 e3 => ⟨⟨ad3, s3, R3, M2.trans M3, X2.trans X3, ?_, ?_, ?_⟩, some (.int ((k + 1 : Nat) : Int)), by rw [x1]; rfl⟩⟩
        · rw [show b - 1 - (i + 1) = k by omega, e3]
          exact es
        · rw [e3, mvf_hd, eh]
        · rw [e3]
          exact Nat.le_trans (mvf_len _ _ _) el
      obtain ⟨⟨ad2, s2, R2, M2, X2, es, eh, el⟩, o, rfl⟩ := hP
      rw [show b - 1 - (b - 1) = 0 by omega] at es
      have es : s2 = s1.shift (b - 1) := es
      have x1 : ad2 .h = ad .h := X2 .h fun _ h => nomatch h
      have x2 : ad2 .hl = ad .hl := X2 .hl fun _ h => nomatch h
      have x3 : ad2 .y = ad .y := X2 .y fun _ h => nomatch h
      have hd2 : s2.hd = some (({ fv := fv, cl := cl, dl := dl, op := false, tl := some (mb, (b : Int)) } : Hd).F (ad2 .hl) (ad2 .y)) := by rw [eh, hd1, x2, x3]
      have ha2 := R2.h_ hd2
      rw [← x1]
      have ne : ("f" : Str) ≠ bn 1 := bn_f 1 (by decide)
      have hl2 : s2.files.length ≤ 1000 := by omega
      walk_at "go"
      refine ⟨⟨_, _, rfl⟩, hl2, ne, fun ad3 H3 s3 R3 M3 X3 e3 => ?_⟩
      have e4 : s3 = s1.roll b := by rw [e3, es]; unfold FS.roll; rw [if_neg (by omega)]
      rw [e4] at R3 M3
      exact kb _ _ ⟨⟨o, by rw [x1]⟩, ad3, R3, M2.trans M3, X2.trans X3⟩
  obtain ⟨⟨o, rfl⟩, ad2, R2, M2, X2⟩ := hm
  have x1 : ad2 .h = ad .h := X2 .h fun _ h => nomatch h
  have x2 : ad2 .hl = ad .hl := X2 .hl fun _ h => nomatch h
  have x3 : ad2 .y = ad .y := X2 .y fun _ h => nomatch h
  have hd2 : (s1.roll b).hd = some (({ fv := fv, cl := cl, dl := dl, op := false, tl := some (mb, (b : Int)) } : Hd).F (ad2 .hl) (ad2 .y)) := by rw [roll_hd, hd1, x2, x3]
  have ha2 := R2.h_ hd2
  have hl2 : (s1.roll b).files.length ≤ 1000 := by have := roll_len s1 b; omega
  rw [← x1]
  rw [← x2, ← x3] at hQ
  clear ha1 hd1
  cases dl with
  | true =>
    walk_at "go"
    exact hQ ad2 _ _ R2 (M1.trans M2) X2 rfl
  | false =>
    walk_at "go"
    intro ad3 H3 s3 R3 M3 X3 e3
    subst e3
    exact hQ ad3 _ _ R3 ((M1.trans M2).trans M3) (X2.trans X3) rfl
end
end K17

set_option Elab.async false
set_option linter.all false
set_option maxRecDepth 100000
set_option maxHeartbeats 0

namespace K17
open PySem PySem.Spec PyProof.Rows L2 RC
section
variable {P : Program} {w : World} {K : PySem.W.Frag} {mg : Str → Option Value} {base : Heap}
/-! ### whether to roll over -/
/-- the answer -/
def rollB (s : FS) (mb : Int) (n : Nat) : Bool := decide (0 < (txt s.files "f").length) && decide (mb ≤ ((txt s.files "f").length : Int) + n + 1)
def spShould (K : PySem.W.Frag) : Sp := fun vs H Q _ => ∃ (s : FS) (ad : Ro → Addr) (d : Hd) (mb bc : Int) (G : Hp) (r : Addr) (rc : Rc) (fo : Option (List (Str ⊕ Str))) (t : SS), vs = [.ref (ad .h), .ref r] ∧ YR K s ad H ∧ s.hd = some (d.F (ad .hl) (ad .y)) ∧ d.tl = some (mb, bc) ∧ Ap K s ad G H ∧ FormV K G fo d.fv ∧ RcAt K G r rc ∧ rc.Ok ∧ HfO rc fo (.tx t) ∧
  s.files.length ≤ 900 ∧ 1 ≤ mb ∧ (d.op = true → ∃ u, s.files.lookup ("f" : Str) = some u) ∧ (txt (s.open1 d (ad .hl) (ad .y)).files "f").length ≤ 8000000 ∧ t.length ≤ 900000 ∧ (∀ ad' H' s', YR K s' ad' H' → YM K s ad H s' ad' H' → Fx ad ad' → s' = s.open1 d (ad .hl) (ad .y) → Q (.bl (rollB (s.open1 d (ad .hl) (ad .y)) mb t.length)) H')
theorem ok_should {f : Addr} (T : Txt P w K mg) (F : Stands K "shouldRollover" "RotatingFileHandler.shouldRollover" s_RotatingFileHandler_shouldRollover [] f) (c_RotatingFileHandler_formatted : RQ.CallX P w K mg base 9 (He.ma K (He.ga K "RotatingFileHandler") "formatted") ["self", "record"] [] (spFormatted K))
    (c_RotatingFileHandler_open_file : Callable P w K mg base 3 (He.ma K (He.ga K "RotatingFileHandler") "open_file") ["self"] [] (spOpen K)) (c_Yard_has_file : Callable P w K mg base 1 (He.ma K (He.ga K "Yard") "has_file") ["self", "name"] [] (spHas K))
    (c_Yard_file_text : Callable P w K mg base 1 (He.ma K (He.ga K "Yard") "file_text") ["self", "name"] [] (spFileText K)) : RQ.CallX P w K mg base 10 f ["self", "record"] [] (spShould K) := by
  refine RQ.stands_callX0 F sc_RotatingFileHandler_shouldRollover (fun vs H Q E h => ?_) (fun cdv A outer s0 H vs Q E hr h => ?_) (fun _ _ _ _ _ _ us hl => match us, hl with | [_, _], _ => rfl)
  · obtain ⟨s, ad, d, mb, bc, G, r, rc, fo, t, rfl, _⟩ := h; rfl
  obtain ⟨s, ad, ⟨fv, cl, dl, op, tl⟩, mb, bc, G, r, rc, fo, t, rfl, R, hd, htl, Aq, hF, hR, hok, hO, hfl, hmb, hop, hsz, ht, hQ⟩ := h
  cases htl
  refine ⟨_, (pss_cons (ps_if (pt_not (pt_val (pe_fld (pv 0) rfl))) (pss_one (ps_expr (pe_mt0 T.c_RotatingFileHandler T.m_RotatingFileHandler_open_file c_RotatingFileHandler_open_file (hr.mono (by first | decide | exact Nat.le_refl _)) (pv 0)))) pss_nil)
      (pss_cons (ps_if (PW.pt (pw_or (pt_cmpR op_le (pe_fld (pv 0) rfl) pe_int (nomark _)) (pw_or1 (pt_not (pt_val (pe_mt T.c_Yard T.m_Yard_has_file c_Yard_has_file (hr.mono (by first | decide | exact Nat.le_refl _)) (pe_fld (pv 0) rfl) (pa_cons (pe_fld (pv 0) rfl) pa_nil))))))) (pss_one (ps_ret pe_bl)) pss_nil)
      (pss_cons (ps_set (i := 2) sc_RotatingFileHandler_shouldRollover.nd rfl (by first | exact Or.inl rfl | exact Or.inr rfl) (pe_callB call_len (by rfl) T.b_len (by decide +kernel) (pa_cons (pe_mt T.c_Yard T.m_Yard_file_text c_Yard_file_text (hr.mono (by first | decide | exact Nat.le_refl _)) (pe_fld (pv 0) rfl) (pa_cons (pe_fld (pv 0) rfl) pa_nil)) pa_nil)))
      (pss_one (ps_ret (pe_and (pe_cmpR op_gt (pv 2) pe_int (nomark _)) (pe_one (pe_cmpR op_ge (pe_op op_add (pe_op op_add (pv 2) (pe_callB call_len (by rfl) T.b_len (by decide +kernel) (pa_cons (RQ.pe_mtX (takes_of rfl rfl rfl rfl) T.c_RotatingFileHandler T.m_RotatingFileHandler_formatted c_RotatingFileHandler_formatted (hr.mono (by first | decide | exact Nat.le_refl _)) (pv 0) (pa_cons (pv 1) pa_nil)) pa_nil))) pe_int) (pe_fld (pv 0) rfl) (nomark _))))))))), ?_⟩
  dsimp only [cxK2]
  have ha := R.h_ hd
  have hd1 := open1_hd hd
  have hl1 := open1_len s ⟨fv, cl, dl, op, some (mb, bc)⟩ (ad .hl) (ad .y)
  have hu : ∃ u, (s.open1 ⟨fv, cl, dl, op, some (mb, bc)⟩ (ad .hl) (ad .y)).files.lookup ("f" : Str) = some u := by
    unfold FS.open1
    cases op with
    | true => exact hop rfl
    | false => exact op1_f s
  refine seq_of (fun σ' H1 => σ' = L2.start nm_RotatingFileHandler_shouldRollover [.ref (ad .h), .ref r] ∧ ∃ ad', YR K (s.open1 ⟨fv, cl, dl, op, some (mb, bc)⟩ (ad .hl) (ad .y)) ad' H1 ∧ YM K s ad H (s.open1 ⟨fv, cl, dl, op, some (mb, bc)⟩ (ad .hl) (ad .y)) ad' H1 ∧ Fx ad ad') (fun b' kb => ?_) (fun σ' H1 hm => ?_)
  · cases op with
    | true =>
      walk_at "go"
      exact kb _ _ ⟨rfl, ad, R, RR.Mv.refl _, Fx.refl _⟩
    | false =>
      have hfl2 : s.files.length ≤ 1000 := by omega
      walk_at "go"
      intro ad' H' s' R' M' X' e
      subst e
      exact kb _ _ ⟨rfl, ad', R', M', X'⟩
  obtain ⟨rfl, ad1, R1, M1, X1⟩ := hm
  have A1 := Aq.mv M1
  generalize s.open1 ⟨fv, cl, dl, op, some (mb, bc)⟩ (ad .hl) (ad .y) = s1 at *
  obtain ⟨u, hu⟩ := hu
  have x1 : ad1 .h = ad .h := X1 .h fun _ h => nomatch h
  have x2 : ad1 .hl = ad .hl := X1 .hl fun _ h => nomatch h
  have x3 : ad1 .y = ad .y := X1 .y fun _ h => nomatch h
  rw [← x2, ← x3] at hd1
  have ha1 := R1.h_ hd1
  have hy1 := R1.y_
  have hf1 := R1.fi_
  have hF1 := hF.same A1.sm
  have hR1 := hR.same A1.sm
  have hrow := R1.row_ hu
  have hv := valV_filK "f" ad1 s1.files
  rw [hu] at hv
  rw [← x1]
  have em : decide (mb ≤ 0) = false := decide_eq_false (by omega)
  have etx : txt s1.files "f" = u := by unfold txt; rw [hu]; rfl
  rw [etx] at hsz
  unfold rollB at hQ
  rw [etx] at hQ
  clear ha
  walk_at "go"
  rw [hu]
  refine iteF' rfl ?_
  walk_at "go"
  refine ⟨hv, hrow, ?_⟩
  refine ⟨_, u.length, rfl, ⟨by rw [sizeLine_eq]; omega, rfl⟩, ?_⟩
  by_cases c : 0 < u.length
  · have e1 : decide ((0 : Int) < (u.length : Int)) = true := decide_eq_true (by omega)
    rw [decide_eq_true c, Bool.true_and] at hQ
    walk_at "go"
    refine ⟨fun t' H' ho hl s => ?_, (fun ho => nomatch ho), fun n2 ho => nomatch ho⟩
    cases ho
    refine ⟨_, (tx t).length, rfl, ⟨by rw [tx_len, sizeLine_eq]; omega, rfl⟩, ?_⟩
    have ha2 := s _ _ ha1
    rw [tx_len]
    walk_at "go"
    exact hQ ad1 H' _ (R1.same s) (M1.sameR s) X1 rfl
  · have e1 : decide ((0 : Int) < (u.length : Int)) = false := decide_eq_false (by omega)
    rw [decide_eq_false c, Bool.false_and] at hQ
    walk_at "go"
    exact hQ ad1 H1 _ R1 M1 X1 rfl
end
end K17

set_option Elab.async false
set_option linter.all false
set_option maxRecDepth 100000
set_option maxHeartbeats 0

namespace K17
open PySem PySem.Spec PyProof.Rows L2 RC
section
variable {P : Program} {w : World} {K : PySem.W.Frag} {mg : Str → Option Value} {base : Heap}
/-! ### a record for a rotating handler -/
theorem ok_rolls {f : Addr} (T : Txt P w K mg) (F : Stands K "rolls_for" "RotatingFileHandler.rolls_for" s_RotatingFileHandler_rolls_for [] f) (c_RotatingFileHandler_shouldRollover : RQ.CallX P w K mg base 10 (He.ma K (He.ga K "RotatingFileHandler") "shouldRollover") ["self", "record"] [] (spShould K)) : Callable P w K mg base 11 f ["self", "record"] [] (spShould K) := by
  refine F.call0 sc_RotatingFileHandler_rolls_for (fun vs H Q E h => ?_) (fun cdv A outer s0 H vs Q E hr h => ?_) (fun _ _ _ _ _ _ us hl => match us, hl with | [_, _], _ => rfl)
  · obtain ⟨s, ad, d, mb, bc, G, r, rc, fo, t, rfl, _⟩ := h; rfl
  obtain ⟨s, ad, d, mb, bc, G, r, rc, fo, t, rfl, R, hd, htl, Aq, hF, hR, hok, hO, hfl, hmb, hop, hsz, ht, hQ⟩ := h
  refine ⟨_, (pss_cons (ps_set (i := 2) sc_RotatingFileHandler_rolls_for.nd rfl (by first | exact Or.inl rfl | exact Or.inr rfl) pe_non)
      (pss_cons (ps_try_many rfl rfl takes_none5 (fun W pn xe tk _ => (pss_one (ps_set (i := 2) sc_RotatingFileHandler_rolls_for.nd rfl (by first | exact Or.inl rfl | exact Or.inr rfl) (RQ.pe_mtX tk T.c_RotatingFileHandler T.m_RotatingFileHandler_shouldRollover c_RotatingFileHandler_shouldRollover (hr.mono (by first | decide | exact Nat.le_refl _)) (pv 0) (pa_cons (pv 1) pa_nil))))) (HdsOk.cons ⟨by rfl, by decide, .inl T.g_BadMessage⟩ (fun a oe cls d pn _ _ => (pss_one (ps_expr pe_never))) (HdsOk.cons ⟨by rfl, by decide, .inl T.g_BadField⟩ (fun a oe cls d pn _ _ => (pss_one (ps_expr pe_never))) HdsOk.nil)))
      (pss_one (ps_ret (pv 2))))), ?_⟩
  walk_at "in"
  have ha := R.h_ hd
  have hno : (d.F (ad .hl) (ad .y)).lookup ("shouldRollover" : Str) = none := by
    obtain ⟨fv, cl, dl, op, tl⟩ := d
    cases htl
    rfl
  refine ⟨_, rfl, ?_⟩
  refine ⟨ad .h, _, _, rfl, ha, hno, _, rfl, ?_⟩
  refine ⟨s, ad, d, mb, bc, G, r, rc, fo, t, rfl, R, hd, htl, Aq, hF, hR, hok, hO, hfl, hmb, hop, hsz, ht, fun ad' H' s' R' M' X' e => ?_⟩
  walk_at "go"
  exact hQ ad' H' s' R' M' X' e
def FS.emit (s : FS) (d : Hd) (mb : Int) (b : Nat) (z : SS) (fl y : Addr) : FS :=
  if rollB (s.open1 d fl y) mb z.length = true then
    ((((s.open1 d fl y).rolled { d with op := true } b fl y).open1 { d with op := !d.dl } fl y).put "f" (txt (((s.open1 d fl y).rolled { d with op := true } b fl y).open1 { d with op := !d.dl } fl y).files "f" ++ (tx z ++ "\n")))
  else (s.open1 d fl y).put "f" (txt (s.open1 d fl y).files "f" ++ (tx z ++ "\n"))
theorem rolled_hd (s : FS) (d : Hd) (b : Nat) (fl y : Addr) : (s.rolled d b fl y).hd = some ({ d with op := !d.dl }.F fl y) := by
  unfold FS.rolled
  obtain ⟨fv, cl, dl, op, tl⟩ := d
  cases dl with
  | true =>
    show (FS.roll _ b).hd = _
    rw [roll_hd]; rfl
  | false => rfl
theorem rolled_len (s : FS) (d : Hd) (b : Nat) (fl y : Addr) : (s.rolled d b fl y).files.length ≤ s.files.length + 1 := by
  unfold FS.rolled
  split
  · exact Nat.le_succ_of_le (roll_len _ _)
  · exact Nat.le_trans (op1_len _) (Nat.succ_le_succ (roll_len _ _))
def spEmit (K : PySem.W.Frag) : Sp := fun vs H Q _ => ∃ (s : FS) (ad : Ro → Addr) (d : Hd) (mb : Int) (b : Nat) (G : Hp) (r : Addr) (rc : Rc) (fo : Option (List (Str ⊕ Str))) (t : SS), vs = [.ref (ad .h), .ref r] ∧ YR K s ad H ∧ s.hd = some (d.F (ad .hl) (ad .y)) ∧ d.tl = some (mb, (b : Int)) ∧ Ap K s ad G H ∧ FormV K G fo d.fv ∧ RcAt K G r rc ∧ rc.Ok ∧ HfO rc fo (.tx t) ∧
  s.files.length ≤ 800 ∧ b ≤ 8 ∧ 1 ≤ mb ∧ (d.op = true → ∃ u, s.files.lookup ("f" : Str) = some u) ∧ (txt (s.open1 d (ad .hl) (ad .y)).files "f").length ≤ 8000000 ∧ (txt (((s.open1 d (ad .hl) (ad .y)).rolled { d with op := true } b (ad .hl) (ad .y)).open1 { d with op := !d.dl } (ad .hl) (ad .y)).files "f").length ≤ 8000000 ∧ t.length ≤ 900000 ∧
  (∀ ad' H' s', YR K s' ad' H' → YM K s ad H s' ad' H' → Fx ad ad' → s' = s.emit d mb b t (ad .hl) (ad .y) → Q .non H')
theorem ok_emit {f : Addr} (T : Txt P w K mg) (F : Stands K "emit" "RotatingFileHandler.emit" s_RotatingFileHandler_emit [] f) (c_RotatingFileHandler_rolls_for : Callable P w K mg base 11 (He.ma K (He.ga K "RotatingFileHandler") "rolls_for") ["self", "record"] [] (spShould K))
    (c_RotatingFileHandler_doRollover : Callable P w K mg base 4 (He.ma K (He.ga K "RotatingFileHandler") "doRollover") ["self"] [] (spRoll K)) (c_FileHandler_emit : Callable P w K mg base 11 (He.ma K (He.ga K "FileHandler") "emit") ["self", "record"] [] (spEmitF K)) : Callable P w K mg base 12 f ["self", "record"] [] (spEmit K) := by
  refine F.call0 sc_RotatingFileHandler_emit (fun vs H Q E h => ?_) (fun cdv A outer s0 H vs Q E hr h => ?_) (fun _ _ _ _ _ _ us hl => match us, hl with | [_, _], _ => rfl)
  · obtain ⟨s, ad, d, mb, b, G, r, rc, fo, t, rfl, _⟩ := h; rfl
  obtain ⟨s, ad, d, mb, b, G, r, rc, fo, t, rfl, R, hd, htl, Aq, hF, hR, hok, hO, hfl, hb, hmb, hop, hsz, hsz2, ht, hQ⟩ := h
  refine ⟨_, (pss_cons (ps_set (i := 2) sc_RotatingFileHandler_emit.nd rfl (by first | exact Or.inl rfl | exact Or.inr rfl) (pe_mt T.c_RotatingFileHandler T.m_RotatingFileHandler_rolls_for c_RotatingFileHandler_rolls_for (hr.mono (by first | decide | exact Nat.le_refl _)) (pv 0) (pa_cons (pv 1) pa_nil)))
      (pss_cons (ps_if (pt_cmpR op_isN (pv 2) pe_non (nomark _)) (pss_one ps_retN) pss_nil)
      (pss_cons (ps_if (pt_val (pv 2)) (pss_one (ps_expr (pe_mt0 T.c_RotatingFileHandler T.m_RotatingFileHandler_doRollover c_RotatingFileHandler_doRollover (hr.mono (by first | decide | exact Nat.le_refl _)) (pv 0)))) pss_nil)
      (pss_one (ps_expr (pe_cf T.cf_FileHandler_emit c_FileHandler_emit (hr.mono (by first | decide | exact Nat.le_refl _)) (pe_glob (v := .ref _) (by rfl) T.g_FileHandler rfl) (pa_cons (pv 0) (pa_cons (pv 1) pa_nil)))))))), ?_⟩
  walk_at "in"
  have ha := R.h_ hd
  have hno : ∀ n : Str, n = "rolls_for" ∨ n = "doRollover" → (d.F (ad .hl) (ad .y)).lookup n = none := fun n hn => by
    obtain ⟨fv, cl, dl, op, tl⟩ := d
    cases htl
    rcases hn with rfl | rfl <;> rfl
  refine ⟨_, rfl, ad .h, _, _, rfl, ha, hno _ (.inl rfl), _, rfl, ?_⟩
  refine ⟨s, ad, d, mb, (b : Int), G, r, rc, fo, t, rfl, R, hd, htl, Aq, hF, hR, hok, hO, by omega, hmb, hop, hsz, ht, fun ad1 H1 s1 R1 M1 X1 e => ?_⟩
  subst e
  have hd1 := open1_hd hd
  have hl1 := open1_len s d (ad .hl) (ad .y)
  have A1 := Aq.mv M1
  unfold FS.emit at hQ
  have hs1 : ∃ u, (s.open1 d (ad .hl) (ad .y)).files.lookup ("f" : Str) = some u := by
    unfold FS.open1
    cases e : d.op with
    | true => exact hop e
    | false => exact op1_f s
  generalize s.open1 d (ad .hl) (ad .y) = s1 at *
  have x1 : ad1 .h = ad .h := X1 .h fun _ h => nomatch h
  have x2 : ad1 .hl = ad .hl := X1 .hl fun _ h => nomatch h
  have x3 : ad1 .y = ad .y := X1 .y fun _ h => nomatch h
  rw [← x2, ← x3] at hQ hsz2 hd1 hno
  rw [← x1]
  have ha1 := R1.h_ hd1
  have hno1 : ({ d with op := true }.F (ad1 .hl) (ad1 .y)).lookup ("doRollover" : Str) = none := by
    obtain ⟨fv, cl, dl, op, tl⟩ := d
    cases htl
    rfl
  clear ha hno R hd hop
  cases eB : rollB s1 mb t.length with
  | true =>
    rw [if_pos eB] at hQ
    walk_at "go"
    intro ad2 H2 s2 R2 M2 X2 e
    subst e
    have hd2 : (s1.rolled { d with op := true } b (ad1 .hl) (ad1 .y)).hd = some ({ d with op := !d.dl }.F (ad1 .hl) (ad1 .y)) := rolled_hd s1 { d with op := true } b (ad1 .hl) (ad1 .y)
    have hl2 := rolled_len s1 { d with op := true } b (ad1 .hl) (ad1 .y)
    have A2 := A1.mv M2
    generalize s1.rolled { d with op := true } b (ad1 .hl) (ad1 .y) = s2 at *
    have y1 : ad2 .h = ad1 .h := X2 .h fun _ h => nomatch h
    have y2 : ad2 .hl = ad1 .hl := X2 .hl fun _ h => nomatch h
    have y3 : ad2 .y = ad1 .y := X2 .y fun _ h => nomatch h
    rw [← y2, ← y3] at hQ hsz2 hd2
    rw [← y1]
    have hl3 : s2.files.length ≤ 900 := by omega
    clear ha1 hno1 R1 hd1 A1
    walk_at "go"
    exact fun ad' H' s' R' M' X' e => hQ ad' H' s' R' ((M1.trans M2).trans M') ((X1.trans X2).trans X') e
  | false =>
    rw [if_neg (by rw [eB]; decide)] at hQ
    have hl3 : s1.files.length ≤ 900 := by omega
    walk_at "go"
    exact ⟨hsz, ht, fun ad' H' s' R' M' X' e => hQ ad' H' s' R' (M1.trans M') (X1.trans X') e⟩
end
end K17

set_option Elab.async false
set_option linter.all false
set_option maxRecDepth 100000
set_option maxHeartbeats 0

namespace K17
open PySem PySem.Spec PyProof.Rows L2 RC
section
variable {P : Program} {w : World} {K : PySem.W.Frag} {mg : Str → Option Value} {base : Heap}
/-! ### handle, close, a formatter set -/
def spFiltered0 (K : PySem.W.Frag) : Sp := fun vs H Q _ => ∃ (p C dx l r : Addr) (fs : List (Str × V)), vs = [.ref p, .ref r] ∧ H p = some (.ins C dx fs) ∧ Cls K C ∧ NoAttr K C "filters" ∧ fs.lookup ("filters" : Str) = some (.ref l) ∧ H l = some (.lst []) ∧ Q (.ref r) H
theorem ok_filtered0 {f : Addr} (T : Txt P w K mg) (F : Stands K "filtered" "Filterer.filtered" s_Filterer_filtered [] f) : Callable P w K mg base 1 f ["self", "record"] [] (spFiltered0 K) := by
  refine F.call0 sc_Filterer_filtered (fun vs H Q E h => ?_) (fun cdv A outer s0 H vs Q E hr h => ?_) (fun _ _ _ _ _ _ us hl => match us, hl with | [_, _], _ => rfl)
  · obtain ⟨p, C, dx, l, r, fs, rfl, _⟩ := h; rfl
  obtain ⟨p, C, dx, l, r, fs, rfl, hp, c, n, hf, hl, hQ⟩ := h
  refine ⟨_, (pss_cons (ps_set (i := 2) sc_Filterer_filtered.nd rfl (by first | exact Or.inl rfl | exact Or.inr rfl) (pv 1))
      (pss_cons (ps_for PassesOwn.never rfl (pi_list (pe_fld (pv 0) rfl)) (pg_name (i := 3) sc_Filterer_filtered.nd rfl (by first | exact Or.inl rfl | exact Or.inr rfl)) (pss_cons (ps_set (i := 2) sc_Filterer_filtered.nd rfl (by first | exact Or.inl rfl | exact Or.inr rfl) pe_never)
      (pss_one (ps_if (pt_cmpR op_isN (pv 2) pe_non (nomark _)) (pss_one (ps_ret pe_non)) pss_nil))))
      (pss_one (ps_ret (pv 2))))), ?_⟩
  walk_at "in"
  walk_at "go"
  refine for_list (xs := []) (fun i σ H' => H' = H ∧ σ = [some (.ref p), some (.ref r), some (.ref r), none]) ⟨rfl, rfl⟩ (fun i σ H' _ h => by rw [h.1]; exact SqL.of hl) (fun i x σ H' hx h => nomatch hx) (fun σ H' h => ?_)
  obtain ⟨rfl, rfl⟩ := h
  walk_at "go"
  exact hQ
def spHandle (K : PySem.W.Frag) : Sp := fun vs H Q _ => ∃ (s : FS) (ad : Ro → Addr) (d : Hd) (mb : Int) (b : Nat) (G : Hp) (r : Addr) (rc : Rc) (fo : Option (List (Str ⊕ Str))) (t : SS), vs = [.ref (ad .h), .ref r] ∧ YR K s ad H ∧ s.hf = true ∧ s.hd = some (d.F (ad .hl) (ad .y)) ∧ d.tl = some (mb, (b : Int)) ∧ Ap K s ad G H ∧ FormV K G fo d.fv ∧ RcAt K G r rc ∧ rc.Ok ∧ HfO rc fo (.tx t) ∧
  s.files.length ≤ 800 ∧ b ≤ 8 ∧ 1 ≤ mb ∧ (d.op = true → ∃ u, s.files.lookup ("f" : Str) = some u) ∧ (txt (s.open1 d (ad .hl) (ad .y)).files "f").length ≤ 8000000 ∧ (txt (((s.open1 d (ad .hl) (ad .y)).rolled { d with op := true } b (ad .hl) (ad .y)).open1 { d with op := !d.dl } (ad .hl) (ad .y)).files "f").length ≤ 8000000 ∧ t.length ≤ 900000 ∧
  (∀ ad' H' s', YR K s' ad' H' → YM K s ad H s' ad' H' → Fx ad ad' → s' = s.emit d mb b t (ad .hl) (ad .y) → Q (.bl true) H')
theorem ok_handle {f : Addr} (T : Txt P w K mg) (F : Stands K "handle" "Handler.handle" s_Handler_handle [] f) (c_RotatingFileHandler_filtered : Callable P w K mg base 1 (He.ma K (He.ga K "RotatingFileHandler") "filtered") ["self", "record"] [] (spFiltered0 K))
    (c_RotatingFileHandler_emit : Callable P w K mg base 12 (He.ma K (He.ga K "RotatingFileHandler") "emit") ["self", "record"] [] (spEmit K)) : Callable P w K mg base 13 f ["self", "record"] [] (spHandle K) := by
  refine F.call0 sc_Handler_handle (fun vs H Q E h => ?_) (fun cdv A outer s0 H vs Q E hr h => ?_) (fun _ _ _ _ _ _ us hl => match us, hl with | [_, _], _ => rfl)
  · obtain ⟨s, ad, d, mb, b, G, r, rc, fo, t, rfl, _⟩ := h; rfl
  obtain ⟨s, ad, ⟨fv, cl, dl, op, tl⟩, mb, b, G, r, rc, fo, t, rfl, R, hhf, hd, htl, Aq, hF, hR, hok, hO, hfl, hb, hmb, hop, hsz, hsz2, ht, hQ⟩ := h
  cases htl
  refine ⟨_, (pss_cons (ps_set (i := 2) sc_Handler_handle.nd rfl (by first | exact Or.inl rfl | exact Or.inr rfl) (pe_mt T.c_RotatingFileHandler T.m_RotatingFileHandler_filtered c_RotatingFileHandler_filtered (hr.mono (by first | decide | exact Nat.le_refl _)) (pv 0) (pa_cons (pv 1) pa_nil)))
      (pss_cons (ps_if (pt_cmpR op_isN (pv 2) pe_non (nomark _)) (pss_one (ps_ret pe_bl)) pss_nil)
      (pss_cons (ps_expr (pe_mt T.c_RotatingFileHandler T.m_RotatingFileHandler_emit c_RotatingFileHandler_emit (hr.mono (by first | decide | exact Nat.le_refl _)) (pv 0) (pa_cons (pv 2) pa_nil)))
      (pss_one (ps_ret pe_bl))))), ?_⟩
  walk_at "in"
  have ha := R.h_ hd
  have hfl0 := R.hl_ hhf
  refine ⟨_, rfl, _, _, _, rfl, ha, rfl, _, rfl, ?_⟩
  refine ⟨_, _, _, _, r, _, rfl, ha, T.c_RotatingFileHandler, T.n_RotatingFileHandler_filters, rfl, hfl0, ?_⟩
  walk_at "go"
  intro ad' H' s' R' M' X' e
  walk_at "go"
  exact hQ ad' H' s' R' M' X' e
def spForget (K : PySem.W.Frag) : Sp := fun vs H Q _ => ∃ (s : FS) (ad : Ro → Addr) (d : Hd) (mb bc : Int), vs = [.ref (ad .y), .ref (ad .h)] ∧ YR K s ad H ∧ s.hd = some (d.F (ad .hl) (ad .y)) ∧ d.tl = some (mb, bc) ∧ Q .non H
theorem ok_forget {f : Addr} (T : Txt P w K mg) (F : Stands K "forget_name" "Yard.forget_name" s_Yard_forget_name [] f) : Callable P w K mg base 1 f ["self", "handler"] [] (spForget K) := by
  refine F.call0 sc_Yard_forget_name (fun vs H Q E h => ?_) (fun cdv A outer s0 H vs Q E hr h => ?_) (fun _ _ _ _ _ _ us hl => match us, hl with | [_, _], _ => rfl)
  · obtain ⟨s, ad, d, mb, bc, rfl, _⟩ := h; rfl
  obtain ⟨s, ad, ⟨fv, cl, dl, op, tl⟩, mb, bc, rfl, R, hd, htl, hQ⟩ := h
  cases htl
  refine ⟨_, (pss_one (ps_if (pt_cmpR op_notN (pe_fld (pv 1) rfl) pe_non (nomark _)) (pss_one (ps_expr (pe_dpop2 (pe_fld (pv 0) rfl) (pe_fld (pv 1) rfl) pe_non ⟨rfl, rfl, rfl, rfl⟩))) pss_nil)), ?_⟩
  walk_at "in"
  have ha := R.h_ hd
  have hy := R.y_
  walk_at "go"
  exact hQ
def spCloseH (K : PySem.W.Frag) (o : Bool) : Sp := fun vs H Q _ => ∃ (s : FS) (ad : Ro → Addr) (d : Hd) (mb bc : Int), vs = [.ref (ad .h)] ∧ YR K s ad H ∧ s.hd = some (d.F (ad .hl) (ad .y)) ∧ d.tl = some (mb, bc) ∧ (∀ H' s', YR K s' ad H' → YM K s ad H s' ad H' → s' = s.setH ({ d with op := o && d.op, cl := true }.F (ad .hl) (ad .y)) → Q .non H')
theorem ok_closeH {f : Addr} (T : Txt P w K mg) (F : Stands K "close" "Handler.close" s_Handler_close [] f) (c_Yard_forget_name : Callable P w K mg base 1 (He.ma K (He.ga K "Yard") "forget_name") ["self", "handler"] [] (spForget K)) : Callable P w K mg base 2 f ["self"] [] (spCloseH K true) := by
  refine F.call0 sc_Handler_close (fun vs H Q E h => ?_) (fun cdv A outer s0 H vs Q E hr h => ?_) (fun _ _ _ _ _ _ us hl => match us, hl with | [_], _ => rfl)
  · obtain ⟨s, ad, d, mb, bc, rfl, _⟩ := h; rfl
  obtain ⟨s, ad, ⟨fv, cl, dl, op, tl⟩, mb, bc, rfl, R, hd, htl, hQ⟩ := h
  cases htl
  refine ⟨_, (pss_cons (ps_expr (pe_mt T.c_Yard T.m_Yard_forget_name c_Yard_forget_name (hr.mono (by first | decide | exact Nat.le_refl _)) (pe_fld (pv 0) rfl) (pa_cons (pv 0) pa_nil)))
      (pss_one (ps_fld (pv 0) pe_bl rfl))), ?_⟩
  walk_at "in"
  have ha := R.h_ hd
  have hy := R.y_
  obtain ⟨R1, M1⟩ := R.setH hd (({ fv := fv, cl := true, dl := dl, op := op, tl := some (mb, bc) } : Hd).F (ad .hl) (ad .y))
  walk_at "go"
  exact hQ _ _ R1 M1 rfl
theorem ok_close {f : Addr} (T : Txt P w K mg) (F : Stands K "close" "FileHandler.close" s_FileHandler_close [] f) (c_Handler_close : Callable P w K mg base 2 (He.ma K (He.ga K "Handler") "close") ["self"] [] (spCloseH K true)) : Callable P w K mg base 3 f ["self"] [] (spCloseH K false) := by
  refine F.call0 sc_FileHandler_close (fun vs H Q E h => ?_) (fun cdv A outer s0 H vs Q E hr h => ?_) (fun _ _ _ _ _ _ us hl => match us, hl with | [_], _ => rfl)
  · obtain ⟨s, ad, d, mb, bc, rfl, _⟩ := h; rfl
  obtain ⟨s, ad, ⟨fv, cl, dl, op, tl⟩, mb, bc, rfl, R, hd, htl, hQ⟩ := h
  cases htl
  refine ⟨_, (pss_cons (ps_fld (pv 0) pe_bl rfl)
      (pss_cons (ps_fld (pv 0) (pe_cmpR op_eq (pe_fld (pv 0) rfl) pe_str (nomark _)) rfl)
      (pss_one (ps_expr (pe_cf T.cf_Handler_close c_Handler_close (hr.mono (by first | decide | exact Nat.le_refl _)) (pe_glob (v := .ref _) (by rfl) T.g_Handler rfl) (pa_cons (pv 0) pa_nil)))))), ?_⟩
  walk_at "in"
  have ha := R.h_ hd
  obtain ⟨R1, M1⟩ := R.setH hd (({ fv := fv, cl := cl, dl := dl, op := false, tl := some (mb, bc) } : Hd).F (ad .hl) (ad .y))
  have e0 : decide (V.str (Str.ofString "a") = V.str (Str.ofString "w")) = false := by decide
  walk_at "go"
  rw [upd_upd, e0]
  exact ⟨R1, rfl, rfl, fun H' s' R' M' e => hQ H' s' R' (M1.trans M') (by rw [e]; rfl)⟩
def spSetFm (K : PySem.W.Frag) : Sp := fun vs H Q _ => ∃ (s : FS) (ad : Ro → Addr) (d : Hd) (mb bc : Int) (v : V), vs = [.ref (ad .h), v] ∧ YR K s ad H ∧ s.hd = some (d.F (ad .hl) (ad .y)) ∧ d.tl = some (mb, bc) ∧ (∀ H' s', YR K s' ad H' → YM K s ad H s' ad H' → s' = s.setH ({ d with fv := v }.F (ad .hl) (ad .y)) → Q .non H')
theorem ok_setFm {f : Addr} (T : Txt P w K mg) (F : Stands K "setFormatter" "Handler.setFormatter" s_Handler_setFormatter [] f) : Callable P w K mg base 1 f ["self", "formatter"] [] (spSetFm K) := by
  refine F.call0 sc_Handler_setFormatter (fun vs H Q E h => ?_) (fun cdv A outer s0 H vs Q E hr h => ?_) (fun _ _ _ _ _ _ us hl => match us, hl with | [_, _], _ => rfl)
  · obtain ⟨s, ad, d, mb, bc, v, rfl, _⟩ := h; rfl
  obtain ⟨s, ad, ⟨fv, cl, dl, op, tl⟩, mb, bc, v, rfl, R, hd, htl, hQ⟩ := h
  cases htl
  refine ⟨_, (pss_one (ps_fld (pv 0) (pv 1) rfl)), ?_⟩
  walk_at "in"
  have ha := R.h_ hd
  obtain ⟨R1, M1⟩ := R.setH hd (({ fv := v, cl := cl, dl := dl, op := op, tl := some (mb, bc) } : Hd).F (ad .hl) (ad .y))
  walk_at "go"
  exact hQ _ _ R1 M1 rfl
end
end K17

set_option Elab.async false
set_option linter.all false
set_option maxRecDepth 100000
set_option maxHeartbeats 0
namespace K17
open PySem PySem.Spec PyProof.Rows L2 RC
section
variable {P : Program} {w : World} {K : PySem.W.Frag} {mg : Str → Option Value} {base : Heap}
/-! ### a handler is made -/
def adM (ad : Ro → Addr) (p l dx : Addr) : Ro → Addr
  | .h => p
  | .hl => l
  | .x j => if j = 9 then dx else ad (.x j)
  | r => ad r
/-- a handler at p stands, with the fields fs -/
def FS.mk1 (s : FS) (p : Addr) (fs : List (Str × V)) : FS := { s with md := s.md ++ [.ref p], hd := some fs, hf := true }
theorem _root_.RR.Rep.mk1 {s : FS} {ad : Ro → Addr} {H0 H1 : Hp} {p dx l : Addr} (R : YR K s ad H0) (e1 : s.hd = none) (e2 : s.hf = false) (hp : H0 p = none) (hdx : H0 dx = none) (npd : p ≠ dx) (fs : List (Str × V))
    (k : ∀ b o, b ≠ p → b ≠ ad .md → upd (upd H0 dx (.own p)) p (.ins (CRo K) dx []) b = some o → H1 b = some o) (hl : upd (upd H0 dx (.own p)) p (.ins (CRo K) dx []) l = none) (h4 : H1 l = some (.lst [])) (h5 : H1 (ad .md) = some (.lst (s.md ++ [.ref p]))) :
    YR K (s.mk1 p fs) (adM ad p l dx) (upd H1 p (.ins (CRo K) dx fs)) ∧ YM K s ad H0 (s.mk1 p fs) (adM ad p l dx) (upd H1 p (.ins (CRo K) dx fs)) := by
  have hl1 := upd_none hl
  have hl2 := upd_none hl1.2
  have Rm : Y1 K s ad .md = some (.lst s.md) := rfl
  have old : ∀ b o, H0 b = some o → b ≠ ad .md → upd H1 p (.ins (CRo K) dx fs) b = some o := fun b o e n => by
    have n1 : b ≠ p := fun z => by rw [z, hp] at e; cases e
    have n2 : b ≠ dx := fun z => by rw [z, hdx] at e; cases e
    rw [upd_ne n1]
    exact k b o n1 n (by rw [upd_ne n1, upd_ne n2]; exact e)
  have nmp : ad .md ≠ p := fun z => by have := R.at_ .md _ Rm; rw [z, hp] at this; cases this
  -- the places
  have cs : ∀ r u, Y1 K (s.mk1 p fs) (adM ad p l dx) r = some u → (r = .h ∧ u = .ins (CRo K) dx fs) ∨ (r = .hl ∧ u = .lst []) ∨ (r = .md ∧ u = .lst (s.md ++ [.ref p])) ∨ (r ≠ .h ∧ r ≠ .hl ∧ r ≠ .md ∧ adM ad p l dx r = ad r ∧ Y1 K s ad r = some u) := fun r u e => by
    cases r with
    | h => exact .inl ⟨rfl, (Option.some.inj e).symm⟩
    | hl => exact .inr (.inl ⟨rfl, (Option.some.inj e).symm⟩)
    | md => exact .inr (.inr (.inl ⟨rfl, (Option.some.inj e).symm⟩))
    | y => exact .inr (.inr (.inr ⟨(fun z => nomatch z), (fun z => nomatch z), (fun z => nomatch z), rfl, e⟩))
    | fi => exact .inr (.inr (.inr ⟨(fun z => nomatch z), (fun z => nomatch z), (fun z => nomatch z), rfl, e⟩))
    | na => exact .inr (.inr (.inr ⟨(fun z => nomatch z), (fun z => nomatch z), (fun z => nomatch z), rfl, e⟩))
    | nu => exact .inr (.inr (.inr ⟨(fun z => nomatch z), (fun z => nomatch z), (fun z => nomatch z), rfl, e⟩))
    | fr => exact .inr (.inr (.inr ⟨(fun z => nomatch z), (fun z => nomatch z), (fun z => nomatch z), rfl, e⟩))
    | row x => exact .inr (.inr (.inr ⟨(fun z => nomatch z), (fun z => nomatch z), (fun z => nomatch z), rfl, e⟩))
    | x j => cases e
  have lp : l ≠ p := hl1.1
  have om : ∀ r u, Y1 K s ad r = some u → r ≠ .md → ad r ≠ ad .md := fun r u e n z => n (R.inj _ _ _ _ e Rm z)
  have op : ∀ r u, Y1 K s ad r = some u → ad r ≠ p := fun r u e z => by have := R.at_ _ _ e; rw [z, hp] at this; cases this
  have ol : ∀ r u, Y1 K s ad r = some u → ad r ≠ l := fun r u e z => by have := R.at_ _ _ e; rw [z, hl2.2] at this; cases this
  refine ⟨⟨fun r u e => ?_, fun r1 r2 u1 u2 q1 q2 z => ?_⟩, fun b o hb e => old b o e (fun z => hb .md _ Rm z.symm), fun r u e => ?_⟩
  · rcases cs r u e with ⟨rfl, rfl⟩ | ⟨rfl, rfl⟩ | ⟨rfl, rfl⟩ | ⟨_, _, n, ea, e'⟩
    · exact upd_same
    · show upd H1 p _ l = _
      rw [upd_ne lp]; exact h4
    · show upd H1 p _ (ad .md) = _
      rw [upd_ne nmp]; exact h5
    · rw [ea]; exact old _ _ (R.at_ _ _ e') (om r u e' n)
  · have om2 : adM ad p l dx .md = ad .md := rfl
    rcases cs r1 u1 q1 with ⟨rfl, _⟩ | ⟨rfl, _⟩ | ⟨rfl, _⟩ | ⟨_, _, n1, ea1, e1'⟩ <;> rcases cs r2 u2 q2 with ⟨rfl, _⟩ | ⟨rfl, _⟩ | ⟨rfl, _⟩ | ⟨_, _, n2, ea2, e2'⟩
    · rfl
    · exact absurd (show l = p from z.symm) lp
    · exact absurd (show ad .md = p from z.symm) nmp
    · rw [ea2] at z; exact absurd (show ad r2 = p from z.symm) (op _ _ e2')
    · exact absurd (show l = p from z) lp
    · rfl
    · exact absurd (show ad .md = l from z.symm) (ol _ _ Rm)
    · rw [ea2] at z; exact absurd (show ad r2 = l from z.symm) (ol _ _ e2')
    · exact absurd (show ad .md = p from z) nmp
    · exact absurd (show ad .md = l from z) (ol _ _ Rm)
    · rfl
    · rw [ea2] at z; exact absurd (show ad r2 = ad .md from z.symm) (om _ _ e2' n2)
    · rw [ea1] at z; exact absurd (show ad r1 = p from z) (op _ _ e1')
    · rw [ea1] at z; exact absurd (show ad r1 = l from z) (ol _ _ e1')
    · rw [ea1] at z; exact absurd (show ad r1 = ad .md from z) (om _ _ e1' n1)
    · rw [ea1, ea2] at z; exact R.inj _ _ _ _ e1' e2' z
  · rcases cs r u e with ⟨rfl, rfl⟩ | ⟨rfl, rfl⟩ | ⟨rfl, rfl⟩ | ⟨_, _, n, ea, e'⟩
    · exact .inr hp
    · exact .inr hl2.2
    · exact .inl ⟨.md, _, Rm, rfl⟩
    · exact .inl ⟨r, u, e', ea.symm⟩
end
end K17

set_option Elab.async false
set_option linter.all false
set_option maxRecDepth 100000
set_option maxHeartbeats 0

namespace K17
open PySem PySem.Spec PyProof.Rows L2 RC
section
variable {P : Program} {w : World} {K : PySem.W.Frag} {mg : Str → Option Value} {base : Heap}
/-! ### the inits of a rotating handler -/
abbrev hd0 (dl : Bool) : Hd := { fv := .non, cl := false, dl := dl, op := false, tl := none }
def FS.mkf (s : FS) (p : Addr) (dl : Bool) (fl y : Addr) : FS := if dl = true then s.mk1 p ((hd0 dl).F fl y) else (s.mk1 p ((hd0 dl).F fl y)).op1.setH ({ hd0 dl with op := true }.F fl y)
def spFileInit (K : PySem.W.Frag) : Sp := fun vs H Q _ => ∃ (s : FS) (ad : Ro → Addr) (p dx : Addr) (dl : Bool) (H0 : Hp), vs = [.ref p, .ref (ad .y), .str "f", .str "a", .bl dl] ∧ YR K s ad H0 ∧ s.hd = none ∧ s.hf = false ∧ H0 p = none ∧ H0 dx = none ∧ p ≠ dx ∧ H = upd (upd H0 dx (.own p)) p (.ins (CRo K) dx []) ∧ s.md.length ≤ 1000 ∧ s.files.length ≤ 900 ∧
  (∀ ad' H' s', YR K s' ad' H' → YM K s ad H0 s' ad' H' → ad' .h = p → ad' .y = ad .y → s' = s.mkf p dl (ad' .hl) (ad' .y) → Q .non H')
theorem ok_file_init {f : Addr} (T : Txt P w K mg) (F : Stands K "__init__" "FileHandler.__init__" s_FileHandler_init [.str "a", .bl false] f) (c_Handler_init : Callable P w K mg base 2 (He.ma K (He.ga K "Handler") "__init__") ["self", "yard"] [] (spHandlerInit K))
    (c_RotatingFileHandler_open_file : Callable P w K mg base 3 (He.ma K (He.ga K "RotatingFileHandler") "open_file") ["self"] [] (spOpen K)) :
    Callable P w K mg base 4 f ["self", "yard", "filename", "mode", "delay"] [] (spFileInit K) := by
  refine F.call sc_FileHandler_init 5 2 (fun vs H Q E h => ?_) (fun cdv A outer s0 H vs Q E hr h => ?_) (fun z => nomatch z) fun _ => ⟨rfl, fun _ _ _ _ _ _ _ us its hl hi => match us, hl, its, hi with | [_, _, _, _, _], _, [_, _], _ => ⟨_, rfl, rfl⟩⟩
  · obtain ⟨s, ad, p, dx, dl, H0, rfl, _⟩ := h; rfl
  obtain ⟨s, ad, p, dx, dl, H0, rfl, R, e1, e2, hp0, hd0', npd, eH, hml, hfl, hQ⟩ := h
  refine ⟨_, (pss_cons (ps_if (pt_cmpR op_notIn_seq (pv 3) (pe_tup (pa_cons pe_str (pa_cons pe_str pa_nil))) (by rfl)) (pss_one ps_never) pss_nil)
      (pss_cons (ps_expr (pe_cf T.cf_Handler_init c_Handler_init (hr.mono (by first | decide | exact Nat.le_refl _)) (pe_glob (v := .ref _) (by rfl) T.g_Handler rfl) (pa_cons (pv 0) (pa_cons (pv 1) pa_nil))))
      (pss_cons (ps_fld (pv 0) (pv 2) rfl)
      (pss_cons (ps_fld (pv 0) (pv 3) rfl)
      (pss_cons (ps_fld (pv 0) (pv 4) rfl)
      (pss_cons (ps_fld (pv 0) pe_bl rfl)
      (pss_cons (ps_fld (pv 0) pe_bl rfl)
      (pss_one (ps_if (pt_not (pt_val (pv 4))) (pss_one (ps_expr (pe_mt0 T.c_RotatingFileHandler T.m_RotatingFileHandler_open_file c_RotatingFileHandler_open_file (hr.mono (by first | decide | exact Nat.le_refl _)) (pv 0)))) pss_nil))))))))), ?_⟩
  walk_at "in"
  have c : HCls K (CRo K) := ⟨T.c_RotatingFileHandler, T.n_RotatingFileHandler_filters, T.n_RotatingFileHandler_yard, T.n_RotatingFileHandler_level, T.n_RotatingFileHandler_formatter, T.n_RotatingFileHandler_name, T.n_RotatingFileHandler_terminator, T.n_RotatingFileHandler_closed⟩
  have hp : H p = some (.ins (CRo K) dx []) := by rw [eH]; exact upd_same
  have up : ∀ b o, H0 b = some o → H b = some o := fun b o e => by
    rw [eH, upd_ne (fun z => by rw [z, hp0] at e; cases e), upd_ne (fun z => by rw [z, hd0'] at e; cases e)]; exact e
  have hy := up _ _ R.y_
  have hmm := up _ _ R.md_
  have npy : p ≠ ad .y := fun z => by have := R.y_; rw [← z, hp0] at this; cases this
  walk_at "go"
  intro q fq
  have s1 := same_new fq (.tup [.str "a", .str "w"])
  have hq : upd H q (.tup [.str "a", .str "w"]) q = some (.tup [.str "a", .str "w"]) := upd_same
  generalize upd H q (.tup [.str "a", .str "w"]) = H1 at s1 hq ⊢
  have hp1 := s1 _ _ hp
  have hy1 := s1 _ _ hy
  have hm1 := s1 _ _ hmm
  refine ⟨q, _, rfl, .inr (SqT.of hq), rfl, rfl, _, rfl, ?_⟩
  refine iteF' (by decide +kernel) ?_
  refine ⟨rfl, _, rfl, _, rfl, p, _, dx, ad .y, _, ad .md, _, s.md, rfl, hp1, c, npy, hy1, rfl, rfl, hm1, hml, fun H2 hM => ?_⟩
  obtain ⟨l, k1, k2, k3, k4, k5⟩ := hM
  obtain ⟨R3, M3⟩ := R.mk1 (H1 := H2) (l := l) e1 e2 hp0 hd0' npd ((hd0 dl).F l (ad .y)) (fun b o h1 h2 h3 => k1 b o h1 h2 (s1 _ _ (by rw [eH]; exact h3))) (by rw [← eH]; exact s1.free k2) k4 k5
  unfold FS.mkf at hQ
  cases dl with
  | true =>
    walk_at "go"
    simp only [upd_upd]
    exact hQ (adM ad p l dx) _ _ R3 M3 rfl rfl rfl
  | false =>
    walk_at "go"
    simp only [upd_upd]
    refine ⟨?hz, R3, rfl, (by show s.files.length ≤ 1000; omega), fun ad' H' s' R' M' X' e => ?_⟩
    case hz => rfl
    have x1 : ad' .h = p := X' .h fun _ h => nomatch h
    have x2 : ad' .hl = l := X' .hl fun _ h => nomatch h
    have x3 : ad' .y = ad .y := X' .y fun _ h => nomatch h
    refine hQ ad' H' s' R' (M3.trans M') x1 x3 ?_
    rw [x2, x3, e]
    rfl
def spRotInit (K : PySem.W.Frag) : Sp := fun vs H Q _ => ∃ (s : FS) (ad : Ro → Addr) (p dx : Addr) (dl : Bool) (md : Str) (mb bc : Int) (H0 : Hp), vs = [.ref p, .ref (ad .y), .str "f", .str md, .int mb, .int bc, .bl dl] ∧ (md = "a" ∨ md = "w") ∧ 1 ≤ mb ∧ YR K s ad H0 ∧ s.hd = none ∧ s.hf = false ∧ H0 p = none ∧ H0 dx = none ∧ p ≠ dx ∧ H = upd (upd H0 dx (.own p)) p (.ins (CRo K) dx []) ∧ s.md.length ≤ 1000 ∧ s.files.length ≤ 900 ∧
  (∀ ad' H' s', YR K s' ad' H' → YM K s ad H0 s' ad' H' → ad' .h = p → ad' .y = ad .y → s' = (s.mkf p dl (ad' .hl) (ad' .y)).setH ({ fv := .non, cl := false, dl := dl, op := !dl, tl := some (mb, bc) : Hd }.F (ad' .hl) (ad' .y)) → Q .non H')
theorem mkf_hd (s : FS) (p : Addr) (dl : Bool) (fl y : Addr) : (s.mkf p dl fl y).hd = some ({ hd0 dl with op := !dl }.F fl y) := by
  unfold FS.mkf
  cases dl with
  | true => rfl
  | false => rfl
theorem ok_rot_init {f : Addr} (T : Txt P w K mg) (F : Stands K "__init__" "RotatingFileHandler.__init__" s_RotatingFileHandler_init [.str "a", .int 0, .int 0, .bl false] f) (c_FileHandler_init : Callable P w K mg base 4 (He.ma K (He.ga K "FileHandler") "__init__") ["self", "yard", "filename", "mode", "delay"] [] (spFileInit K)) :
    Callable P w K mg base 5 f ["self", "yard", "filename", "mode", "maxBytes", "backupCount", "delay"] [] (spRotInit K) := by
  refine F.call sc_RotatingFileHandler_init 7 4 (fun vs H Q E h => ?_) (fun cdv A outer s0 H vs Q E hr h => ?_) (fun z => nomatch z) fun _ => ⟨rfl, fun _ _ _ _ _ _ _ us its hl hi => match us, hl, its, hi with | [_, _, _, _, _, _, _], _, [_, _, _, _], _ => ⟨_, rfl, rfl⟩⟩
  · obtain ⟨s, ad, p, dx, dl, md, mb, bc, H0, rfl, _⟩ := h; rfl
  obtain ⟨s, ad, p, dx, dl, md, mb, bc, H0, rfl, hmd, hmb, R, e1, e2, hp0, hd0', npd, eH, hml, hfl, hQ⟩ := h
  refine ⟨_, (pss_cons (ps_expr (pe_cf T.cf_FileHandler_init c_FileHandler_init (hr.mono (by first | decide | exact Nat.le_refl _)) (pe_glob (v := .ref _) (by rfl) T.g_FileHandler rfl) (pa_cons (pv 0) (pa_cons (pv 1) (pa_cons (pv 2) (pa_cons (pe_ifExp (PW.pt (pw_and (pt_cmpR op_eq (pv 3) pe_str (nomark _)) (pw_and1 (pt_cmpR op_gt (pv 4) pe_int (nomark _))))) pe_str (pv 3)) (pa_cons (pv 6) pa_nil)))))))
      (pss_cons (ps_fld (pv 0) (pv 4) rfl)
      (pss_cons (ps_fld (pv 0) (pv 5) rfl)
      (pss_one (ps_fld (pv 0) pe_non rfl))))), ?_⟩
  walk_at "in"
  have em : decide ((0 : Int) < mb) = true := decide_eq_true (by omega)
  rcases hmd with rfl | rfl
  · have ea : decide (V.str (Str.ofString "a") = V.str (Str.ofString "w")) = false := by decide
    walk_at "go"
    intro ad' H' s' R' M' x1 x3 e
    have hd1 : s'.hd = some ({ hd0 dl with op := !dl }.F (ad' .hl) (ad' .y)) := by rw [e]; exact mkf_hd _ _ _ _ _
    have ha := R'.h_ hd1
    obtain ⟨R2, M2⟩ := R'.setH hd1 (({ fv := .non, cl := false, dl := dl, op := !dl, tl := some (mb, bc) } : Hd).F (ad' .hl) (ad' .y))
    have hQ1 := hQ ad' _ _ R2 (M'.trans M2) x1 x3 (by rw [e])
    rw [x1] at ha hQ1
    walk_at "go"
    simp only [upd_upd]
    exact hQ1
  · have ea : decide (V.str (Str.ofString "w") = V.str (Str.ofString "w")) = true := by decide
    walk_at "go"
    intro ad' H' s' R' M' x1 x3 e
    have hd1 : s'.hd = some ({ hd0 dl with op := !dl }.F (ad' .hl) (ad' .y)) := by rw [e]; exact mkf_hd _ _ _ _ _
    have ha := R'.h_ hd1
    obtain ⟨R2, M2⟩ := R'.setH hd1 (({ fv := .non, cl := false, dl := dl, op := !dl, tl := some (mb, bc) } : Hd).F (ad' .hl) (ad' .y))
    have hQ1 := hQ ad' _ _ R2 (M'.trans M2) x1 x3 (by rw [e])
    rw [x1] at ha hQ1
    walk_at "go"
    simp only [upd_upd]
    exact hQ1
end
end K17

set_option Elab.async false
set_option linter.all false
set_option maxRecDepth 100000
set_option maxHeartbeats 0

namespace K17
open PySem PySem.Spec PyProof.Rows L2 RC
section
variable {P : Program} {w : World} {K : PySem.W.Frag} {mg : Str → Option Value} {base : Heap}
/-! ### the parts of a row of files -/
theorem perm_of_sub : ∀ {xs ys : List Str}, xs.Nodup → (∀ x ∈ xs, x ∈ ys) → ys.length ≤ xs.length → xs.Perm ys
  | [], ys, _, _, h => by
    have : ys = [] := List.length_eq_zero_iff.mp (Nat.le_zero.mp h)
    rw [this]
  | x :: xs, ys, nd, sub, h => by
    obtain ⟨n1, n2⟩ := List.nodup_cons.mp nd
    have hx := sub x List.mem_cons_self
    have p := List.perm_cons_erase hx
    refine (List.Perm.cons x (perm_of_sub n2 (fun z hz => ?_) ?_)).trans p.symm
    · exact (List.mem_erase_of_ne (fun e => n1 (by rw [← e]; exact hz))).mpr (sub z (List.mem_cons_of_mem _ hz))
    · have := List.length_erase_of_mem hx
      rw [List.length_cons] at h
      omega
/-- the name of the k-th file -/
def nmF : Nat → Str
  | 0 => "f"
  | k + 1 => bn (k + 1)
theorem bn_dot (k : Nat) : ("f." : Str) ++ Str.ofString (toString (k : Int)) = bn k := by
  unfold bn
  have : ("f" : Str) ++ ("." : Str) = "f." := by decide
  rw [this]
theorem nmF_ne : ∀ i, i < 12 → ∀ j, j < 12 → i ≠ j → nmF i ≠ nmF j := by decide +kernel
theorem nmF_nodup {n : Nat} (h : n ≤ 12) : ((List.range n).map nmF).Nodup := by
  rw [List.nodup_iff_pairwise_ne, List.pairwise_map]
  refine List.Pairwise.imp_of_mem (R := fun i j => i < j) (fun {i j} hi hj hij => ?_) List.pairwise_lt_range
  have a := List.mem_range.mp hi
  have b := List.mem_range.mp hj
  exact nmF_ne i (by omega) j (by omega) (by omega)
/-- the files are the row F, the newest first -/
structure RowF (fs : List (Str × Str)) (F : List Str) : Prop where
  ln : fs.length = F.length
  nd : (fs.map (·.1)).Nodup
  at_ : ∀ (k : Nat) (t : Str), F[k]? = some t → fs.lookup (nmF k) = some t
theorem RowF.perm {fs : List (Str × Str)} {F : List Str} (h : RowF fs F) (hl : F.length ≤ 12) : ((List.range F.length).map nmF).Perm (fs.map (·.1)) := by
  refine perm_of_sub (nmF_nodup hl) (fun x hx => ?_) (by rw [List.length_map, List.length_map, List.length_range, h.ln]; exact Nat.le_refl _)
  obtain ⟨k, hk, rfl⟩ := List.mem_map.mp hx
  have hk := List.mem_range.mp hk
  have e := h.at_ k _ (List.getElem?_eq_getElem hk)
  have hm : ∀ (fs : List (Str × Str)) (k t : Str), fs.lookup k = some t → k ∈ fs.map (·.1) := fun fs k t e => by
    induction fs with
    | nil => cases e
    | cons a r ih =>
      rw [lkc] at e
      by_cases c : k = a.1
      · rw [c]; exact List.mem_cons_self
      · rw [if_neg c] at e; exact List.mem_cons_of_mem _ (ih e)
  exact hm _ _ _ e
def spParts2 (K : PySem.W.Frag) : Sp := fun vs H Q _ => ∃ (a : Addr) (fs : List (Str × Str)) (F : List Str) (many : Nat), vs = [.ref a, .int (many : Int)] ∧ H a = some (.dK (strK fs)) ∧ RowF fs F ∧ 1 ≤ F.length ∧ F.length ≤ many + 1 ∧ many ≤ 8 ∧ (∀ (H' : Hp) (p : Addr), Same H H' → H p = none → H' p = some (.lst (F.reverse.map V.str)) → Q (.ref p) H')
theorem ok_law_parts {f : Addr} (T : Txt P w K mg) (F : Stands K "_law_parts" "_law_parts" s__law_parts [] f) : Callable P w K mg base 1 f ["_law_files", "_law_many"] [] (spParts2 K) := by
  refine F.call0 sc__law_parts (fun vs H Q E h => ?_) (fun cdv A outer s0 H vs Q E hr h => ?_) (fun _ _ _ _ _ _ us hl => match us, hl with | [_, _], _ => rfl)
  · obtain ⟨a, fs, F, many, rfl, _⟩ := h; rfl
  obtain ⟨a, fs, FF, many, rfl, ha, hF, h1, h2, h8, hQ⟩ := h
  refine ⟨_, (pss_cons (ps_set (i := 2) sc__law_parts.nd rfl (by first | exact Or.inl rfl | exact Or.inr rfl) (pe_op op_cat (pe_lst (pa_cons pe_str pa_nil)) (pe_lc (own := [("_law_k", 3)]) (by rfl) sc__law_parts.nd (pi_range1 (by rfl) T.b_range (pa_cons (pe_op op_sub (pe_callB call_lenD (by rfl) T.b_len (by decide +kernel) (pa_cons (pv 0) pa_nil)) pe_int) pa_nil)) (blkOk_by (own := [("_law_k", 3)]) (N := nm__law_parts) (sc := defScope s__law_parts) (by decide +kernel)) (fun _ _ _ _ _ => (pg_name (i := 3) sc__law_parts.nd rfl (by first | exact Or.inl rfl | exact Or.inr rfl))) (fun _ _ _ _ _ => pts_nil) (fun _ _ _ _ _ => (pe_op op_add_str pe_str (pe_callTy call_str_int (by rfl) T.b_str (by decide +kernel) (pa_cons (pe_op op_add (pv 3) pe_int) pa_nil)))))))
      (pss_cons (ps_if (PW.pt (pw_or (pt_cmpR (RY.op_neV (Nat.lt_of_succ_lt (hu_of hr))) (pe_callB cr_sortedS (by rfl) T.b_sorted (by decide +kernel) (pa_cons (pv 2) pa_nil)) (pe_callB (call_sortedD rfl) (by rfl) T.b_sorted (by decide +kernel) (pa_cons (pv 0) pa_nil)) (nomark _)) (pw_or1 (pt_cmpR op_gt (pe_callB call_lenD (by rfl) T.b_len (by decide +kernel) (pa_cons (pv 0) pa_nil)) (pe_op op_add (pv 1) pe_int) (nomark _))))) (pss_one (ps_ret pe_non)) pss_nil)
      (pss_one (ps_ret (pe_revL (pe_lc (own := [("_law_name", 4)]) (by rfl) sc__law_parts.nd (pi_list (pv 2)) (blkOk_by (own := [("_law_name", 4)]) (N := nm__law_parts) (sc := defScope s__law_parts) (by decide +kernel)) (fun _ _ _ _ _ => (pg_name (i := 4) sc__law_parts.nd rfl (by first | exact Or.inl rfl | exact Or.inr rfl))) (fun _ _ _ _ _ => pts_nil) (fun _ _ _ _ _ => (pe_dget (hu_of hr) (pv 0) (pv 4) (fun _ _ => rfl))))))))), ?_⟩
  walk_at "in"
  have hlF : (strK fs).length = FF.length := by unfold strK; rw [List.length_map, hF.ln]
  walk_at "go"
  intro p0 f0
  have sm0 := same_new f0 (.lst [.str "f"])
  have d0 := upd_same (H := H) (a := p0) (o := .lst [.str "f"])
  generalize upd H p0 (.lst [.str "f"]) = H1 at sm0 d0 ⊢
  have ha1 := sm0 _ _ ha
  walk_at "go"
  have en : (((strK fs).length : Int) - 1).toNat = FF.length - 1 := by rw [hlF]; omega
  rw [en]
  intro D fD
  refine lc_it walk_range (fun i H' => Same H1 H' ∧ H' D = some (.lst ((List.range i).map fun k => V.str (bn (k + 1))))) ⟨same_new fD _, upd_same⟩ (fun _ _ _ _ => trivial) (fun i y H2 H3 hi hP hy => ?_) (fun H2 hP => ?_)
  · obtain ⟨rfl, rfl⟩ := hy
    obtain ⟨s3, d3⟩ := hP
    have ei : (0 : Int) + (i : Nat) + 1 = ((i + 1 : Nat) : Int) := by omega
    have hlen := RN.len_toString ((0 : Int) + (i : Nat) + 1)
    have lg0 : ((0 : Int) + (i : Nat) + 1).natAbs.log2 ≤ ((0 : Int) + (i : Nat) + 1).natAbs := Nat.log2_le_self _
    have lg : ((0 : Int) + (i : Nat) + 1).natAbs.log2 < 1920 := by omega
    have z1 : ("f." : Str).length + (Str.ofString (toString ((0 : Int) + (i : Nat) + 1))).length ≤ sizeLine := by
      have e2 : ("f." : Str).length = 2 := rfl
      rw [sizeLine_eq, e2]; omega
    have ln : ((List.range i).map fun k => V.str (bn (k + 1))).length < sizeLine := by rw [List.length_map, List.length_range, sizeLine_eq]; omega
    walk_at "go"
    rw [upd_same, List.range_succ, List.map_append, ei, bn_dot]; rfl
  obtain ⟨s2, d2⟩ := hP
  have d02 := s2 _ _ d0
  have ha2 := s2 _ _ ha1
  have sm2 := sm0.trans s2
  refine ⟨p0, D, [.str "f"], _, rfl, rfl, d02, d2, (by rw [List.length_map, List.length_range, sizeLine_eq]; show 1 + _ ≤ _; omega), fun p1 f1 => ?_⟩
  have enm : ([.str "f"] : List V) ++ ((List.range (FF.length - 1)).map fun k => V.str (bn (k + 1))) = ((List.range FF.length).map nmF).map V.str := by
    obtain ⟨m, hm⟩ : ∃ m, FF.length = m + 1 := ⟨FF.length - 1, by omega⟩
    rw [hm, List.range_succ_eq_map, List.map_cons, List.map_cons, List.map_map, List.map_map]
    rfl
  rw [enm]
  have s3 := same_new f1 (.lst (((List.range FF.length).map nmF).map V.str))
  have d3 := upd_same (H := H2) (a := p1) (o := .lst (((List.range FF.length).map nmF).map V.str))
  generalize upd H2 p1 (.lst (((List.range FF.length).map nmF).map V.str)) = H3 at s3 d3 ⊢
  have ha3 := s3 _ _ ha2
  have sm3 := sm2.trans s3
  have hpm := hF.perm (by omega : FF.length ≤ 12)
  clear d2 d02 s2 d0 sm0 ha1 ha2 f0 fD f1 sm2 s3
  walk_at "go"
  refine ⟨by rw [List.length_map, List.length_range]; omega, fun ys q pm so fq => ?_⟩
  have s4 := same_new fq (.lst (ys.map V.str))
  have hq4 := upd_same (H := H3) (a := q) (o := .lst (ys.map V.str))
  generalize upd H3 q (.lst (ys.map V.str)) = H4 at s4 hq4 ⊢
  have ha4 := s4 _ _ ha3
  have d4 := s4 _ _ d3
  have sm4 := sm3.trans s4
  clear s4 ha3 d3 sm3 fq
  refine ⟨_, rfl, a, strK fs, fs.map (·.1), rfl, .inl ha4, (by unfold strK; rw [List.map_map, List.map_map]; rfl), (by rw [List.length_map, hF.ln]; omega), fun ys' q' pm' so' fq' => ?_⟩
  obtain rfl : ys = ys' := RE.uniq (pm.trans (hpm.trans pm'.symm)) (RE.sorted_pw so) (RE.sorted_pw so')
  have s5 := same_new fq' (.lst (ys.map V.str))
  have hq5 := upd_same (H := H4) (a := q') (o := .lst (ys.map V.str))
  generalize upd H4 q' (.lst (ys.map V.str)) = H5 at s5 hq5 ⊢
  have ha5 := s5 _ _ ha4
  have d5 := s5 _ _ d4
  have sm5 := sm4.trans s5
  refine ⟨q, q', ys.map V.str, rfl, rfl, SqL.of (s5 _ _ hq4), SqL.of hq5, (by rw [List.all_map]; exact List.all_eq_true.mpr fun _ _ => rfl), ?_⟩
  clear s5 ha4 d4 sm4 fq' hq4 hq5 pm pm' so so'
  have ec : decide ((many : Int) + 1 < ((strK fs).length : Int)) = false := decide_eq_false (by rw [hlF]; omega)
  walk_at "go"
  intro D2 fD2
  refine lc_it (walk_list (xs := ((List.range FF.length).map nmF).map V.str)) (fun i H' => Same H5 H' ∧ H' D2 = some (.lst ((FF.take i).map V.str))) ⟨same_new fD2 _, upd_same⟩ (fun i H' _ h => SqL.of (h.1 _ _ d5)) (fun i y H6 H7 hi hP hy => ?_) (fun H6 hP => ?_)
  · obtain ⟨rfl, hy⟩ := hy
    obtain ⟨s7, d7⟩ := hP
    rw [List.length_map, List.length_map, List.length_range] at hi
    rw [List.getElem?_map, List.getElem?_map, List.getElem?_range hi] at hy
    cases hy
    have hF1 := List.getElem?_eq_getElem hi
    have hv : valV (strK fs) (Sum.inr (nmF i)) = some (.str FF[i]) := by rw [valV_strK, hF.at_ i _ hF1]; rfl
    have ha7 := s7 _ _ ha5
    have g := RW.dget_s ha7 hv
    have ln : ((FF.take i).map V.str).length < sizeLine := by rw [List.length_map, List.length_take, sizeLine_eq]; omega
    walk_at "go"
    rw [upd_same]
    have et := List.take_add_one (l := FF) (i := i)
    rw [hF1] at et
    rw [et, List.map_append]; rfl
  obtain ⟨s6, d6⟩ := hP
  rw [List.length_map, List.length_map, List.length_range, List.take_length] at d6
  walk_at "go"
  intro p fp
  rw [← List.map_reverse]
  exact hQ _ p ((sm5.trans s6).trans (same_new fp _)) ((sm5.trans s6).free fp) upd_same
end
end K17

set_option Elab.async false
set_option linter.all false
set_option maxRecDepth 100000
set_option maxHeartbeats 0

namespace K17
open PySem PySem.Spec PyProof.Rows L2 RC
section
variable {P : Program} {w : World} {K : PySem.W.Frag} {mg : Str → Option Value} {base : Heap}
/-! ### where a row of files is cut -/
abbrev jn (xs : List Str) : Str := Txt.join "" xs
structure Cut (rows : List Str) (P : List (List Str)) (size : Int) : Prop where
  dr : ∃ ds, rows = ds ++ P.flatten ∧ (ds = [] ∨ 1 < P.length)
  r1 : ∀ r ∈ rows, 1 ≤ r.length
  r2 : ∀ r ∈ rows, r.length ≤ 1000
  rl : rows.length ≤ 1000
  c1 : ∀ p ∈ P, p ≠ []
  c2 : ∀ p ∈ P, 1 < p.length → ((jn p).length : Int) < size
  c3 : ∀ (k : Nat) (p q : List Str) (r : Str), P[k]? = some p → P[k + 1]? = some (r :: q) → size ≤ (jn p).length + r.length
def spCut (K : PySem.W.Frag) : Sp := fun vs H Q _ => ∃ (a b : Addr) (P : List (List Str)) (rows : List Str) (size : Int), vs = [.ref a, .ref b, .int size] ∧ H a = some (.lst ((P.map jn).map V.str)) ∧ H b = some (.lst (rows.map V.str)) ∧ Cut rows P size ∧ size.natAbs ≤ 1000000 ∧ (∀ (H' : Hp), Same H H' → Q (.bl true) H')
abbrev sgC (a b : Addr) (size : Int) (at_ : Nat) (o4 o5 : Option V) : L2.St := [some (.ref a), some (.ref b), some (.int size), some (.int (at_ : Int)), o4, o5]
theorem jn_len (xs : List Str) : (jn xs).length = (xs.map (·.length)).sum := by
  rw [catS_len]
  show (Txt.join "" xs).length = _
  rw [join_cat, tx_len]
theorem jn_app (xs ys : List Str) : jn (xs ++ ys) = jn xs ++ jn ys := by
  show Txt.join "" (xs ++ ys) = Txt.join "" xs ++ Txt.join "" ys
  rw [join_cat, join_cat, join_cat]
  unfold catS
  rw [List.map_append, List.flatten_append]
  exact congrArg Str.mk (by simp)
theorem cut_q {L q R : List Str} {j : Nat} (hj : j ≤ q.length) : cutV ((L ++ q ++ R).map V.str) (some ((L.length + j : Nat) : Int)) (some ((L.length + q.length : Nat) : Int)) = (q.drop j).map V.str := by
  unfold cutV
  rw [HT.sIx_nat, HT.sIx_nat, List.length_map]
  have h1 : min (L.length + j) (L ++ q ++ R).length = L.length + j := Nat.min_eq_left (by rw [List.length_append, List.length_append]; omega)
  have h2 : min (L.length + q.length) (L ++ q ++ R).length = L.length + q.length := Nat.min_eq_left (by rw [List.length_append, List.length_append]; omega)
  rw [h1, h2, ← List.map_drop, ← List.map_take]
  congr 1
  have h3 : (L ++ q ++ R).drop (L.length + j) = q.drop j ++ R := by
    rw [List.append_assoc, ← List.drop_drop, List.drop_left, List.drop_append_of_le_length hj]
  have h4 : L.length + q.length - (L.length + j) = (q.drop j).length := by rw [List.length_drop]; omega
  rw [h3, h4, List.take_left]
theorem sum_drop : ∀ (q : List Str) (j : Nat), (∀ r ∈ q, 1 ≤ r.length) → 0 < j → j ≤ q.length → ((q.drop j).map (·.length)).sum < (q.map (·.length)).sum
  | [], j, _, h0, hj => by rw [List.length_nil] at hj; omega
  | r :: q, j + 1, h, _, hj => by
    have h1 := h r List.mem_cons_self
    rw [List.drop_succ_cons, List.map_cons, List.sum_cons]
    rcases Nat.eq_zero_or_pos j with rfl | p
    · rw [List.drop_zero]; omega
    · have := sum_drop q j (fun x hx => h x (List.mem_cons_of_mem _ hx)) p (by rw [List.length_cons] at hj; omega)
      omega
theorem sum_le : ∀ (q : List Str), (∀ r ∈ q, r.length ≤ 1000) → (q.map (·.length)).sum ≤ 1000 * q.length
  | [], _ => Nat.le_refl _
  | r :: q, h => by
    have h1 := h r List.mem_cons_self
    have := sum_le q (fun x hx => h x (List.mem_cons_of_mem _ hx))
    rw [List.map_cons, List.sum_cons, List.length_cons]; omega
structure CutI (K : PySem.W.Frag) (H : Hp) (a b : Addr) (size : Int) (ds : List Str) (P : List (List Str)) (i : Nat) (σ : L2.St) (H' : Hp) : Prop where
  sm : Same H H'
  σ : ∃ o4 o5, σ = sgC a b size (ds ++ (P.take (P.length - i)).flatten).length o4 o5
theorem ok_cut {f : Addr} (T : Txt P w K mg) (F : Stands K "_law_cut_right" "_law_cut_right" s__law_cut_right [] f) : Callable P w K mg base 1 f ["_law_parts_here", "_law_rows", "_law_size"] [] (spCut K) := by
  refine F.call0 sc__law_cut_right (fun vs H Q E h => ?_) (fun cdv A outer s0 H vs Q E hr h => ?_) (fun _ _ _ _ _ _ us hl => match us, hl with | [_, _, _], _ => rfl)
  · obtain ⟨a, b, PP, rows, size, rfl, _⟩ := h; rfl
  obtain ⟨a, b, PP, rows, size, rfl, ha, hb, hC, hs, hQ⟩ := h
  refine ⟨_, (pss_cons (ps_set (i := 3) sc__law_cut_right.nd rfl (by first | exact Or.inl rfl | exact Or.inr rfl) (pe_callB call_len (by rfl) T.b_len (by decide +kernel) (pa_cons (pv 1) pa_nil)))
      (pss_cons (ps_for PassesOwn.never rfl (pi_range3 (by rfl) T.b_range (pa_cons (pe_op op_sub (pe_callB call_len (by rfl) T.b_len (by decide +kernel) (pa_cons (pv 0) pa_nil)) pe_int) (pa_cons (pe_un un_neg pe_int) (pa_cons (pe_un un_neg pe_int) pa_nil)))) (pg_name (i := 4) sc__law_cut_right.nd rfl (by first | exact Or.inl rfl | exact Or.inr rfl)) (pss_cons (ps_set (i := 5) sc__law_cut_right.nd rfl (by first | exact Or.inl rfl | exact Or.inr rfl) (pv 3))
      (pss_cons (ps_while PassesOwn.never (PW.pt (pw_and (pt_cmpR op_gt (pv 5) pe_int (nomark _)) (pw_and1 (pt_cmpR op_lt (pe_callB call_len (by rfl) T.b_len (by decide +kernel) (pa_cons (pe_join pe_str (pe_slice sl_list (pv 1) (po_some (pv 5)) (po_some (pv 3)))) pa_nil)) (pe_callB call_len (by rfl) T.b_len (by decide +kernel) (pa_cons (pe_ix ix_list (pv 0) (pv 4) (fun _ _ => rfl)) pa_nil)) (nomark _))))) (pss_one (ps_set (i := 5) sc__law_cut_right.nd rfl (by first | exact Or.inl rfl | exact Or.inr rfl) (pe_op op_sub (pv 5) pe_int))))
      (pss_cons (ps_if (PW.pt (pw_or (pt_cmpR op_ne (pe_join pe_str (pe_slice sl_list (pv 1) (po_some (pv 5)) (po_some (pv 3)))) (pe_ix ix_list (pv 0) (pv 4) (fun _ _ => rfl)) (nomark _)) (pw_or1 (PW.pt (pw_and (pt_cmpR op_gt (pe_op op_sub (pv 3) (pv 5)) pe_int (nomark _)) (pw_and1 (pt_cmpR op_ge (pe_callB call_len (by rfl) T.b_len (by decide +kernel) (pa_cons (pe_ix ix_list (pv 0) (pv 4) (fun _ _ => rfl)) pa_nil)) (pv 2) (nomark _)))))))) (pss_one (ps_ret pe_bl)) pss_nil)
      (pss_cons (ps_if (PW.pt (pw_and (pt_cmpR op_gt (pv 4) pe_int (nomark _)) (pw_and (pt_cmpR op_gt (pv 5) pe_int (nomark _)) (pw_and1 (pt_cmpR op_lt (pe_op op_add (pe_callB call_len (by rfl) T.b_len (by decide +kernel) (pa_cons (pe_ix ix_list (pv 0) (pe_op op_sub (pv 4) pe_int) (fun _ _ => rfl)) pa_nil)) (pe_callB call_len (by rfl) T.b_len (by decide +kernel) (pa_cons (pe_ix ix_list (pv 1) (pv 5) (fun _ _ => rfl)) pa_nil))) (pv 2) (nomark _)))))) (pss_one (ps_ret pe_bl)) pss_nil)
      (pss_one (ps_set (i := 3) sc__law_cut_right.nd rfl (by first | exact Or.inl rfl | exact Or.inr rfl) (pv 5))))))))
      (pss_one (ps_ret (pe_or (pe_cmpR op_eq (pv 3) pe_int (nomark _)) (pe_one (pe_cmpR op_gt (pe_callB call_len (by rfl) T.b_len (by decide +kernel) (pa_cons (pv 0) pa_nil)) pe_int (nomark _)))))))), ?_⟩
  walk_at "in"
  have hla : ((PP.map jn).map V.str).length = PP.length := by rw [List.length_map, List.length_map]
  have hlb : (rows.map V.str).length = rows.length := List.length_map _
  have hrl := hC.rl
  obtain ⟨ds, hds, hdp⟩ := hC.dr
  have hPl : PP.length ≤ rows.length := by
    rw [hds, List.length_append]
    have : PP.length ≤ PP.flatten.length := by
      have h1 := hC.c1
      clear hds hdp hla ha hC hQ
      induction PP with
      | nil => exact Nat.zero_le _
      | cons p r ih =>
        rw [List.flatten_cons, List.length_append, List.length_cons]
        have := ih (fun q hq => h1 q (List.mem_cons_of_mem _ hq))
        have : 0 < p.length := List.length_pos_iff.mpr (h1 p List.mem_cons_self)
        omega
    omega
  walk_at "go"
  refine ⟨RgC.neg (by omega) (by omega) (by decide) (by decide), ?_⟩
  have en : (((((PP.map jn).map V.str).length : Nat) : Int) - 1 - (-1)).toNat = PP.length := by rw [hla]; omega
  rw [en]
  refine for_it walk_rangeC (fun i σ H' => CutI K H a b size ds PP i σ H') ⟨Same.refl H, _, _, by rw [Nat.sub_zero, List.take_length, ← hds, hlb]; rfl⟩ (fun _ _ _ _ _ => trivial) (fun i x σ H9 H2 hi hP hx => ?_) (fun σ H2 hP => ?_)
  · obtain ⟨rfl, rfl⟩ := hx
    obtain ⟨s2, o4, o5, rfl⟩ := hP
    obtain ⟨k, hk⟩ : ∃ k, PP.length - i = k + 1 := ⟨PP.length - i - 1, by omega⟩
    have hk2 : PP.length - (i + 1) = k := by omega
    have hkl : k < PP.length := by omega
    have ek : ((((PP.map jn).map V.str).length : Nat) : Int) - 1 + (i : Nat) * (-1) = (k : Int) := by rw [hla]; omega
    show gName 4 (V.int (((((PP.map jn).map V.str).length : Nat) : Int) - 1 + (i : Nat) * (-1))) _ _ _
    rw [ek, hk]
    have hq := List.getElem?_eq_getElem hkl
    generalize hq2 : PP[k] = q at hq
    have et : PP.take (k + 1) = PP.take k ++ [q] := by
      have := List.take_add_one (l := PP) (i := k)
      rw [hq] at this; exact this
    have hqm : q ∈ PP := List.mem_of_getElem? hq
    have erw : rows = (ds ++ (PP.take k).flatten) ++ q ++ (PP.drop (k + 1)).flatten := by
      rw [hds]
      have : PP = PP.take (k + 1) ++ PP.drop (k + 1) := (List.take_append_drop _ _).symm
      calc ds ++ PP.flatten = ds ++ (PP.take (k + 1) ++ PP.drop (k + 1)).flatten := by rw [← this]
        _ = _ := by rw [et, List.flatten_append, List.flatten_append]; simp
    have e1 : (ds ++ (PP.take (k + 1)).flatten).length = (ds ++ (PP.take k).flatten).length + q.length := by
      rw [et, List.flatten_append, List.flatten_singleton]; simp; omega
    rw [e1]
    have q1 : ∀ r ∈ q, 1 ≤ r.length := fun r hr => hC.r1 r (by rw [erw]; simp [hr])
    have q2 : ∀ r ∈ q, r.length ≤ 1000 := fun r hr => hC.r2 r (by rw [erw]; simp [hr])
    have ql0 : q.length ≤ rows.length := by rw [erw]; simp; omega
    have ql : q.length ≤ 1000 := by omega
    have hB0 : (ds ++ (PP.take k).flatten).length + q.length ≤ rows.length := by
      have := congrArg List.length erw
      rw [List.length_append, List.length_append] at this
      omega
    have hB : (ds ++ (PP.take k).flatten).length + q.length ≤ 1000 := by omega
    generalize hL : ds ++ (PP.take k).flatten = L at erw hB hB0
    have hcut : ∀ j, j ≤ q.length → cutV (rows.map V.str) (some ((L.length + j : Nat) : Int)) (some ((L.length + q.length : Nat) : Int)) = (q.drop j).map V.str := fun j hj => by rw [erw]; exact cut_q hj
    have hpk : atI ((PP.map jn).map V.str) (k : Int) = some (.str (jn q)) := atI_nat (by rw [List.getElem?_map, List.getElem?_map, hq]; rfl)
    have jl : (jn q).length ≤ 1000000 := by rw [jn_len]; have := sum_le q q2; omega
    have jd : ∀ j, ((q.drop j).map (·.length)).sum ≤ 1000000 := fun j => by
      have := sum_le (q.drop j) (fun r hr => q2 r (List.mem_of_mem_drop hr))
      have : (q.drop j).length ≤ q.length := by rw [List.length_drop]; omega
      omega
    refine seq_of (fun σ' H3 => H3 = H2 ∧ σ' = sgC a b size (L.length + q.length) (some (.int (k : Int))) (some (.int ((L.length + q.length : Nat) : Int)))) (fun b' kb => ?_) (fun σ' H3 hm => ?_)
    · walk_at "go"
      exact kb _ _ ⟨rfl, rfl⟩
    obtain ⟨rfl, rfl⟩ := hm
    refine seq_of (fun σ' H4 => Same H H4 ∧ σ' = sgC a b size (L.length + q.length) (some (.int (k : Int))) (some (.int (L.length : Int)))) (fun b' kb => ?_) (fun σ' H4 hm => ?_)
    · refine ⟨fun m σ H4 => m ≤ q.length ∧ Same H H4 ∧ σ = sgC a b size (L.length + q.length) (some (.int (k : Int))) (some (.int ((L.length + m : Nat) : Int))), ⟨q.length, Nat.le_refl _, s2, rfl⟩, fun m σ H4 ⟨hm, s4, hσ⟩ => ?_⟩
      subst hσ
      have ha4 := s4 _ _ ha
      have hb4 := s4 _ _ hb
      rcases m with _ | m
      · rcases Nat.eq_zero_or_pos L.length with e0 | e0
        · have c0 : decide ((0 : Int) < ((L.length + 0 : Nat) : Int)) = false := decide_eq_false (by omega)
          walk_at "go"
          exact kb _ _ ⟨s4, rfl⟩
        · have c0 : decide ((0 : Int) < ((L.length + 0 : Nat) : Int)) = true := decide_eq_true (by omega)
          walk_at "go"
          refine ⟨⟨_, rfl⟩, _, rfl, _, rfl, _, rfl, _, rfl, _, rfl, b, _, rfl, SqL.of hb4, fun p fp => ?_⟩
          rw [hcut 0 (by omega)]
          have s5 := s4.trans (same_new fp (.lst ((q.drop (0)).map V.str)))
          have d5 := upd_same (H := H4) (a := p) (o := .lst ((q.drop (0)).map V.str))
          generalize upd H4 p (.lst ((q.drop (0)).map V.str)) = H5 at s5 d5 ⊢
          have ha5 := s5 _ _ ha
          have jz := jd (0)
          refine ⟨"", p, q.drop (0), rfl, rfl, .inl (SqL.of d5), (by show _ + _ * 0 ≤ _; omega), ?_⟩
          refine ⟨_, (jn (q.drop (0))).length, rfl, ⟨by rw [jn_len, sizeLine_eq]; omega, rfl⟩, ?_⟩
          refine ⟨_, rfl, _, rfl, a, _, (k : Int), _, rfl, rfl, SqL.of ha5, hpk, ?_⟩
          refine ⟨_, (jn q).length, rfl, ⟨by rw [sizeLine_eq]; omega, rfl⟩, ?_⟩
          refine ⟨_, _, rfl, rfl, _, rfl, ?_⟩
          rw [List.drop_zero]
          rw [decide_eq_false (Nat.lt_irrefl _ ∘ Int.ofNat_lt.mp)]
          exact kb _ _ ⟨s5, rfl⟩
      · have c0 : decide ((0 : Int) < ((L.length + (m + 1) : Nat) : Int)) = true := decide_eq_true (by omega)
        walk_at "go"
        refine ⟨⟨_, rfl⟩, _, rfl, _, rfl, _, rfl, _, rfl, _, rfl, b, _, rfl, SqL.of hb4, fun p fp => ?_⟩
        rw [hcut (m + 1) (by omega)]
        have s5 := s4.trans (same_new fp (.lst ((q.drop (m + 1)).map V.str)))
        have d5 := upd_same (H := H4) (a := p) (o := .lst ((q.drop (m + 1)).map V.str))
        generalize upd H4 p (.lst ((q.drop (m + 1)).map V.str)) = H5 at s5 d5 ⊢
        have ha5 := s5 _ _ ha
        have jz := jd (m + 1)
        refine ⟨"", p, q.drop (m + 1), rfl, rfl, .inl (SqL.of d5), (by show _ + _ * 0 ≤ _; omega), ?_⟩
        refine ⟨_, (jn (q.drop (m + 1))).length, rfl, ⟨by rw [jn_len, sizeLine_eq]; omega, rfl⟩, ?_⟩
        refine ⟨_, rfl, _, rfl, a, _, (k : Int), _, rfl, rfl, SqL.of ha5, hpk, ?_⟩
        refine ⟨_, (jn q).length, rfl, ⟨by rw [sizeLine_eq]; omega, rfl⟩, ?_⟩
        refine ⟨_, _, rfl, rfl, _, rfl, ?_⟩
        have hlt : ((jn (q.drop (m + 1))).length : Int) < ((jn q).length : Int) := by
          have := sum_drop q (m + 1) q1 (by omega) hm
          rw [jn_len, jn_len]; omega
        rw [decide_eq_true hlt]
        refine ⟨_, fun _ _ h => h, ?_⟩
        have em : ((L.length + (m + 1) : Nat) : Int) - 1 = ((L.length + m : Nat) : Int) := by omega
        refine ⟨_, rfl, _, _, rfl, rfl, ?_⟩
        exact ⟨m, by omega, by omega, s5, congrArg (fun z => sgC a b size (L.length + q.length) (some (.int (k : Int))) (some (.int z))) em⟩
    obtain ⟨s4, rfl⟩ := hm
    have hc0 : cutV (rows.map V.str) (some (L.length : Int)) (some ((L.length + q.length : Nat) : Int)) = q.map V.str := by
      have := hcut 0 (Nat.zero_le _)
      rw [List.drop_zero] at this
      exact this
    have ha4 := s4 _ _ ha
    have hb4 := s4 _ _ hb
    have j0 := jd 0
    rw [List.drop_zero] at j0
    refine seq_of (fun σ' H6 => Same H H6 ∧ σ' = sgC a b size (L.length + q.length) (some (.int (k : Int))) (some (.int (L.length : Int)))) (fun b' kb => ?_) (fun σ' H6 hm => ?_)
    · refine ⟨⟨_, rfl⟩, _, rfl, _, rfl, _, rfl, _, rfl, _, rfl, b, _, rfl, SqL.of hb4, fun p fp => ?_⟩
      rw [hc0]
      have s5 := s4.trans (same_new fp (.lst (q.map V.str)))
      have d5 := upd_same (H := H4) (a := p) (o := .lst (q.map V.str))
      generalize upd H4 p (.lst (q.map V.str)) = H5 at s5 d5 ⊢
      have ha5 := s5 _ _ ha
      refine ⟨"", p, q, rfl, rfl, .inl (SqL.of d5), (by show _ + _ * 0 ≤ _; omega), ?_⟩
      have e7 : decide (V.str (jn q) = V.str (jn q)) = true := decide_eq_true rfl
      have e8 : (!decide (V.str (jn q) = V.str (jn q))) = false := by rw [decide_eq_true rfl]; rfl
      have jl2 : (jn q).length ≤ sizeLine := by rw [sizeLine_eq]; omega
      by_cases c1 : 1 < q.length
      · have g1 : decide ((1 : Int) < ((L.length + q.length : Nat) : Int) - (L.length : Int)) = true := decide_eq_true (by omega)
        have g2 : decide (size ≤ ((jn q).length : Int)) = false := decide_eq_false (by have := hC.c2 q hqm c1; omega)
        walk_at "go"
        refine ⟨⟨jl2, rfl⟩, ?_⟩
        walk_at "go"
        exact kb _ _ ⟨s5, rfl⟩
      · have g1 : decide ((1 : Int) < ((L.length + q.length : Nat) : Int) - (L.length : Int)) = false := decide_eq_false (by omega)
        walk_at "go"
        exact kb _ _ ⟨s5, rfl⟩
    obtain ⟨s6, rfl⟩ := hm
    have ha6 := s6 _ _ ha
    have hb6 := s6 _ _ hb
    refine seq_of (fun σ' H7 => Same H H7 ∧ σ' = sgC a b size (L.length + q.length) (some (.int (k : Int))) (some (.int (L.length : Int)))) (fun b' kb => ?_) (fun σ' H7 hm => ?_)
    · rcases Nat.eq_zero_or_pos k with k0 | k0
      · have g0 : decide ((0 : Int) < (k : Int)) = false := decide_eq_false (by omega)
        walk_at "go"
        exact kb _ _ ⟨s6, rfl⟩
      · have g0 : decide ((0 : Int) < (k : Int)) = true := decide_eq_true (by omega)
        rcases Nat.eq_zero_or_pos L.length with l0 | l0
        · have g1 : decide ((0 : Int) < (L.length : Int)) = false := decide_eq_false (by omega)
          walk_at "go"
          exact kb _ _ ⟨s6, rfl⟩
        · have g1 : decide ((0 : Int) < (L.length : Int)) = true := decide_eq_true (by omega)
          obtain ⟨r, q', hqr⟩ : ∃ r q', q = r :: q' := by
            cases hqq : q with
            | nil => exact absurd hqq (hC.c1 q hqm)
            | cons r q' => exact ⟨r, q', rfl⟩
          have hkl1 : k - 1 < PP.length := by omega
          have hp1 := List.getElem?_eq_getElem hkl1
          generalize PP[k - 1] = p' at hp1
          have em : (k : Int) - 1 = ((k - 1 : Nat) : Int) := by omega
          have hpk1 : atI ((PP.map jn).map V.str) ((k : Int) - 1) = some (.str (jn p')) := by rw [em]; exact atI_nat (by rw [List.getElem?_map, List.getElem?_map, hp1]; rfl)
          have hrow : atI (rows.map V.str) (L.length : Int) = some (.str r) := atI_nat (by
            rw [List.getElem?_map, erw, hqr, List.append_assoc, List.getElem?_append_right (Nat.le_refl _), Nat.sub_self]; rfl)
          have hc3 := hC.c3 (k - 1) p' q' r hp1 (by rw [show k - 1 + 1 = k by omega, hq, hqr])
          have g2 : decide (((jn p').length : Int) + (r.length : Int) < size) = false := decide_eq_false (by omega)
          have hpm : p' ∈ PP := List.mem_of_getElem? hp1
          have p2 : ∀ x ∈ p', x.length ≤ 1000 := fun x hx => hC.r2 x (by rw [hds]; exact List.mem_append_right _ (List.mem_flatten.mpr ⟨p', hpm, hx⟩))
          have pl : p'.length ≤ 1000 := by
            have h1 : p'.length ≤ PP.flatten.length := by
              obtain ⟨u, v, huv⟩ := List.append_of_mem hpm
              rw [huv, List.flatten_append, List.flatten_cons, List.length_append, List.length_append]; omega
            have h2 := congrArg List.length hds
            rw [List.length_append] at h2
            omega
          have jp : (jn p').length ≤ sizeLine := by rw [jn_len, sizeLine_eq]; have := sum_le p' p2; omega
          have jr : r.length ≤ sizeLine := by rw [sizeLine_eq]; have := q2 r (by rw [hqr]; exact List.mem_cons_self); omega
          walk_at "go"
          refine ⟨⟨jp, rfl⟩, ?_⟩
          walk_at "go"
          refine ⟨⟨jr, rfl⟩, ?_⟩
          walk_at "go"
          exact kb _ _ ⟨s6, rfl⟩
    obtain ⟨s7, rfl⟩ := hm
    walk_at "go"
    exact ⟨s7, _, _, by rw [hk2, hL]; rfl⟩
  obtain ⟨s2, o4, o5, rfl⟩ := hP
  rw [Nat.sub_self, List.take_zero, List.flatten_nil, List.append_nil]
  have ha2 := s2 _ _ ha
  by_cases d0 : ds = []
  · subst d0
    have e0 : decide (V.int ((([] : List Str).length : Nat) : Int) = V.int 0) = true := decide_eq_true rfl
    walk_at "go"
    exact hQ _ s2
  · have h1 : 1 < PP.length := hdp.resolve_left d0
    have e0 : decide (V.int ((ds.length : Nat) : Int) = V.int 0) = false := decide_eq_false fun z => by
      have : ((ds.length : Nat) : Int) = 0 := V.int.inj z
      exact d0 (List.length_eq_zero_iff.mp (by omega))
    have e1 : decide ((1 : Int) < ((((PP.map jn).map V.str).length : Nat) : Int)) = true := decide_eq_true (by rw [hla]; omega)
    walk_at "go"
    show Q (V.bl (decide ((1 : Int) < ((((PP.map jn).map V.str).length : Nat) : Int)))) H2
    rw [e1]
    exact hQ _ s2
end
end K17

set_option Elab.async false
set_option linter.all false
set_option maxRecDepth 100000
set_option maxHeartbeats 0
namespace K17
open PySem PySem.Spec PyProof.Rows L2 RC
section
variable {P : Program} {w : World} {K : PySem.W.Frag} {mg : Str → Option Value} {base : Heap}
/-! ### the plain law: what a rollover does to a row -/
theorem putS_keys (ts : List (Str × Str)) (s t : Str) : (putS ts s t).map (·.1) = if s ∈ ts.map (·.1) then ts.map (·.1) else ts.map (·.1) ++ [s] := by
  unfold putS
  have e : ts.any (fun e => decide (e.1 = s)) = decide (s ∈ ts.map (·.1)) := by
    rw [Bool.eq_iff_iff, List.any_eq_true, decide_eq_true_eq, List.mem_map]
    exact ⟨fun ⟨e, h, z⟩ => ⟨e, h, of_decide_eq_true z⟩, fun ⟨e, h, z⟩ => ⟨e, h, decide_eq_true z⟩⟩
  rw [e]
  by_cases c : s ∈ ts.map (·.1)
  · rw [decide_eq_true c, if_pos rfl, if_pos c, List.map_map]
    refine List.map_congr_left fun e _ => ?_
    show (if e.1 = s then (e.1, t) else e).1 = e.1
    split <;> rfl
  · rw [decide_eq_false c, if_neg (fun z => nomatch z), if_neg c, List.map_append]; rfl
theorem put_nd {ts : List (Str × Str)} (h : (ts.map (·.1)).Nodup) (s t : Str) : ((putS ts s t).map (·.1)).Nodup := by
  rw [putS_keys]
  by_cases c : s ∈ ts.map (·.1)
  · rw [if_pos c]; exact h
  · rw [if_neg c]
    exact List.nodup_append.mpr ⟨h, List.nodup_cons.mpr ⟨(by simp), List.nodup_nil⟩, fun a ha b hb => by rw [List.mem_singleton.mp hb]; exact fun z => c (z ▸ ha)⟩
theorem flt_nd {ts : List (Str × Str)} (h : (ts.map (·.1)).Nodup) (f : Str × Str → Bool) : ((ts.filter f).map (·.1)).Nodup := h.sublist (List.Sublist.map _ (List.filter_sublist))
theorem mvf_nd {s : FS} (h : (s.files.map (·.1)).Nodup) (a b : Str) : ((s.mvf a b).files.map (·.1)).Nodup := by
  unfold FS.mvf
  split
  · exact put_nd (flt_nd h _) _ _
  · exact h
theorem shift_nd : ∀ (n : Nat) (s : FS), (s.files.map (·.1)).Nodup → ((s.shift n).files.map (·.1)).Nodup
  | 0, _, h => h
  | n + 1, s, h => shift_nd n (s.mvf (bn (n + 1)) (bn (n + 2))) (mvf_nd h _ _)
theorem roll_nd {s : FS} (h : (s.files.map (·.1)).Nodup) (b : Nat) : ((s.roll b).files.map (·.1)).Nodup := by
  unfold FS.roll
  split
  · exact h
  · exact mvf_nd (shift_nd _ _ h) _ _
theorem op1_nd {s : FS} (h : (s.files.map (·.1)).Nodup) : (s.op1.files.map (·.1)).Nodup := by
  unfold FS.op1
  split
  · exact h
  · exact put_nd h _ _
theorem mvf_lk (s : FS) (a b x : Str) : (s.mvf a b).files.lookup x = match s.files.lookup a with
    | some t => if x = b then some t else if x = a then none else s.files.lookup x
    | none => s.files.lookup x := by
  unfold FS.mvf
  cases e : s.files.lookup a with
  | some t =>
    show (putS (s.files.filter fun e => decide (e.1 ≠ a)) b t).lookup x = _
    rw [lookup_putS, lookup_rem]
  | none => rfl
/-- the texts by their numbers -/
abbrev gg (s : FS) (k : Nat) : Option Str := s.files.lookup (nmF k)
/-- no other files -/
def Only (s : FS) : Prop := ∀ x, (∀ k, k < 12 → x ≠ nmF k) → s.files.lookup x = none
theorem gg_mvf {s : FS} {i j : Nat} (hi : i < 12) (hj : j < 12) {k : Nat} (hk : k < 12) : gg (s.mvf (nmF i) (nmF j)) k = if (gg s i).isSome = true then (if k = j then gg s i else if k = i then none else gg s k) else gg s k := by
  have e0 := mvf_lk s (nmF i) (nmF j) (nmF k)
  have e1 : s.files.lookup (nmF i) = gg s i := rfl
  rw [e1] at e0
  show (s.mvf (nmF i) (nmF j)).files.lookup (nmF k) = _
  rw [e0]
  cases e : gg s i with
  | none => rfl
  | some t =>
    show (if nmF k = nmF j then some t else if nmF k = nmF i then none else gg s k) = if k = j then some t else if k = i then none else gg s k
    by_cases c : k = j
    · rw [if_pos (by rw [c]), if_pos c]
    · rw [if_neg (nmF_ne k hk j hj c), if_neg c]
      by_cases d : k = i
      · rw [if_pos (by rw [d]), if_pos d]
      · rw [if_neg (nmF_ne k hk i hi d), if_neg d]
theorem only_mvf {s : FS} (h : Only s) {i j : Nat} (hj : j < 12) : Only (s.mvf (nmF i) (nmF j)) := fun x hx => by
  rw [mvf_lk]
  cases s.files.lookup (nmF i) with
  | none => exact h x hx
  | some t =>
    show (if x = nmF j then some t else if x = nmF i then none else s.files.lookup x) = none
    rw [if_neg (hx j hj)]
    split
    · rfl
    · exact h x hx
theorem shift_gg : ∀ (n : Nat) (s : FS), n ≤ 9 → Only s → (∀ k, 1 ≤ k → k ≤ n → gg s k = none → gg s (k + 1) = none) →
    Only (s.shift n) ∧ ∀ k, k < 12 → gg (s.shift n) k = if k = 0 then gg s 0 else if n = 0 then gg s k else if k = 1 then none else if k ≤ n + 1 then gg s (k - 1) else gg s k
  | 0, s, _, ho, _ => ⟨ho, fun k _ => by
    show gg s k = _
    by_cases c : k = 0
    · rw [if_pos c, c]
    · rw [if_neg c, if_pos rfl]⟩
  | n + 1, s, hn, ho, hc => by
    have g1 : ∀ k, k < 12 → gg (s.mvf (nmF (n + 1)) (nmF (n + 2))) k = if (gg s (n + 1)).isSome = true then (if k = n + 2 then gg s (n + 1) else if k = n + 1 then none else gg s k) else gg s k := fun k hk => gg_mvf (by omega) (by omega) hk
    obtain ⟨o2, g2⟩ := shift_gg n (s.mvf (nmF (n + 1)) (nmF (n + 2))) (by omega) (only_mvf ho (by omega)) (fun k h1 h2 h3 => by
      rw [g1 k (by omega)] at h3
      rw [g1 (k + 1) (by omega)]
      cases e : gg s (n + 1) with
      | none =>
        rw [e] at h3
        exact hc k h1 (by omega) h3
      | some t =>
        rw [e] at h3
        rw [show (some t).isSome = true from rfl, if_pos rfl] at h3 ⊢
        rw [if_neg (by omega), if_neg (by omega)] at h3
        rw [if_neg (by omega)]
        by_cases c : k + 1 = n + 1
        · rw [if_pos c]
        · rw [if_neg c]; exact hc k h1 (by omega) h3)
    refine ⟨o2, fun k hk => ?_⟩
    show gg ((s.mvf (nmF (n + 1)) (nmF (n + 2))).shift n) k = _
    rw [g2 k hk]
    have cl := hc (n + 1) (by omega) (Nat.le_refl _)
    cases e : gg s (n + 1) with
    | none =>
      have g3 : ∀ k, k < 12 → gg (s.mvf (nmF (n + 1)) (nmF (n + 2))) k = gg s k := fun k hk => by rw [g1 k hk, e]; rfl
      have cl := cl e
      rw [g3 k hk, g3 0 (by omega), g3 (k - 1) (by omega)]
      rcases Nat.lt_or_ge k 2 with h | h
      · rcases Nat.eq_zero_or_pos k with h0 | h0
        · simp [h0]
        · have k1 : k = 1 := by omega
          subst k1
          by_cases n0 : n = 0
          · subst n0; simpa using e
          · simp [n0]
      · have a1 : ¬ k = 0 := by omega
        have a2 : ¬ k = 1 := by omega
        rcases Nat.lt_trichotomy k (n + 2) with h1 | h1 | h1
        · have b1 : k ≤ n + 1 := by omega
          have b2 : k ≤ n + 1 + 1 := by omega
          have b3 : ¬ n = 0 := by omega
          simp [a1, a2, b1, b2, b3]
        · subst h1
          have e2 : gg s (n + 1 + 1 - 1) = none := e
          by_cases n0 : n = 0
          · subst n0; simpa [e2] using cl
          · have cl2 : gg s (n + 2) = none := cl
            simp [n0, cl2, e]
        · have b1 : ¬ k ≤ n + 1 := by omega
          have b2 : ¬ k ≤ n + 1 + 1 := by omega
          by_cases n0 : n = 0
          · simp [a1, a2, b2, n0]
            intro hh; omega
          · simp [a1, a2, b1, b2, n0]
    | some t =>
      have g3 : ∀ k, k < 12 → gg (s.mvf (nmF (n + 1)) (nmF (n + 2))) k = if k = n + 2 then some t else if k = n + 1 then none else gg s k := fun k hk => by rw [g1 k hk, e]; rfl
      rw [g3 k hk, g3 0 (by omega), g3 (k - 1) (by omega)]
      rcases Nat.lt_or_ge k 2 with h | h
      · rcases Nat.eq_zero_or_pos k with h0 | h0
        · simp [h0]
        · have k1 : k = 1 := by omega
          subst k1
          by_cases n0 : n = 0
          · subst n0; simp
          · simp [n0]
      · have a1 : ¬ k = 0 := by omega
        have a2 : ¬ k = 1 := by omega
        rcases Nat.lt_trichotomy k (n + 2) with h1 | h1 | h1
        · have b1 : k ≤ n + 1 := by omega
          have b2 : k ≤ n + 1 + 1 := by omega
          have b3 : ¬ n = 0 := by omega
          have b4 : ¬ k - 1 = n + 2 := by omega
          have b5 : ¬ k - 1 = n + 1 := by omega
          simp [a1, a2, b1, b2, b3, b4, b5]
        · subst h1
          have e2 : gg s (n + 1 + 1 - 1) = some t := e
          by_cases n0 : n = 0
          · subst n0; simpa using e.symm
          · simp [n0]; exact e.symm
        · have b1 : ¬ k ≤ n + 1 := by omega
          have b2 : ¬ k ≤ n + 1 + 1 := by omega
          have b4 : ¬ k = n + 2 := by omega
          have b5 : ¬ k = n + 1 := by omega
          by_cases n0 : n = 0
          · subst n0
            have c1 : ¬ k = 2 := by omega
            have c2 : ¬ k ≤ 2 := by omega
            simp [a1, a2, c1, c2]
          · simp [a1, a2, b1, b2, b4, b5, n0]
end
end K17

set_option Elab.async false
set_option linter.all false
set_option maxRecDepth 100000
set_option maxHeartbeats 0
namespace K17
open PySem PySem.Spec PyProof.Rows L2 RC
section
variable {P : Program} {w : World} {K : PySem.W.Frag} {mg : Str → Option Value} {base : Heap}
/-! ### the plain law: a record more -/
structure RL (s : FS) (F : List Str) : Prop where
  nd : (s.files.map (·.1)).Nodup
  on : Only s
  gk : ∀ k, k < 12 → gg s k = F[k]?
  ln : F.length ≤ 9
theorem nodup_le {l C : List Str} (nd : l.Nodup) (h : ∀ x ∈ l, x ∈ C) : l.length ≤ C.length := by
  induction l generalizing C with
  | nil => exact Nat.zero_le _
  | cons a r ih =>
    have h1 := List.nodup_cons.mp nd
    have ha := h a List.mem_cons_self
    have h2 := ih (C := C.erase a) h1.2 fun x hx => (List.mem_erase_of_ne (fun z => h1.1 (by rw [← z]; exact hx))).mpr (h x (List.mem_cons_of_mem _ hx))
    rw [List.length_erase_of_mem ha] at h2
    have : 0 < C.length := List.length_pos_of_mem ha
    rw [List.length_cons]; omega
theorem lk_mem : ∀ (fs : List (Str × Str)) {k t : Str}, fs.lookup k = some t → k ∈ fs.map (·.1)
  | [], _, _, e => by cases e
  | a :: r, k, t, e => by
    rw [lkc] at e
    by_cases c : k = a.1
    · rw [c]; exact List.mem_cons_self
    · rw [if_neg c] at e; exact List.mem_cons_of_mem _ (lk_mem r e)
theorem RL.rowF {s : FS} {F : List Str} (h : RL s F) : RowF s.files F := by
  have hl := h.ln
  refine ⟨?_, h.nd, fun k t hk => ?_⟩
  · have a1 := nodup_le h.nd (C := (List.range F.length).map nmF) fun x hx => by
      obtain ⟨e, he, rfl⟩ := List.mem_map.mp hx
      have e1 := lk_nd h.nd he
      have : ∃ k, k < 12 ∧ e.1 = nmF k := Classical.byContradiction fun z => by
        have := h.on e.1 fun k hk q => z ⟨k, hk, q⟩
        rw [e1] at this; cases this
      obtain ⟨k, hk, q⟩ := this
      have g := h.gk k hk
      have g2 : gg s k = some e.2 := by rw [← e1, q]
      rw [g2] at g
      exact List.mem_map.mpr ⟨k, List.mem_range.mpr (List.getElem?_eq_some_iff.mp g.symm).1, q.symm⟩
    have a2 := nodup_le (nmF_nodup (n := F.length) (by omega)) (C := s.files.map (·.1)) fun x hx => by
      obtain ⟨k, hk, rfl⟩ := List.mem_map.mp hx
      have hk := List.mem_range.mp hk
      have g := h.gk k (by omega)
      rw [List.getElem?_eq_getElem hk] at g
      exact lk_mem _ g
    rw [List.length_map, List.length_map, List.length_range] at a1 a2
    omega
  · have := (List.getElem?_eq_some_iff.mp hk).1
    exact (h.gk k (by omega)).trans hk
theorem put_lk0 (s : FS) (t x : Str) : (s.put "f" t).files.lookup x = if x = nmF 0 then some t else s.files.lookup x := lookup_putS s.files "f" t x
theorem RL.put {s : FS} {F : List Str} (h : RL s F) (t : Str) : RL (s.put "f" t) (t :: F.tail) := by
  refine ⟨put_nd h.nd _ _, fun x hx => ?_, fun k hk => ?_, ?_⟩
  · rw [put_lk0, if_neg (hx 0 (by decide))]; exact h.on x hx
  · show (s.put "f" t).files.lookup (nmF k) = _
    rw [put_lk0]
    cases k with
    | zero => rfl
    | succ k =>
      rw [if_neg (nmF_ne (k + 1) hk 0 (by decide) (by omega))]
      show gg s (k + 1) = _
      rw [h.gk (k + 1) hk]
      cases F <;> rfl
  · have := h.ln
    rw [List.length_cons, List.length_tail]
    cases F with
    | nil => decide
    | cons a r => rw [List.length_cons] at this ⊢; omega
theorem RL.setH {s : FS} {F : List Str} (h : RL s F) (fs : List (Str × V)) : RL (s.setH fs) F := ⟨h.nd, h.on, h.gk, h.ln⟩
/-- after the names moved: no file of the first name -/
theorem RL.roll {s : FS} {F : List Str} (h : RL s F) {b : Nat} (h1 : 1 ≤ F.length) (h2 : F.length ≤ b + 1) (b1 : 1 ≤ b) (b8 : b ≤ 8) :
    ((s.roll b).files.map (·.1)).Nodup ∧ Only (s.roll b) ∧ ∀ k, k < 12 → gg (s.roll b) k = if k = 0 then none else (F.take b)[k - 1]? := by
  obtain ⟨o1, g1⟩ := shift_gg (b - 1) s (by omega) h.on (fun k hk1 hk2 e => by
    rw [h.gk k (by omega)] at e
    rw [h.gk (k + 1) (by omega)]
    have := List.getElem?_eq_none_iff.mp e
    exact List.getElem?_eq_none_iff.mpr (by omega))
  have er : s.roll b = (s.shift (b - 1)).mvf (nmF 0) (nmF 1) := by
    unfold FS.roll
    rw [if_neg (by omega)]; rfl
  refine ⟨roll_nd h.nd b, by rw [er]; exact only_mvf o1 (by decide), fun k hk => ?_⟩
  rw [er, gg_mvf (by decide) (by decide) hk]
  have g0 : gg (s.shift (b - 1)) 0 = some F[0] := by
    rw [g1 0 (by decide), if_pos rfl, h.gk 0 (by decide)]
    exact List.getElem?_eq_getElem h1
  rw [g0, if_pos (show (some F[0]).isSome = true from rfl)]
  rcases Nat.eq_zero_or_pos k with rfl | k0
  · rfl
  by_cases k1 : k = 1
  · subst k1
    rw [if_pos rfl, if_neg (by decide)]
    show _ = (F.take b)[0]?
    rw [List.getElem?_take_of_lt (by omega), List.getElem?_eq_getElem h1]
  · have n0 : ¬ k = 0 := by omega
    rw [g1 k hk]
    simp only [if_neg n0, if_neg k1]
    by_cases b0 : b - 1 = 0
    · rw [if_pos b0, h.gk k hk]
      have bb : b = 1 := by omega
      rw [List.getElem?_eq_none_iff.mpr (by omega), List.getElem?_eq_none_iff.mpr (by rw [List.length_take]; omega)]
    · rw [if_neg b0]
      by_cases k2 : k ≤ b - 1 + 1
      · rw [if_pos k2, h.gk (k - 1) (by omega), List.getElem?_take_of_lt (by omega)]
      · rw [if_neg k2, h.gk k hk, List.getElem?_eq_none_iff.mpr (by omega), List.getElem?_eq_none_iff.mpr (by rw [List.length_take]; omega)]
theorem op1_new {s : FS} {F : List Str} {b : Nat} (h : RL s F) (h1 : 1 ≤ F.length) (h2 : F.length ≤ b + 1) (b1 : 1 ≤ b) (b8 : b ≤ 8) : RL (s.roll b).op1 ("" :: F.take b) := by
  obtain ⟨n, o, g⟩ := h.roll h1 h2 b1 b8
  have e : (s.roll b).files.lookup ("f" : Str) = none := g 0 (by decide)
  rw [op1_none e]
  refine ⟨put_nd n _ _, fun x hx => ?_, fun k hk => ?_, by rw [List.length_cons, List.length_take]; omega⟩
  · rw [put_lk0, if_neg (hx 0 (by decide))]; exact o x hx
  · show ((s.roll b).put "f" "").files.lookup (nmF k) = _
    rw [put_lk0]
    cases k with
    | zero => rfl
    | succ k =>
      rw [if_neg (nmF_ne (k + 1) hk 0 (by decide) (by omega))]
      show gg (s.roll b) (k + 1) = _
      rw [g (k + 1) hk]; rfl
end
end K17

set_option Elab.async false
set_option linter.all false
set_option maxRecDepth 100000
set_option maxHeartbeats 0
namespace K17
open PySem PySem.Spec PyProof.Rows L2 RC
section
variable {P : Program} {w : World} {K : PySem.W.Frag} {mg : Str → Option Value} {base : Heap}
/-! ### the plain law: the row goes on -/
theorem jn_one (r : Str) : jn [r] = r := by
  show Txt.join "" [r] = r
  rw [join_cat]
  unfold catS
  rw [List.map_singleton, List.flatten_singleton, tx_toList]
theorem jn_nil : jn [] = "" := rfl
theorem app_nil (r : Str) : ("" : Str) ++ r = r := by
  have := jn_app [] [r]
  rw [List.nil_append, jn_one, jn_nil] at this
  exact this.symm
theorem RL.txt {s : FS} {t : Str} {F : List Str} (h : RL s (t :: F)) : txt s.files "f" = t := by
  have g := h.gk 0 (by decide)
  have e : s.files.lookup ("f" : Str) = some t := g
  unfold _root_.K17.txt
  rw [e]; rfl
theorem RL.has {s : FS} {t : Str} {F : List Str} (h : RL s (t :: F)) : s.files.lookup ("f" : Str) = some t := h.gk 0 (by decide)
theorem RL.open1 {s : FS} {t : Str} {F : List Str} (h : RL s (t :: F)) (d : Hd) (fl y : Addr) : RL (s.open1 d fl y) (t :: F) := by
  unfold FS.open1
  split
  · exact h
  · rw [op1_some h.has]; exact h.setH _
structure J (s : FS) (mb : Int) (b : Nat) (F : List (List Str)) (rows : List Str) : Prop where
  rl : RL s (F.map jn)
  l1 : 1 ≤ F.length
  l2 : F.length ≤ b + 1
  dr : ∃ ds, rows = ds ++ F.reverse.flatten ∧ (ds = [] ∨ (F.length = b + 1 ∧ 0 < b))
  r1 : ∀ r ∈ rows, 1 ≤ r.length
  c1 : ∀ p ∈ F, p ≠ []
  c2 : 0 < b → ∀ p ∈ F, 1 < p.length → ((jn p).length : Int) < mb
  c3 : 0 < b → ∀ (k : Nat) (p q : List Str) (r : Str), F[k + 1]? = some p → F[k]? = some (r :: q) → mb ≤ (jn p).length + r.length
theorem J.cut {s : FS} {mb : Int} {b : Nat} {F : List (List Str)} {rows : List Str} (h : J s mb b F rows) (hb : 0 < b) (r2 : ∀ r ∈ rows, r.length ≤ 1000) (rl : rows.length ≤ 1000) : Cut rows F.reverse mb where
  dr := by
    obtain ⟨ds, e, c⟩ := h.dr
    refine ⟨ds, e, c.imp_right fun ⟨a, _⟩ => ?_⟩
    rw [List.length_reverse, a]; omega
  r1 := h.r1
  r2 := r2
  rl := rl
  c1 := fun p hp => h.c1 p (List.mem_reverse.mp hp)
  c2 := fun p hp => h.c2 hb p (List.mem_reverse.mp hp)
  c3 := fun k p q r h1 h2 => by
    have l := (List.getElem?_eq_some_iff.mp h2).1
    rw [List.length_reverse] at l
    rw [List.getElem?_reverse (by omega)] at h1 h2
    refine h.c3 hb (F.length - 1 - (k + 1)) p q r ?_ h2
    rw [show F.length - 1 - (k + 1) + 1 = F.length - 1 - k by omega]; exact h1
theorem J.more {s s' : FS} {mb : Int} {b : Nat} {p0 : List Str} {F : List (List Str)} {rows : List Str} (h : J s mb b (p0 :: F) rows) {r : Str} (hr : 1 ≤ r.length) (e : RL s' (jn (p0 ++ [r]) :: F.map jn)) (hc : 0 < b → ((jn p0).length : Int) + r.length < mb) : J s' mb b ((p0 ++ [r]) :: F) (rows ++ [r]) where
  rl := e
  l1 := h.l1
  l2 := h.l2
  dr := by
    obtain ⟨ds, e, c⟩ := h.dr
    refine ⟨ds, ?_, c⟩
    rw [e, List.reverse_cons, List.reverse_cons, List.flatten_append, List.flatten_append, List.flatten_singleton, List.flatten_singleton]
    simp
  r1 := fun x hx => by
    rcases List.mem_append.mp hx with hx | hx
    · exact h.r1 x hx
    · rw [List.mem_singleton.mp hx]; exact hr
  c1 := fun p hp => by
    rcases List.mem_cons.mp hp with rfl | hp
    · simp
    · exact h.c1 p (List.mem_cons_of_mem _ hp)
  c2 := fun hb p hp hl => by
    rcases List.mem_cons.mp hp with rfl | hp
    · rw [jn_app, jn_one, len_app]; have := hc hb; omega
    · exact h.c2 hb p (List.mem_cons_of_mem _ hp) hl
  c3 := fun hb k p q r' h1 h2 => by
    cases k with
    | succ k => exact h.c3 hb (k + 1) p q r' h1 h2
    | zero =>
      have hp0 : p0 ++ [r] = r' :: q := Option.some.inj h2
      cases hq : p0 with
      | nil => exact absurd hq (h.c1 p0 List.mem_cons_self)
      | cons a t =>
        rw [hq] at hp0
        have : a = r' := (List.cons.inj hp0).1
        subst this
        exact h.c3 hb 0 p t a h1 (by rw [hq]; rfl)
theorem J.next {s s' : FS} {mb : Int} {b : Nat} {F : List (List Str)} {p0 : List Str} {rows : List Str} (h : J s mb b (p0 :: F) rows) (hb : 0 < b) {r : Str} (hr : 1 ≤ r.length) (e : RL s' (r :: ((p0 :: F).map jn).take b)) (hc : mb ≤ (jn p0).length + r.length) : J s' mb b ([r] :: (p0 :: F).take b) (rows ++ [r]) where
  rl := by rw [List.map_cons, jn_one, List.map_take]; exact e
  l1 := by rw [List.length_cons]; omega
  l2 := by rw [List.length_cons, List.length_take]; omega
  dr := by
    obtain ⟨ds, e, c⟩ := h.dr
    refine ⟨ds ++ ((p0 :: F).drop b).reverse.flatten, ?_, ?_⟩
    · have : (p0 :: F).reverse.flatten = ((p0 :: F).drop b).reverse.flatten ++ ((p0 :: F).take b).reverse.flatten := by
        conv => lhs; rw [← List.take_append_drop b (p0 :: F)]
        rw [List.reverse_append, List.flatten_append]
      rw [e, this, List.reverse_cons, List.flatten_append, List.flatten_singleton]
      simp
    · have l2 := h.l2
      by_cases c2 : (p0 :: F).length ≤ b
      · left
        rcases c with rfl | ⟨c, _⟩
        · rw [List.drop_eq_nil_of_le c2]; rfl
        · omega
      · right
        rw [List.length_cons, List.length_take]
        exact ⟨by omega, hb⟩
  r1 := fun x hx => by
    rcases List.mem_append.mp hx with hx | hx
    · exact h.r1 x hx
    · rw [List.mem_singleton.mp hx]; exact hr
  c1 := fun p hp => by
    rcases List.mem_cons.mp hp with rfl | hp
    · simp
    · exact h.c1 p (List.mem_of_mem_take hp)
  c2 := fun hb p hp hl => by
    rcases List.mem_cons.mp hp with rfl | hp
    · exact absurd hl (Nat.lt_irrefl 1)
    · exact h.c2 hb p (List.mem_of_mem_take hp) hl
  c3 := fun _ k p q r' h1 h2 => by
    have tk : ∀ (j : Nat) (x : List Str), ((p0 :: F).take b)[j]? = some x → (p0 :: F)[j]? = some x := fun j x hx => by
      have hj := (List.getElem?_eq_some_iff.mp hx).1
      rw [List.length_take] at hj
      rw [List.getElem?_take_of_lt (by omega)] at hx; exact hx
    cases k with
    | zero =>
      have a1 : (p0 :: F)[0]? = some p := tk 0 p h1
      cases a1
      cases h2
      exact hc
    | succ k => exact h.c3 hb k p q r' (tk (k + 1) p h1) (tk k _ h2)
end
end K17

set_option Elab.async false
set_option linter.all false
set_option maxRecDepth 100000
set_option maxHeartbeats 0
namespace K17
open PySem PySem.Spec PyProof.Rows L2 RC
section
variable {P : Program} {w : World} {K : PySem.W.Frag} {mg : Str → Option Value} {base : Heap}
/-! ### the plain law: a record handled -/
theorem roll0 (s : FS) : s.roll 0 = s := rfl
/-- what stands ahead of the writing, after a rollover -/
abbrev rl1 (s : FS) (d : Hd) (b : Nat) (fl y : Addr) : FS := ((s.open1 d fl y).rolled { d with op := true } b fl y).open1 { d with op := !d.dl } fl y
theorem rl1_b {s : FS} {t : Str} {F : List Str} (h : RL s (t :: F)) (d : Hd) {b : Nat} (h2 : (t :: F).length ≤ b + 1) (b1 : 1 ≤ b) (b8 : b ≤ 8) (fl y : Addr) : RL (rl1 s d b fl y) ("" :: (t :: F).take b) := by
  have h1 := h.open1 d fl y
  unfold rl1
  generalize s.open1 d fl y = s1 at h1
  obtain ⟨fv, cl, dl, op, tl⟩ := d
  unfold FS.rolled
  cases dl with
  | true =>
    have h3 := op1_new (b := b) (h1.setH (({ fv := fv, cl := cl, dl := true, op := false, tl := tl } : Hd).F fl y)) (by rw [List.length_cons]; omega) h2 b1 b8
    exact h3.setH _
  | false =>
    have h3 := op1_new (b := b) (h1.setH (({ fv := fv, cl := cl, dl := false, op := false, tl := tl } : Hd).F fl y)) (by rw [List.length_cons]; omega) h2 b1 b8
    exact h3.setH _
theorem rl1_0 {s : FS} {t : Str} {F : List Str} (h : RL s (t :: F)) (d : Hd) (fl y : Addr) : RL (rl1 s d 0 fl y) (t :: F) := by
  have h1 := h.open1 d fl y
  unfold rl1
  generalize s.open1 d fl y = s1 at h1
  obtain ⟨fv, cl, dl, op, tl⟩ := d
  unfold FS.rolled
  cases dl with
  | true =>
    show RL (FS.open1 ((s1.setH _).roll 0) _ _ _) _
    rw [roll0]
    exact RL.open1 (h1.setH _) _ _ _
  | false =>
    show RL (FS.open1 (((s1.setH _).roll 0).op1.setH _) _ _ _) _
    rw [roll0]
    have h3 := h1.setH (({ fv := fv, cl := cl, dl := false, op := false, tl := tl } : Hd).F fl y)
    rw [op1_some h3.has]
    exact RL.open1 (h3.setH _) _ _ _
theorem nl_len (z : SS) : (tx z ++ ("\n" : Str)).length = z.length + 1 := by
  rw [len_app, tx_len]; rfl
theorem emit_J {s : FS} {d : Hd} {mb : Int} {b : Nat} {F : List (List Str)} {rows : List Str} {z : SS} {fl y : Addr} (h : J s mb b F rows) (b8 : b ≤ 8) : ∃ F', J (s.emit d mb b z fl y) mb b F' (rows ++ [tx z ++ "\n"]) := by
  obtain ⟨p0, F, rfl⟩ : ∃ p0 F', F = p0 :: F' := by
    cases F with
    | nil => exact absurd h.l1 (by decide)
    | cons p F => exact ⟨p, F, rfl⟩
  have hr := nl_len z
  have hRL : RL s (jn p0 :: F.map jn) := h.rl
  have ho := hRL.open1 d fl y
  have et := ho.txt
  have hp0 : 0 < (jn p0).length := by
    obtain ⟨ds, e, _⟩ := h.dr
    cases hq : p0 with
    | nil => exact absurd hq (h.c1 p0 List.mem_cons_self)
    | cons a t =>
      have : 1 ≤ a.length := h.r1 a (by rw [e, List.reverse_cons, List.flatten_append, List.flatten_singleton, hq]; simp)
      rw [jn_len, List.map_cons, List.sum_cons]; omega
  unfold FS.emit
  cases eB : rollB (s.open1 d fl y) mb z.length with
  | true =>
    rw [if_pos rfl]
    have hc : mb ≤ ((jn p0).length : Int) + ((tx z ++ ("\n" : Str)).length : Nat) := by
      unfold rollB at eB
      rw [et, Bool.and_eq_true] at eB
      have := of_decide_eq_true eB.2
      rw [hr]; omega
    rcases Nat.eq_zero_or_pos b with rfl | b1
    · have h3 := rl1_0 hRL d fl y
      refine ⟨_, h.more (r := tx z ++ "\n") (by rw [hr]; omega) ?_ (fun z => absurd z (Nat.lt_irrefl 0))⟩
      have h4 := h3.put (txt (rl1 s d 0 fl y).files "f" ++ (tx z ++ "\n"))
      rw [h3.txt] at h4
      rw [jn_app, jn_one]
      have e5 := h3.txt
      show RL ((rl1 s d 0 fl y).put "f" (txt (rl1 s d 0 fl y).files "f" ++ (tx z ++ "\n"))) _
      rw [e5]
      exact h4
    · have h3 := rl1_b hRL d (by have := h.l2; rw [List.length_cons] at this ⊢; rw [List.length_map]; exact this) b1 b8 fl y
      refine ⟨_, h.next (r := tx z ++ "\n") b1 (by rw [hr]; omega) ?_ hc⟩
      have e5 := h3.txt
      have h4 := h3.put (tx z ++ "\n")
      show RL ((rl1 s d b fl y).put "f" (txt (rl1 s d b fl y).files "f" ++ (tx z ++ "\n"))) _
      rw [e5, app_nil]
      exact h4
  | false =>
    rw [if_neg (by decide)]
    refine ⟨_, h.more (r := tx z ++ "\n") (by rw [hr]; omega) ?_ (fun hb => ?_)⟩
    · have h4 := ho.put (jn p0 ++ (tx z ++ "\n"))
      rw [jn_app, jn_one, et]
      exact h4
    · unfold rollB at eB
      rw [et, decide_eq_true hp0, Bool.true_and] at eB
      have := of_decide_eq_false eB
      rw [hr]; omega
theorem emit_0 {s : FS} {d : Hd} {mb : Int} {b : Nat} {z : SS} {fl y : Addr} (h : RL s [] ∨ RL s [""]) (hop : d.op = true → ∃ u, s.files.lookup ("f" : Str) = some u) : J (s.emit d mb b z fl y) mb b [[tx z ++ "\n"]] [tx z ++ "\n"] := by
  have h1 : RL (s.open1 d fl y) [""] := by
    rcases h with h | h
    · have e : s.files.lookup ("f" : Str) = none := h.gk 0 (by decide)
      unfold FS.open1
      by_cases c : d.op = true
      · obtain ⟨u, hu⟩ := hop c
        rw [e] at hu; cases hu
      · rw [if_neg c, op1_none e]
        exact (h.put "").setH _
    · exact h.open1 d fl y
  have et := h1.txt
  have eB : rollB (s.open1 d fl y) mb z.length = false := by
    unfold rollB
    rw [et]; rfl
  have hr := nl_len z
  unfold FS.emit
  rw [if_neg (by rw [eB]; decide), et, app_nil]
  have h2 := h1.put (tx z ++ "\n")
  refine ⟨by rw [List.map_singleton, jn_one]; exact h2, Nat.le_refl _, by rw [List.length_singleton]; omega, ⟨[], rfl, .inl rfl⟩, fun r hr' => by rw [List.mem_singleton.mp hr', hr]; omega, fun p hp => by rw [List.mem_singleton.mp hp]; simp, fun _ p hp hl => by rw [List.mem_singleton.mp hp] at hl; exact absurd hl (Nat.lt_irrefl 1), fun _ k p q r h1 _ => by cases h1⟩
end
end K17

set_option Elab.async false
set_option linter.all false
set_option maxRecDepth 100000
set_option maxHeartbeats 4000000
/-! A world: a stream of draws and several models apart from one another; what is done at one leaves the others. -/
namespace RS
open PySem PySem.Spec PyProof.Rows L2 RC RR
structure Comp where
  R : Type
  M : R → Option HO
  ad : R → Addr
def cell (p : Addr) (o : HO) : Comp := ⟨Unit, fun _ => some o, fun _ => p⟩
abbrev Comp.rep (c : Comp) (H : Hp) : Prop := Rep c.M c.ad H
abbrev Comp.out (c : Comp) (b : Addr) : Prop := Out c.M c.ad b
abbrev Comp.dj (a b : Comp) : Prop := Dj a.M a.ad b.M b.ad
abbrev CMv (c : Comp) (H : Hp) (c' : Comp) (H' : Hp) : Prop := Mv c.M c.ad H c'.M c'.ad H'
structure Wd (H : Hp) (s l : Addr) (n : Nat) (cs : List Comp) : Prop where
  stm : Stm H s l n
  rep : ∀ c ∈ cs, c.rep H
  pw : cs.Pairwise Comp.dj
  os : ∀ c ∈ cs, c.out s ∧ c.out l
section
variable {H H' : Hp} {s l p b : Addr} {n k : Nat} {cs ds : List Comp} {c c' d e f g : Comp} {o o' : HO}
theorem Wd.same (W : Wd H s l n cs) (e : Same H H') : Wd H' s l n cs := ⟨W.stm.same e, fun c h => (W.rep c h).same e, W.pw, W.os⟩
theorem Wd.old (W : Wd H s l n cs) (e : Old s l H H') (st : Stm H' s l k) : Wd H' s l k cs := ⟨st, fun c h => (W.rep c h).old e (W.os c h).1 (W.os c h).2, W.pw, W.os⟩
theorem Wd.mono (W : Wd H s l n cs) (h : n ≤ k) : Wd H s l k cs := ⟨W.stm.mono h, W.rep, W.pw, W.os⟩
theorem Wd.perm (W : Wd H s l n cs) (h : ds.Perm cs) : Wd H s l n ds :=
  ⟨W.stm, fun c hc => W.rep c (h.mem_iff.mp hc), (h.pairwise_iff (fun {a b} hab => Dj.symm hab)).mpr W.pw, fun c hc => W.os c (h.mem_iff.mp hc)⟩
theorem Wd.hd (W : Wd H s l n (c :: cs)) : c.rep H := W.rep c List.mem_cons_self
theorem Wd.tl (W : Wd H s l n (c :: cs)) : Wd H s l n cs := ⟨W.stm, fun d h => W.rep d (List.mem_cons_of_mem _ h), (List.pairwise_cons.mp W.pw).2, fun d h => W.os d (List.mem_cons_of_mem _ h)⟩
theorem Wd.mv (W : Wd H s l n (c :: cs)) (R : c'.rep H') (m : CMv c H c' H') : Wd H' s l n (c' :: cs) := by
  have hp := List.pairwise_cons.mp W.pw
  have hs := W.os c List.mem_cons_self
  obtain ⟨ne, ns, x, cc, dd, g1, g2, g3⟩ := id W.stm
  refine ⟨Stm.mv W.stm m hs.1 hs.2, fun d hd => ?_, List.pairwise_cons.mpr ⟨fun d hd => ?_, hp.2⟩, fun d hd => ?_⟩
  · rcases List.mem_cons.mp hd with rfl | hd
    · exact R
    · exact m.rep (hp.1 d hd) (W.rep d (List.mem_cons_of_mem _ hd))
  · exact m.dj (hp.1 d hd) (W.rep d (List.mem_cons_of_mem _ hd))
  · rcases List.mem_cons.mp hd with rfl | hd
    · exact ⟨m.out hs.1 g1, m.out hs.2 g2⟩
    · exact W.os d (List.mem_cons_of_mem _ hd)
theorem cell_rep (h : H p = some o) : (cell p o).rep H := ⟨fun _ u e => by cases e; exact h, fun _ _ _ _ _ _ _ => rfl⟩
theorem cell_out (h : b ≠ p) : (cell p o).out b := fun _ _ _ z => h z.symm
theorem Wd.new (W : Wd H s l n cs) (hp : H p = none) : Wd (upd H p o) s l n (cell p o :: cs) := by
  have W' := W.same (same_new hp o)
  obtain ⟨ne, ns, x, cc, dd, g1, g2, g3⟩ := W.stm
  refine ⟨W'.stm, fun d hd => ?_, List.pairwise_cons.mpr ⟨fun d hd => ?_, W'.pw⟩, fun d hd => ?_⟩
  · rcases List.mem_cons.mp hd with rfl | hd
    · exact cell_rep upd_same
    · exact W'.rep d hd
  · intro r u er _ _ _ z
    have z : p = d.ad r := z
    exact (W.rep d hd).out hp r u er z.symm
  · rcases List.mem_cons.mp hd with rfl | hd
    · exact ⟨cell_out (fun z => (by rw [← z, g1] at hp; cases hp)), cell_out (fun z => (by rw [← z, g2] at hp; cases hp))⟩
    · exact W'.os d hd
/-- what was laid since -/
theorem Wd.fresh (W : Wd H s l n cs) (e : Same H H') (hp : H p = none) (h : H' p = some o) : Wd H' s l n (cell p o :: cs) := by
  have W' := W.same e
  obtain ⟨ne, ns, x, cc, dd, g1, g2, g3⟩ := W.stm
  refine ⟨W'.stm, fun d hd => ?_, List.pairwise_cons.mpr ⟨fun d hd => ?_, W'.pw⟩, fun d hd => ?_⟩
  · rcases List.mem_cons.mp hd with rfl | hd
    · exact cell_rep h
    · exact W'.rep d hd
  · intro r u er _ _ _ z
    have z : p = d.ad r := z
    exact (W.rep d hd).out hp r u er z.symm
  · rcases List.mem_cons.mp hd with rfl | hd
    · exact ⟨cell_out (fun z => (by rw [← z, g1] at hp; cases hp)), cell_out (fun z => (by rw [← z, g2] at hp; cases hp))⟩
    · exact W'.os d hd
/-- a model was laid since, at places that were free -/
theorem Wd.add (W : Wd H s l n cs) (e : Same H H') (R : c.rep H') (hf : ∀ r u, c.M r = some u → H (c.ad r) = none) : Wd H' s l n (c :: cs) := by
  have W' := W.same e
  obtain ⟨ne, ns, x, cc, dd, g1, g2, g3⟩ := W.stm
  refine ⟨W'.stm, fun d hd => ?_, List.pairwise_cons.mpr ⟨fun d hd => ?_, W'.pw⟩, fun d hd => ?_⟩
  · rcases List.mem_cons.mp hd with rfl | hd
    · exact R
    · exact W'.rep d hd
  · intro r u er r' u' er' z
    have h := (W.rep d hd).at_ r u er
    rw [← z, hf r' u' er'] at h; cases h
  · rcases List.mem_cons.mp hd with rfl | hd
    · exact ⟨fun r u er z => (by rw [← z, hf r u er] at g1; cases g1), fun r u er z => (by rw [← z, hf r u er] at g2; cases g2)⟩
    · exact W'.os d hd
theorem Wd.c0 (W : Wd H s l n (cell p o :: cs)) : H p = some o := W.hd.at_ () o rfl
theorem cell_mv : CMv (cell p o) H (cell p o') (upd H p o') := ⟨fun b u hb e => (upd_ne (show b ≠ p from fun z => hb () o rfl z.symm)).trans e, fun _ _ _ => .inl ⟨(), _, rfl, rfl⟩⟩
theorem Wd.set (W : Wd H s l n (cell p o :: cs)) : Wd (upd H p o') s l n (cell p o' :: cs) := W.mv (cell_rep upd_same) cell_mv
theorem Wd.up1 (W : Wd H s l n (c :: d :: cs)) : Wd H s l n (d :: c :: cs) := W.perm (.swap _ _ _)
theorem Wd.up2 (W : Wd H s l n (c :: d :: e :: cs)) : Wd H s l n (e :: c :: d :: cs) := W.perm ((List.Perm.swap _ _ _).trans (.cons _ (.swap _ _ _)))
theorem Wd.dn2 (W : Wd H s l n (e :: c :: d :: cs)) : Wd H s l n (c :: d :: e :: cs) := W.perm (((List.Perm.swap _ _ _).trans (.cons _ (.swap _ _ _))).symm)
theorem Wd.up3 (W : Wd H s l n (c :: d :: e :: f :: cs)) : Wd H s l n (f :: c :: d :: e :: cs) := W.perm ((List.Perm.swap _ _ _).trans (.cons _ ((List.Perm.swap _ _ _).trans (.cons _ (.swap _ _ _)))))
theorem Wd.dn3 (W : Wd H s l n (f :: c :: d :: e :: cs)) : Wd H s l n (c :: d :: e :: f :: cs) := W.perm (((List.Perm.swap _ _ _).trans (.cons _ ((List.Perm.swap _ _ _).trans (.cons _ (.swap _ _ _))))).symm)
theorem Wd.up4 (W : Wd H s l n (c :: d :: e :: f :: g :: cs)) : Wd H s l n (g :: c :: d :: e :: f :: cs) := W.perm ((List.Perm.swap _ _ _).trans (.cons _ ((List.Perm.swap _ _ _).trans (.cons _ ((List.Perm.swap _ _ _).trans (.cons _ (.swap _ _ _)))))))
theorem Wd.dn4 (W : Wd H s l n (g :: c :: d :: e :: f :: cs)) : Wd H s l n (c :: d :: e :: f :: g :: cs) := W.perm (((List.Perm.swap _ _ _).trans (.cons _ ((List.Perm.swap _ _ _).trans (.cons _ ((List.Perm.swap _ _ _).trans (.cons _ (.swap _ _ _))))))).symm)
theorem Wd.sw1 (W : Wd H s l n (c :: d :: e :: cs)) : Wd H s l n (c :: e :: d :: cs) := W.perm (.cons _ (.swap _ _ _))
theorem Wd.dj (W : Wd H s l n (c :: d :: cs)) : c.dj d := (List.pairwise_cons.mp W.pw).1 d List.mem_cons_self
theorem Wd.stmNe (W : Wd H s l n (cell p o :: cs)) : p ≠ s ∧ p ≠ l := ⟨fun z => (W.os _ List.mem_cons_self).1 () o rfl z, fun z => (W.os _ List.mem_cons_self).2 () o rfl z⟩
/-- a place outside of a model -/
theorem rep_out {R : Type} {M : R → Option HO} {ad : R → Addr} (h : Rep M ad H) (ho : Out M ad b) : Rep M ad (upd H b o) := ⟨fun r u e => by rw [upd_ne (ho r u e)]; exact h.at_ r u e, h.inj⟩
end
theorem mv_put {R S : Type} {M : R → Option HO} {M' : S → Option HO} {ad : R → Addr} {ad' : S → Addr} {H H' : Hp} {p : Addr} {o : HO} (a : Mv M ad H M' ad' H') (hp : H p = none) : Mv M ad H M' ad' (upd H' p o) :=
  ⟨fun b u hb e => by rw [upd_ne (ne_of_none e hp)]; exact a.keep b u hb e, a.img⟩
/-- a model becomes another one: what is new lies at places that were free -/
theorem rep_extS {R S : Type} {M : R → Option HO} {M' : S → Option HO} {ad : R → Addr} {ad' : S → Addr} {H H' : Hp} (φ : S → R) (φi : ∀ r r', φ r = φ r' → r = r') (N : List S) (h : Rep M ad H) (at' : ∀ r o, M' r = some o → H' (ad' r) = some o)
    (cls : ∀ r o, M' r = some o → ((∃ o', M (φ r) = some o') ∧ ad' r = ad (φ r)) ∨ (r ∈ N ∧ H (ad' r) = none)) (nj : ∀ r ∈ N, ∀ r' ∈ N, ad' r = ad' r' → r = r') (keep : ∀ b o, Out M ad b → H b = some o → H' b = some o) : Rep M' ad' H' ∧ Mv M ad H M' ad' H' := by
  refine ⟨⟨at', fun r r' o o' e e' z => ?_⟩, keep, fun r u e => ?_⟩
  · rcases cls r o e with ⟨⟨u, g⟩, a⟩ | ⟨n, a⟩
    · rcases cls r' o' e' with ⟨⟨u', g'⟩, a'⟩ | ⟨n', a'⟩
      · rw [a, a'] at z; exact φi _ _ (h.inj _ _ _ _ g g' z)
      · rw [← z, a, h.at_ _ _ g] at a'; cases a'
    · rcases cls r' o' e' with ⟨⟨u', g'⟩, a'⟩ | ⟨n', a'⟩
      · rw [z, a', h.at_ _ _ g'] at a; cases a
      · exact nj r n r' n' z
  · rcases cls r u e with ⟨⟨u', g⟩, a⟩ | ⟨n, a⟩
    · exact .inl ⟨φ r, u', g, a.symm⟩
    · exact .inr a
theorem rep_ext {R : Type} {M M' : R → Option HO} {ad ad' : R → Addr} {H H' : Hp} (N : List R) (h : Rep M ad H) (at' : ∀ r o, M' r = some o → H' (ad' r) = some o)
    (cls : ∀ r o, M' r = some o → ((∃ o', M r = some o') ∧ ad' r = ad r) ∨ (r ∈ N ∧ H (ad' r) = none)) (nj : ∀ r ∈ N, ∀ r' ∈ N, ad' r = ad' r' → r = r') (keep : ∀ b o, Out M ad b → H b = some o → H' b = some o) : Rep M' ad' H' ∧ Mv M ad H M' ad' H' :=
  rep_extS id (fun _ _ z => z) N h at' cls nj keep
/-- two models as one -/
def Comp.sum (c d : Comp) : Comp := ⟨Sum c.R d.R, Sum.elim c.M d.M, Sum.elim c.ad d.ad⟩
theorem rep_sum {c d : Comp} {H : Hp} (hc : c.rep H) (hd : d.rep H) (dj : c.dj d) : (c.sum d).rep H := by
  refine ⟨fun r o e => ?_, fun r r' o o' e e' z => ?_⟩
  · cases r with
    | inl r => exact hc.at_ r o e
    | inr r => exact hd.at_ r o e
  · cases r with
    | inl r =>
      cases r' with
      | inl r' => exact congrArg Sum.inl (hc.inj _ _ _ _ e e' z)
      | inr r' => exact absurd z (dj r' o' e' r o e)
    | inr r =>
      cases r' with
      | inl r' => exact absurd z.symm (dj r o e r' o' e')
      | inr r' => exact congrArg Sum.inr (hd.inj _ _ _ _ e e' z)
theorem sum_out {c d : Comp} {b : Addr} (h : c.out b) (k : d.out b) : (c.sum d).out b := fun r u e => by
  cases r with
  | inl r => exact h r u e
  | inr r => exact k r u e
theorem Wd.join {H : Hp} {s l : Addr} {n : Nat} {c d : Comp} {cs : List Comp} (W : Wd H s l n (c :: d :: cs)) : Wd H s l n (c.sum d :: cs) := by
  have h1 := List.pairwise_cons.mp W.pw
  have h2 := List.pairwise_cons.mp h1.2
  refine ⟨W.stm, fun e he => ?_, List.pairwise_cons.mpr ⟨fun e he => ?_, h2.2⟩, fun e he => ?_⟩
  · rcases List.mem_cons.mp he with rfl | he
    · exact rep_sum W.hd W.tl.hd W.dj
    · exact W.rep e (List.mem_cons_of_mem _ (List.mem_cons_of_mem _ he))
  · intro r u er
    exact sum_out (h1.1 e (List.mem_cons_of_mem _ he) r u er) (h2.1 e he r u er)
  · rcases List.mem_cons.mp he with rfl | he
    · have a := W.os c List.mem_cons_self
      have b := W.os d (List.mem_cons_of_mem _ List.mem_cons_self)
      exact ⟨sum_out a.1 b.1, sum_out a.2 b.2⟩
    · exact W.os e (List.mem_cons_of_mem _ (List.mem_cons_of_mem _ he))
/-- a model out of a list of what lies where -/
theorem rep_list {R : Type} {M : R → Option HO} {ad : R → Addr} {H0 H : Hp} (L : List (R × Addr × HO)) (hM : ∀ r o, M r = some o → (r, ad r, o) ∈ L) (nd : (L.map (·.2.1)).Nodup) (hh : ∀ x ∈ L, H0 x.2.1 = none ∧ H x.2.1 = some x.2.2) :
    Rep M ad H ∧ ∀ r u, M r = some u → H0 (ad r) = none := by
  refine ⟨⟨fun r o e => (hh _ (hM r o e)).2, fun r r' o o' e e' z => ?_⟩, fun r u e => (hh _ (hM r u e)).1⟩
  obtain ⟨i, hi⟩ := List.getElem?_of_mem (hM r o e)
  obtain ⟨j, hj⟩ := List.getElem?_of_mem (hM r' o' e')
  have n1 : (L.map (·.2.1))[i]? = some (ad r) := by rw [List.getElem?_map, hi]; rfl
  have n2 : (L.map (·.2.1))[j]? = some (ad r) := by rw [List.getElem?_map, hj, z]; rfl
  have l := (List.getElem?_eq_some_iff.mp n1).1
  have ij := (List.getElem?_inj l nd).mp (n1.trans n2.symm)
  rw [ij, hj] at hi
  exact (congrArg Prod.fst (Option.some.inj hi)).symm
end RS

set_option Elab.async false
set_option linter.all false
set_option maxRecDepth 100000
set_option linter.all false
set_option maxRecDepth 100000
set_option maxHeartbeats 4000000
/-! Worlds of single cells: cells laid, cells set, a model gathered out of cells. -/
namespace RS
open PySem PySem.Spec PyProof.Rows L2 RC RR
section
variable {H H' : Hp} {s l p m q b : Addr} {n k : Nat} {cs xs ys : List Comp} {c : Comp} {o o' o1 o1' o2 : HO}
abbrev cl (x : Addr × HO) : Comp := cell x.1 x.2
theorem cell_dj (h : p ≠ q) : (cell p o).dj (cell q o1) := fun _ _ _ _ _ _ z => h z
theorem Wd.addL (W : Wd H s l n cs) (e : Same H H') : ∀ L : List (Addr × HO), (L.map (·.1)).Nodup → (∀ x ∈ L, H x.1 = none ∧ H' x.1 = some x.2) → Wd H' s l n (L.map cl ++ cs)
  | [], _, _ => W.same e
  | x :: L, nd, h => by
    obtain ⟨n1, n2⟩ := List.nodup_cons.mp nd
    have W' := Wd.addL W e L n2 fun y hy => h y (List.mem_cons_of_mem _ hy)
    obtain ⟨h1, h2⟩ := h x List.mem_cons_self
    obtain ⟨ne, ns, y, cc, dd, g1, g2, g3⟩ := W.stm
    refine ⟨W'.stm, fun d hd => ?_, List.pairwise_cons.mpr ⟨fun d hd => ?_, W'.pw⟩, fun d hd => ?_⟩
    · rcases List.mem_cons.mp hd with rfl | hd
      · exact cell_rep h2
      · exact W'.rep d hd
    · rcases List.mem_append.mp hd with hd | hd
      · obtain ⟨y, hy, rfl⟩ := List.mem_map.mp hd
        exact cell_dj fun z => n1 (by show x.1 ∈ _; rw [z]; exact List.mem_map_of_mem hy)
      · intro r u er _ _ _ z
        have z : x.1 = d.ad r := z
        exact (W.rep d hd).out h1 r u er z.symm
    · rcases List.mem_cons.mp hd with rfl | hd
      · exact ⟨cell_out (fun z => (by rw [← z, g1] at h1; cases h1)), cell_out (fun z => (by rw [← z, g2] at h1; cases h1))⟩
      · exact W'.os d hd
theorem Wd.mid (W : Wd H s l n (xs ++ c :: ys)) : Wd H s l n (c :: (xs ++ ys)) := W.perm List.perm_middle.symm
theorem Wd.unmid (W : Wd H s l n (c :: (xs ++ ys))) : Wd H s l n (xs ++ c :: ys) := W.perm List.perm_middle
theorem Wd.at_ (W : Wd H s l n (xs ++ cell p o :: ys)) : H p = some o := W.mid.c0
theorem Wd.setM (W : Wd H s l n (xs ++ cell p o :: ys)) : Wd (upd H p o') s l n (xs ++ cell p o' :: ys) := Wd.unmid (Wd.set W.mid)
theorem Wd.neM (W : Wd H s l n (cell p o :: (xs ++ cell m o1 :: ys))) : p ≠ m := fun z => by
  have h := (List.pairwise_cons.mp W.pw).1 (cell m o1) (by simp)
  exact h () o1 rfl () o rfl z
/-- a call that writes the cells p and m and lays q -/
theorem Wd.hand (W : Wd H s l n (cell p o :: (xs ++ cell m o1 :: ys))) (kp : ∀ b u, b ≠ p → b ≠ m → H b = some u → H' b = some u) (hq : H q = none) (hp : H' p = some o') (hm : H' m = some o1') (hq' : H' q = some o2) : Wd H' s l n (cell q o2 :: cell p o' :: (xs ++ cell m o1' :: ys)) := by
  have npm : p ≠ m := W.neM
  have W1 : Wd (upd H p o') s l n (cell p o' :: (xs ++ cell m o1 :: ys)) := W.set
  have W2 : Wd (upd (upd H p o') m o1') s l n ((cell p o' :: xs) ++ cell m o1' :: ys) := Wd.setM (xs := cell p o' :: xs) W1
  have hp0 : H p = some o := W.c0
  have hm0 : H m = some o1 := Wd.at_ (xs := cell p o :: xs) W
  have nqp : q ≠ p := fun z => by rw [z, hp0] at hq; cases hq
  have nqm : q ≠ m := fun z => by rw [z, hm0] at hq; cases hq
  refine Wd.fresh W2 (fun b u e => ?_) (by rw [upd_ne nqm, upd_ne nqp]; exact hq) hq'
  by_cases c1 : b = m
  · subst c1; rw [upd_same] at e; cases e; exact hm
  · rw [upd_ne c1] at e
    by_cases c2 : b = p
    · subst c2; rw [upd_same] at e; cases e; exact hp
    · rw [upd_ne c2] at e; exact kp b u c2 c1 e
/-- a model out of cells -/
theorem Wd.gather {R : Type} {M : R → Option HO} {ad : R → Addr} (L : List (R × Addr × HO)) (W : Wd H s l n (L.map (fun x => cell x.2.1 x.2.2) ++ cs)) (hM : ∀ r o, M r = some o → (r, ad r, o) ∈ L) : Wd H s l n (⟨R, M, ad⟩ :: cs) := by
  have mem : ∀ x ∈ L, cell x.2.1 x.2.2 ∈ L.map (fun x => cell x.2.1 x.2.2) ++ cs := fun x hx => List.mem_append_left _ (List.mem_map_of_mem hx)
  have pw := List.pairwise_append.mp W.pw
  have nd : (L.map (·.2.1)).Nodup := by
    have h1 := List.pairwise_map.mp pw.1
    refine List.pairwise_map.mpr (h1.imp fun {a b} h z => ?_)
    exact h () b.2.2 rfl () a.2.2 rfl z
  have hh : ∀ x ∈ L, (fun _ : Addr => (none : Option HO)) x.2.1 = none ∧ H x.2.1 = some x.2.2 := fun x hx => ⟨rfl, (W.rep _ (mem x hx)).at_ () _ rfl⟩
  have rp := (RS.rep_list (H0 := fun _ => none) L hM nd hh).1
  refine ⟨W.stm, fun d hd => ?_, List.pairwise_cons.mpr ⟨fun d hd => ?_, pw.2.1⟩, fun d hd => ?_⟩
  · rcases List.mem_cons.mp hd with rfl | hd
    · exact rp
    · exact W.rep d (List.mem_append_right _ hd)
  · intro r u er r' u' er' z
    exact pw.2.2 _ (List.mem_map_of_mem (hM r' u' er')) d hd r u er () u' rfl z
  · rcases List.mem_cons.mp hd with rfl | hd
    · exact ⟨fun r u er z => (W.os _ (mem _ (hM r u er))).1 () u rfl z, fun r u er z => (W.os _ (mem _ (hM r u er))).2 () u rfl z⟩
    · exact W.os d (List.mem_append_right _ hd)
theorem pw_at {ds : List Comp} (pw : ds.Pairwise Comp.dj) {i j : Nat} {a b : Comp} (hij : i ≠ j) (ha : ds[i]? = some a) (hb : ds[j]? = some b) : a.dj b := by
  obtain ⟨li, rfl⟩ := List.getElem?_eq_some_iff.mp ha
  obtain ⟨lj, rfl⟩ := List.getElem?_eq_some_iff.mp hb
  rcases Nat.lt_or_ge i j with h | h
  · exact List.pairwise_iff_getElem.mp pw i j li lj h
  · exact Dj.symm (List.pairwise_iff_getElem.mp pw j i lj li (by omega))
/-- some of the models, in another order -/
theorem Wd.pickL (is : List Nat) {ds : List Comp} (W : Wd H s l n (ds ++ cs)) (nd : is.Nodup) : Wd H s l n (is.filterMap (fun i => ds[i]?) ++ cs) := by
  have pw := List.pairwise_append.mp W.pw
  have mem : ∀ c ∈ is.filterMap (fun i => ds[i]?), c ∈ ds := fun c hc => by
    obtain ⟨i, _, hi⟩ := List.mem_filterMap.mp hc
    exact List.mem_of_getElem? hi
  have mm : ∀ c ∈ is.filterMap (fun i => ds[i]?) ++ cs, c ∈ ds ++ cs := fun c hc => by
    rcases List.mem_append.mp hc with h | h
    · exact List.mem_append_left _ (mem c h)
    · exact List.mem_append_right _ h
  refine ⟨W.stm, fun c hc => W.rep c (mm c hc), List.pairwise_append.mpr ⟨?_, pw.2.1, fun a ha b hb => pw.2.2 a (mem a ha) b hb⟩, fun c hc => W.os c (mm c hc)⟩
  refine List.pairwise_filterMap.mpr (nd.imp fun {i j} hij a ha b hb => ?_)
  exact pw_at pw.1 hij ha hb
end
end RS

set_option Elab.async false
set_option linter.all false
set_option maxRecDepth 100000
set_option maxHeartbeats 4000000
/-! What never changes, as one component of a world. -/
namespace RS
open PySem PySem.Spec PyProof.Rows L2 RC RR
def cG (G : Hp) : Comp := ⟨Addr, G, id⟩
section
variable {G H H' : Hp} {s l p : Addr} {n k : Nat} {cs ds : List Comp} {c d : Comp} {o u : HO}
theorem Wd.st (W : Wd H s l n cs) (m : cG G ∈ cs) : Same G H := fun b u e => (W.rep _ m).at_ b u e
theorem Wd.g0 (W : Wd H s l n (cG G :: cs)) : Same G H := W.st List.mem_cons_self
theorem Wd.g1 (W : Wd H s l n (c :: cG G :: cs)) : Same G H := W.st (by simp)
theorem Wd.g2 (W : Wd H s l n (c :: d :: cG G :: cs)) : Same G H := W.st (by simp)
/-- a cell that will not change any more -/
theorem Wd.take (W : Wd H s l n (cG G :: cell p o :: cs)) : Wd H s l n (cG (upd G p o) :: cs) ∧ G p = none := by
  have h1 := List.pairwise_cons.mp W.pw
  have h2 := List.pairwise_cons.mp h1.2
  have key : ∀ (r : Addr) (u : HO), upd G p o r = some u → (r = p ∧ u = o) ∨ (r ≠ p ∧ G r = some u) := fun r u e => by
    by_cases z : r = p
    · subst z; rw [upd_same] at e; exact .inl ⟨rfl, (Option.some.inj e).symm⟩
    · rw [upd_ne z] at e; exact .inr ⟨z, e⟩
  refine ⟨⟨W.stm, fun e he => ?_, List.pairwise_cons.mpr ⟨fun e he => ?_, h2.2⟩, fun e he => ?_⟩, ?_⟩
  · rcases List.mem_cons.mp he with he | he
    · rw [he]
      refine ⟨fun r u e => ?_, fun _ _ _ _ _ _ z => z⟩
      rcases key r u e with ⟨e1, e2⟩ | ⟨_, e⟩
      · rw [e2]
        show H r = _
        rw [e1]; exact W.tl.c0
      · exact W.g0 r u e
    · exact W.rep e (List.mem_cons_of_mem _ (List.mem_cons_of_mem _ he))
  · intro r u er r' u' er' z
    rcases key r' u' er' with ⟨e1, e2⟩ | ⟨_, e'⟩
    · exact h2.1 e he r u er () _ rfl (e1.symm.trans z)
    · exact h1.1 e (List.mem_cons_of_mem _ he) r u er r' u' e' z
  · rcases List.mem_cons.mp he with he | he
    · rw [he]
      have a := W.os _ List.mem_cons_self
      have b := W.os _ (List.mem_cons_of_mem _ List.mem_cons_self)
      refine ⟨fun r u e z => ?_, fun r u e z => ?_⟩
      · rcases key r u e with ⟨e1, e2⟩ | ⟨_, e⟩
        · exact b.1 () _ rfl (e1.symm.trans z)
        · exact a.1 r u e z
      · rcases key r u e with ⟨e1, e2⟩ | ⟨_, e⟩
        · exact b.2 () _ rfl (e1.symm.trans z)
        · exact a.2 r u e z
    · exact W.os e (List.mem_cons_of_mem _ (List.mem_cons_of_mem _ he))
  · cases e : G p with
    | none => rfl
    | some u => exact absurd rfl (h1.1 (cell p o) List.mem_cons_self () o rfl p u e)
/-- a new thing that will not change -/
theorem Wd.lay (W : Wd H s l n (cG G :: cs)) (hp : H p = none) : Wd (upd H p o) s l n (cG (upd G p o) :: cs) ∧ Same G (upd G p o) := by
  have h := (Wd.up1 (W.new (o := o) hp)).take
  exact ⟨h.1, RC.same_new h.2 o⟩
/-- .. what was laid since -/
theorem Wd.layS (W : Wd H s l n (cG G :: cs)) (e : Same H H') (hp : H p = none) (h : H' p = some o) : Wd H' s l n (cG (upd G p o) :: cs) ∧ Same G (upd G p o) := by
  have h := (Wd.up1 (W.fresh e hp h)).take
  exact ⟨h.1, RC.same_new h.2 o⟩
theorem Wd.g0' (W : Wd H s l n cs) : Wd H s l n (cG (fun _ => none) :: cs) :=
  ⟨W.stm, fun e he => by
    rcases List.mem_cons.mp he with rfl | he
    · exact ⟨fun r u e => (nomatch e), fun _ _ _ _ e => (nomatch e)⟩
    · exact W.rep e he, List.pairwise_cons.mpr ⟨fun e he r u er r' u' er' => (nomatch er'), W.pw⟩, fun e he => by
    rcases List.mem_cons.mp he with rfl | he
    · exact ⟨fun r u e => (nomatch e), fun r u e => (nomatch e)⟩
    · exact W.os e he⟩
end
end RS

set_option Elab.async false
set_option linter.all false
set_option maxRecDepth 100000
set_option maxHeartbeats 0
namespace K17
open PySem PySem.Spec PyProof.Rows L2 RC
section
variable {P : Program} {w : World} {K : PySem.W.Frag} {mg : Str → Option Value} {base : Heap}
/-! ### the law's world -/
theorem stm_new {H : Hp} {s l D : Addr} {n : Nat} (h : Stm H s l n) (hD : H D = none) : D ≠ s ∧ D ≠ l :=
  ⟨fun z => (by obtain ⟨_, _, _, _, _, z1, _⟩ := h; rw [z, z1] at hD; cases hD), fun z => (by obtain ⟨_, _, _, _, _, _, z1, _⟩ := h; rw [z, z1] at hD; cases hD)⟩
theorem old_new {s l D : Addr} {H H' : Hp} {o : HO} (h : Old s l H H') (hD : H D = none) : Old s l H (upd H' D o) := fun b u h1 h2 e => by rw [upd_ne (ne_of_none e hD)]; exact h b u h1 h2 e
def spPick (K : PySem.W.Frag) : Sp := fun vs H Q _ => ∃ (s l p : Addr) (n : Nat) (xs : List V), vs = [.ref s, .ref p] ∧ Stm H s l n ∧ n ≤ 1000000 ∧ p ≠ s ∧ p ≠ l ∧ H p = some (.lst xs) ∧ 1 ≤ xs.length ∧ xs.length ≤ 1000 ∧ ∀ (H' : Hp) (x : V), Old s l H H' → Stm H' s l (n + 1) → x ∈ xs → Q x H'
theorem ok_pick {f : Addr} (T : Txt P w K mg) (F : Stands K "_law_pick" "_law_pick" s__law_pick [] f) (c__law_draw : Callable P w K mg base 1 (He.ga K "_law_draw") ["_law_stream", "_law_many"] [] spDraw) : Callable P w K mg base 2 f ["_law_stream", "_law_some"] [] (spPick K) := by
  refine F.call0 sc__law_pick (fun vs H Q E h => ?_) (fun cdv A outer s H vs Q E hr h => ?_) (fun _ _ _ _ _ _ us hl => match us, hl with | [_, _], _ => rfl)
  · obtain ⟨s, l, p, n, xs, rfl, _⟩ := h; rfl
  obtain ⟨s, l, p, n, xs, rfl, hs, hn, nps, npl, hp, hx1, hx2, hQ⟩ := h
  refine ⟨_, (pss_one (ps_ret (pe_ix ix_list (pv 1) (pe_fn T.g__law_draw c__law_draw (hr.mono (by first | decide | exact Nat.le_refl _)) (by rfl) (pa_cons (pv 0) (pa_cons (pe_callB call_len (by rfl) T.b_len (by decide +kernel) (pa_cons (pv 1) pa_nil)) pa_nil))) (fun _ _ => rfl)))), ?_⟩
  refine ⟨_, rfl, _, rfl, _, rfl, _, xs.length, rfl, .inl ⟨xs, SqL.of hp, rfl⟩, s, l, n, xs.length, rfl, hs, hn, by omega, by omega, fun H' d h1 h2 h3 h4 => ?_⟩
  obtain ⟨j, rfl⟩ := Int.eq_ofNat_of_zero_le h3
  have hj : j < xs.length := by omega
  refine ⟨p, xs, j, xs[j], rfl, rfl, SqL.of (h1 _ _ nps npl hp), atI_nat (by simp [hj]), ?_⟩
  exact hQ H' _ h1 h2 (List.getElem_mem hj)
/-- the yard with its files as one component -/
def cF (K : PySem.W.Frag) (s : FS) (ad : Ro → Addr) : RS.Comp := ⟨Ro, Y1 K s ad, ad⟩
def FS.s0 : FS := ⟨0, [], fun _ => 0, [], none, false⟩
def adY (y dy : Addr) (q : YParts) : Ro → Addr
  | .y => y | .fi => q.fi | .na => q.na | .nu => q.nu | .md => q.md | .fr => q.fr | .h => 0 | .hl => 0 | .row _ => 0
  | .x 0 => dy | .x 1 => q.st | .x 2 => q.lm | .x 3 => q.hn | .x 4 => q.rt | .x 5 => q.lr | .x _ => 0
theorem YNew.repF {H H2 : Hp} {y dy : Addr} {q : YParts} (hy : H y = none) (hd : H dy = none) (hne : dy ≠ y) (N : YNew K (upd (upd H dy (.own y)) y (.ins (CY K) dy [])) H2 y dy 0 q) : ∃ ad : Ro → Addr, ad .y = y ∧ YR K FS.s0 ad H2 ∧ (∀ r u, Y1 K FS.s0 ad r = some u → H (ad r) = none) ∧ Same H H2 := by
  obtain ⟨rd, ld, F⟩ := N.fr
  have S : Same H H2 := made_same hy hd F.kp
  have gy := N.y
  have gm := N.md
  have hm0 : H q.md = none := by
    rcases F.old q.md List.mem_cons_self with c | c
    · rw [c, gy] at gm; cases gm
    · exact (upd_none (upd_none c).2).2
  have nym : y ≠ q.md := fun z => by rw [← z, gy] at gm; cases gm
  have k0 : ∀ e ∈ q.L K y rd ld, H e.1 = none ∧ H2 e.1 = some e.2 := fun e he => ⟨(upd_none (upd_none (F.has e he).2.1).2).2, (F.has e he).2.2⟩
  have nL : ∀ e ∈ q.L K y rd ld, e.1 ≠ y ∧ e.1 ≠ q.md := fun e he => by
    have := (F.has e he).1
    simp only [List.mem_cons, List.not_mem_nil, or_false, not_or] at this
    exact ⟨this.2, this.1⟩
  have main := RS.rep_list (M := Y1 K FS.s0 (adY y dy q)) (ad := adY y dy q) (H0 := H) (H := H2) [(.y, y, .ins (CY K) dy (yF 0 q.st q.fi q.na q.nu q.lm q.md q.hn q.fr q.rt q.lr)), (.md, q.md, .lst []),
    (.x 0, q.ll, .lst []), (.x 0, q.lr, .ins (He.ga K "StreamHandler") ld (hF q.ll y ++ ([("stream", .str "stderr")] : List (Str × V)))), (.x 0, q.rh, .lst []), (.x 0, q.rl, .lst []), (.x 0, q.rt, .ins (CL K) rd (lF q.rl y "root" 30 q.rh .non)), (.fr, q.fr, .lst []), (.x 0, q.hn, .dK []), (.x 0, q.lm, .dK []), (.nu, q.nu, .dK (kv_FIRST_NUMBERS.map fun q => (q.1, q.2.v K))), (.na, q.na, .dK (kv_FIRST_NAMES.map fun q => (q.1, q.2.v K))), (.fi, q.fi, .dK []), (.x 0, q.st, .dK [])]
    (fun r o e => ?_) ?_ (fun x hx => ?_)
  · exact ⟨_, rfl, main.1, main.2, S⟩
  · cases r with
    | y => cases e; simp [adY]; rfl
    | fi => cases e; simp [adY]; rfl
    | na => cases e; simp [adY]; rfl
    | nu => cases e; simp [adY]; rfl
    | md => cases e; simp [adY]; rfl
    | fr => cases e; simp [adY]
    | h => cases e
    | hl => cases e
    | row x => cases e
    | x j => cases e
  · show (y :: q.md :: (q.L K y rd ld).map (·.1)).Nodup
    refine List.nodup_cons.mpr ⟨fun z => ?_, List.nodup_cons.mpr ⟨fun z => ?_, F.nd⟩⟩
    · rcases List.mem_cons.mp z with z | z
      · exact nym z
      · obtain ⟨e, he, z⟩ := List.mem_map.mp z
        exact (nL e he).1 z
    · obtain ⟨e, he, z⟩ := List.mem_map.mp z
      exact (nL e he).2 z
  · rcases List.mem_cons.mp hx with rfl | hx
    · exact ⟨hy, gy⟩
    rcases List.mem_cons.mp hx with rfl | hx
    · exact ⟨hm0, gm⟩
    simp only [List.mem_cons, List.not_mem_nil, or_false] at hx
    rcases hx with rfl | rfl | rfl | rfl | rfl | rfl | rfl | rfl | rfl | rfl | rfl | rfl <;> exact k0 _ (by simp [YParts.L])
theorem Ap.of {H : Hp} {s l : Addr} {n : Nat} {st : FS} {ad : Ro → Addr} {G : Hp} {cs : List RS.Comp} (W : RS.Wd H s l n (cF K st ad :: RS.cG G :: cs)) : Ap K st ad G H :=
  ⟨W.g1, fun b o e => (List.pairwise_cons.mp W.pw).1 (RS.cG G) List.mem_cons_self b o e⟩
/-- all that was laid since, as what never changes -/
noncomputable def gAdd (G H H' : Hp) : Hp := open Classical in fun b => if H b = none then H' b else G b
theorem _root_.RS.Wd.layAll {H H' G : Hp} {s l : Addr} {n : Nat} {cs : List RS.Comp} (W : RS.Wd H s l n (RS.cG G :: cs)) (e : Same H H') : RS.Wd H' s l n (RS.cG (gAdd G H H') :: cs) ∧ Same G (gAdd G H H') ∧ ∀ b o, H b = none → H' b = some o → gAdd G H H' b = some o := by
  have g0 := W.g0
  have key : ∀ b o, gAdd G H H' b = some o → (H b = none ∧ H' b = some o) ∨ (H b ≠ none ∧ G b = some o) := fun b o h => by
    unfold gAdd at h
    by_cases c : H b = none
    · rw [if_pos c] at h; exact .inl ⟨c, h⟩
    · rw [if_neg c] at h; exact .inr ⟨c, h⟩
  have W' := W.same e
  have h1 := List.pairwise_cons.mp W.pw
  have nst : ∀ b, H b = none → b ≠ s ∧ b ≠ l := fun b hb => stm_new W.stm hb
  refine ⟨⟨W'.stm, fun d hd => ?_, List.pairwise_cons.mpr ⟨fun d hd r u er r' u' er' z => ?_, h1.2⟩, fun d hd => ?_⟩, fun b o h => ?_, fun b o h1 h2 => ?_⟩
  · rcases List.mem_cons.mp hd with rfl | hd
    · refine ⟨fun b o h => ?_, fun _ _ _ _ _ _ z => z⟩
      rcases key b o h with ⟨_, h⟩ | ⟨_, h⟩
      · exact h
      · exact e _ _ (g0 _ _ h)
    · exact W'.rep d (List.mem_cons_of_mem _ hd)
  · rcases key r' u' er' with ⟨hn, _⟩ | ⟨_, hg⟩
    · have := (W.rep d (List.mem_cons_of_mem _ hd)).at_ r u er
      have z : r' = d.ad r := z
      rw [← z, hn] at this; cases this
    · exact h1.1 d hd r u er r' u' hg z
  · rcases List.mem_cons.mp hd with rfl | hd
    · have a := W.os _ List.mem_cons_self
      refine ⟨fun r u h => ?_, fun r u h => ?_⟩
      · rcases key r u h with ⟨hn, _⟩ | ⟨_, hg⟩
        · exact (nst r hn).1
        · exact a.1 r u hg
      · rcases key r u h with ⟨hn, _⟩ | ⟨_, hg⟩
        · exact (nst r hn).2
        · exact a.2 r u hg
    · exact W'.os d (List.mem_cons_of_mem _ hd)
  · unfold gAdd
    rw [if_neg (by rw [g0 _ _ h]; exact fun z => nomatch z)]; exact h
  · unfold gAdd
    rw [if_pos h1]; exact h2
end
end K17

set_option Elab.async false
set_option linter.all false
set_option maxRecDepth 100000
set_option maxHeartbeats 0
namespace K17
open PySem PySem.Spec PyProof.Rows L2 RC
section
variable {P : Program} {w : World} {K : PySem.W.Frag} {mg : Str → Option Value} {base : Heap}
/-! ### the text of a record, in a form or none -/
/-- a record of the law -/
def rcL (ln msg : Str) : Rc := ⟨"a", 10, ln, msg, 0, []⟩
def foL (fm : Bool) : Option (List (Str ⊕ Str)) := if fm = true then some [.inr "name", .inl ": ", .inr "message"] else none
/-- what is written ahead of the text -/
def frL (fm : Bool) : Str := if fm = true then "a: " else ""
def otL (fm : Bool) (msg : Str) : SS := (frL fm ++ msg).cps.toList
theorem psOk : PsOk [.inr "name", .inl ": ", .inr "message"] := ⟨by decide, fun z hz => by
  simp only [List.mem_cons, List.not_mem_nil, or_false, reduceCtorEq, false_or] at hz
  cases hz; decide, fun n hn => by
  simp only [List.mem_cons, List.not_mem_nil, or_false, reduceCtorEq, false_or] at hn
  rcases hn with h | h <;> (cases h; decide)⟩
theorem hfL {ln msg : Str} (fm : Bool) : HfO (rcL ln msg) (foL fm) (.tx (otL fm msg)) := by
  cases fm with
  | false =>
    have e : otL false msg = msg.cps.toList := by
      show (("" : Str) ++ msg).cps.toList = _
      rw [app_nil]
    rw [e]
    exact .msgT (.inl ⟨rfl, rfl⟩)
  | true =>
    have h1 : FldO (rcL ln msg) "name" (.tx (("a" : Str).cps.toList)) := FldO.val (v := .str "a") (by decide +kernel) rfl (by decide +kernel)
    have h2 : FldO (rcL ln msg) "message" (.tx msg.cps.toList) := .msgT rfl (.inl ⟨rfl, rfl⟩)
    have e : otL true msg = ("a" : Str).cps.toList ++ ((": " : Str).cps.toList ++ (msg.cps.toList ++ [])) := by
      show (("a: " : Str) ++ msg).cps.toList = _
      have e1 : (("a: " : Str) ++ msg).cps.toList = ("a: " : Str).cps.toList ++ msg.cps.toList := TL.tl_append _ _
      have e2 : ("a: " : Str).cps.toList = ("a" : Str).cps.toList ++ (": " : Str).cps.toList := by decide +kernel
      rw [e1, e2, List.append_nil, List.append_assoc]
    rw [e]
    exact .fm (FmO.val h1 (FmO.txt (FmO.val h2 FmO.nil)))
theorem otL_len (fm : Bool) (msg : Str) : (otL fm msg).length ≤ msg.length + 3 := by
  have e : (otL fm msg).length = (frL fm ++ msg).length := (TL.len_tl _).symm
  rw [e, len_app]
  cases fm with
  | true => show 3 + _ ≤ _; omega
  | false => show 0 + _ ≤ _; omega
theorem otL_tx (fm : Bool) (msg : Str) : tx (otL fm msg) = frL fm ++ msg := tx_toList _
def ptF : List PtT := [.inr ("name" : Str).cps.toList, .inl 58, .inl 32, .inr ("message" : Str).cps.toList]
theorem plF : PlB ("{name}: {message}" : Str).cps.toList ptF := by
  have e : ("{name}: {message}" : Str).cps.toList = 123 :: (("name" : Str).cps.toList ++ 125 :: (58 :: 32 :: 123 :: (("message" : Str).cps.toList ++ 125 :: []))) := by decide +kernel
  rw [e]
  exact .fld (by decide +kernel) (by decide +kernel) (by decide +kernel) (by decide +kernel) (.ch (by decide) (by decide) (.ch (by decide) (by decide) (.fld (by decide +kernel) (by decide +kernel) (by decide +kernel) (by decide +kernel) .nil)))
theorem joinF : joinP ptF = [.inr "name", .inl ": ", .inr "message"] := by decide +kernel
/-- the state of a turn: the handler d of a yard at roles ad; fm: a formatter is set, it lies in G -/
structure TurnW (K : PySem.W.Frag) (H : Hp) (s l : Addr) (n : Nat) (st : FS) (ad : Ro → Addr) (d : Hd) (mb : Int) (b : Nat) (fm : Bool) (G : Hp) (RW : Addr) (rows : List Str) : Prop where
  W : RS.Wd H s l n [cF K st ad, RS.cG G, RS.cell RW (.lst (rows.map V.str))]
  hd : st.hd = some (d.F (ad .hl) (ad .y))
  tl : d.tl = some (mb, (b : Int))
  hf : st.hf = true
  ck : st.now = 0
  fo : FormV K G (foL fm) d.fv
end
end K17

set_option Elab.async false
set_option linter.all false
set_option maxRecDepth 100000
set_option maxHeartbeats 0
namespace K17
open PySem PySem.Spec PyProof.Rows L2 RC
section
variable {P : Program} {w : World} {K : PySem.W.Frag} {mg : Str → Option Value} {base : Heap}
/-! ### what holds ahead of a record -/
theorem shift_k : ∀ (n : Nat) (s : FS), (s.shift n).hf = s.hf ∧ (s.shift n).now = s.now ∧ (s.shift n).md = s.md
  | 0, _ => ⟨rfl, rfl, rfl⟩
  | n + 1, s => by
    have h := shift_k n (s.mvf (bn (n + 1)) (bn (n + 2)))
    have e : (s.mvf (bn (n + 1)) (bn (n + 2))).hf = s.hf ∧ (s.mvf (bn (n + 1)) (bn (n + 2))).now = s.now ∧ (s.mvf (bn (n + 1)) (bn (n + 2))).md = s.md := by
      unfold FS.mvf
      split <;> exact ⟨rfl, rfl, rfl⟩
    exact ⟨h.1.trans e.1, h.2.1.trans e.2.1, h.2.2.trans e.2.2⟩
theorem mvf_k (s : FS) (a b : Str) : (s.mvf a b).hf = s.hf ∧ (s.mvf a b).now = s.now := by
  unfold FS.mvf
  split <;> exact ⟨rfl, rfl⟩
theorem roll_k (s : FS) (b : Nat) : (s.roll b).hf = s.hf ∧ (s.roll b).now = s.now := by
  unfold FS.roll
  split
  · exact ⟨rfl, rfl⟩
  · have h := mvf_k (s.shift (b - 1)) "f" (bn 1)
    have g := shift_k (b - 1) s
    exact ⟨h.1.trans g.1, h.2.trans g.2.1⟩
theorem op1_k (s : FS) : s.op1.hf = s.hf ∧ s.op1.now = s.now := by
  unfold FS.op1
  split <;> exact ⟨rfl, rfl⟩
theorem open1_k (s : FS) (d : Hd) (fl y : Addr) : (s.open1 d fl y).hf = s.hf ∧ (s.open1 d fl y).now = s.now := by
  unfold FS.open1
  split
  · exact ⟨rfl, rfl⟩
  · exact op1_k s
theorem rolled_k (s : FS) (d : Hd) (b : Nat) (fl y : Addr) : (s.rolled d b fl y).hf = s.hf ∧ (s.rolled d b fl y).now = s.now := by
  unfold FS.rolled
  have g := roll_k (s.setH ({ d with op := false }.F fl y)) b
  split
  · exact g
  · have h := op1_k ((s.setH ({ d with op := false }.F fl y)).roll b)
    exact ⟨h.1.trans g.1, h.2.trans g.2⟩
theorem emit_k (s : FS) (d : Hd) (mb : Int) (b : Nat) (z : SS) (fl y : Addr) : (s.emit d mb b z fl y).hf = s.hf ∧ (s.emit d mb b z fl y).now = s.now := by
  have o := open1_k s d fl y
  unfold FS.emit
  split
  · have g := rolled_k (s.open1 d fl y) { d with op := true } b fl y
    have h := open1_k ((s.open1 d fl y).rolled { d with op := true } b fl y) { d with op := !d.dl } fl y
    exact ⟨(h.1.trans g.1).trans o.1, (h.2.trans g.2).trans o.2⟩
  · exact o
theorem emit_hd {s : FS} {d : Hd} {mb : Int} {b : Nat} {z : SS} {fl y : Addr} (h : s.hd = some (d.F fl y)) : (s.emit d mb b z fl y).hd = some ({ d with op := true }.F fl y) := by
  unfold FS.emit
  split
  · exact open1_hd (rolled_hd (s.open1 d fl y) { d with op := true } b fl y)
  · exact open1_hd h
theorem rq_b {s1 : FS} {t : Str} {F : List Str} (h1 : RL s1 (t :: F)) (d : Hd) {b : Nat} (h2 : (t :: F).length ≤ b + 1) (b1 : 1 ≤ b) (b8 : b ≤ 8) (fl y : Addr) : RL ((s1.rolled { d with op := true } b fl y).open1 { d with op := !d.dl } fl y) ("" :: (t :: F).take b) := by
  obtain ⟨fv, cl, dl, op, tl⟩ := d
  unfold FS.rolled
  cases dl with
  | true => exact (op1_new (b := b) (h1.setH (({ fv := fv, cl := cl, dl := true, op := false, tl := tl } : Hd).F fl y)) (by rw [List.length_cons]; omega) h2 b1 b8).setH _
  | false => exact (op1_new (b := b) (h1.setH (({ fv := fv, cl := cl, dl := false, op := false, tl := tl } : Hd).F fl y)) (by rw [List.length_cons]; omega) h2 b1 b8).setH _
theorem rq_0 {s1 : FS} {t : Str} {F : List Str} (h1 : RL s1 (t :: F)) (d : Hd) (fl y : Addr) : RL ((s1.rolled { d with op := true } 0 fl y).open1 { d with op := !d.dl } fl y) (t :: F) := by
  obtain ⟨fv, cl, dl, op, tl⟩ := d
  unfold FS.rolled
  cases dl with
  | true =>
    show RL (FS.open1 ((s1.setH _).roll 0) _ _ _) _
    rw [roll0]
    exact RL.open1 (h1.setH _) _ _ _
  | false =>
    show RL (FS.open1 (((s1.setH _).roll 0).op1.setH _) _ _ _) _
    rw [roll0]
    have h3 := h1.setH (({ fv := fv, cl := cl, dl := false, op := false, tl := tl } : Hd).F fl y)
    rw [op1_some h3.has]
    exact RL.open1 (h3.setH _) _ _ _
/-- ahead of a record -/
def Pre (s : FS) (d : Hd) (mb : Int) (b : Nat) (rows : List Str) : Prop := (rows = [] ∧ ((RL s [] ∧ d.op = false) ∨ RL s [""])) ∨ ∃ F, J s mb b F rows
theorem J.le {s : FS} {mb : Int} {b : Nat} {F : List (List Str)} {rows : List Str} (h : J s mb b F rows) (r2 : ∀ r ∈ rows, r.length ≤ 1000) (rl : rows.length ≤ 1000) : ∀ p ∈ F, (jn p).length ≤ 1000000 := fun p hp => by
  obtain ⟨ds, e, _⟩ := h.dr
  have hm : ∀ r ∈ p, r ∈ rows := fun r hr => by rw [e]; exact List.mem_append_right _ (List.mem_flatten.mpr ⟨p, List.mem_reverse.mpr hp, hr⟩)
  have h1 : p.length ≤ rows.length := by
    obtain ⟨u, v, huv⟩ := List.append_of_mem (List.mem_reverse.mpr hp)
    rw [e, huv, List.length_append, List.flatten_append, List.flatten_cons, List.length_append, List.length_append]; omega
  have := sum_le p fun r hr => r2 r (hm r hr)
  rw [jn_len]; omega
theorem Pre.o1 {s : FS} {d : Hd} {mb : Int} {b : Nat} {rows : List Str} (h : Pre s d mb b rows) (r2 : ∀ r ∈ rows, r.length ≤ 1000) (rl : rows.length ≤ 1000) (fl y : Addr) : ∃ t F, RL (s.open1 d fl y) (t :: F) ∧ (t :: F).length ≤ b + 1 ∧ t.length ≤ 1000000 := by
  rcases h with ⟨rfl, ⟨h, ho⟩ | h⟩ | ⟨F, h⟩
  · refine ⟨"", [], ?_, by rw [List.length_singleton]; omega, by decide⟩
    unfold FS.open1
    have e : s.files.lookup ("f" : Str) = none := h.gk 0 (by decide)
    rw [if_neg (by rw [ho]; decide), op1_none e]
    exact (h.put "").setH _
  · exact ⟨"", [], h.open1 d fl y, by rw [List.length_singleton]; omega, by decide⟩
  · cases hF : F with
    | nil => have := h.l1; rw [hF] at this; exact absurd this (by decide)
    | cons p F' =>
      rw [hF] at h
      exact ⟨jn p, F'.map jn, h.rl.open1 d fl y, by have := h.l2; rw [List.length_cons] at this ⊢; rw [List.length_map]; exact this, h.le r2 rl p List.mem_cons_self⟩
theorem Pre.s1 {s : FS} {d : Hd} {mb : Int} {b : Nat} {rows : List Str} (h : Pre s d mb b rows) (r2 : ∀ r ∈ rows, r.length ≤ 1000) (rl : rows.length ≤ 1000) (fl y : Addr) : (txt (s.open1 d fl y).files "f").length ≤ 8000000 := by
  obtain ⟨t, F, h1, _, h3⟩ := h.o1 r2 rl fl y
  rw [h1.txt]; omega
theorem Pre.s2 {s : FS} {d : Hd} {mb : Int} {b : Nat} {rows : List Str} (h : Pre s d mb b rows) (r2 : ∀ r ∈ rows, r.length ≤ 1000) (rl : rows.length ≤ 1000) (b8 : b ≤ 8) (fl y : Addr) : (txt (((s.open1 d fl y).rolled { d with op := true } b fl y).open1 { d with op := !d.dl } fl y).files "f").length ≤ 8000000 := by
  obtain ⟨t, F, h1, h2, h3⟩ := h.o1 r2 rl fl y
  rcases Nat.eq_zero_or_pos b with rfl | b1
  · rw [(rq_0 h1 d fl y).txt]; omega
  · rw [(rq_b h1 d h2 b1 b8 fl y).txt]; decide
theorem Pre.op {s : FS} {d : Hd} {mb : Int} {b : Nat} {rows : List Str} (h : Pre s d mb b rows) (ho : d.op = true) : ∃ u, s.files.lookup ("f" : Str) = some u := by
  rcases h with ⟨rfl, ⟨_, h⟩ | h⟩ | ⟨F, h⟩
  · rw [h] at ho; cases ho
  · exact ⟨_, h.has⟩
  · cases hF : F with
    | nil => have := h.l1; rw [hF] at this; exact absurd this (by decide)
    | cons p F' => rw [hF] at h; exact ⟨_, h.rl.has⟩
theorem Pre.len {s : FS} {d : Hd} {mb : Int} {b : Nat} {rows : List Str} (h : Pre s d mb b rows) : s.files.length ≤ 800 := by
  rcases h with ⟨rfl, ⟨h, _⟩ | h⟩ | ⟨F, h⟩
  · rw [h.rowF.ln]; decide
  · rw [h.rowF.ln]; decide
  · rw [h.rl.rowF.ln]; have := h.rl.ln; omega
theorem Pre.emit {s : FS} {d : Hd} {mb : Int} {b : Nat} {rows : List Str} {z : SS} {fl y : Addr} (h : Pre s d mb b rows) (b8 : b ≤ 8) : ∃ F, J (s.emit d mb b z fl y) mb b F (rows ++ [tx z ++ "\n"]) := by
  have hop := h.op
  rcases h with ⟨rfl, h⟩ | ⟨F, h⟩
  · exact ⟨_, emit_0 (h.imp_left And.left) hop⟩
  · exact emit_J h b8
theorem J.setH {s : FS} {mb : Int} {b : Nat} {F : List (List Str)} {rows : List Str} (h : J s mb b F rows) (fs : List (Str × V)) : J (s.setH fs) mb b F rows := ⟨h.rl.setH fs, h.l1, h.l2, h.dr, h.r1, h.c1, h.c2, h.c3⟩
theorem jn_flat : ∀ P : List (List Str), jn (P.map jn) = jn P.flatten
  | [] => rfl
  | p :: P => by
    have e : jn ((p :: P).map jn) = jn ([jn p] ++ P.map jn) := rfl
    rw [e, jn_app, jn_one, jn_flat P, List.flatten_cons, jn_app]
theorem valV_mem {kvs : List (Key × V)} {k : Key} {v : V} (h : valV kvs k = some v) : ∃ e ∈ kvs, e.2 = v := by
  unfold valV at h
  obtain ⟨e, he, z⟩ := Option.map_eq_some_iff.mp h
  exact ⟨e, List.mem_of_find?_eq_some he, z⟩
theorem nms0_ok (K : PySem.W.Frag) : NmsOk (nms0 K) := fun k v h => by
  obtain ⟨e, he, rfl⟩ := valV_mem h
  obtain ⟨q, hq, rfl⟩ := List.mem_map.mp he
  simp only [kv_FIRST_NAMES, List.mem_cons, List.not_mem_nil, or_false] at hq
  rcases hq with rfl | rfl | rfl | rfl | rfl | rfl <;> exact ⟨_, rfl⟩
theorem rc_ok {msg : Str} (h : msg.length ≤ 40) : (rcL (lvName (nms0 K) 10) msg).Ok where
  nm := by show ("a" : Str).length ≤ 2000; decide
  l := by show (10 : Int).natAbs < 2 ^ 63; decide
  lnl := by
    have : lvName (nms0 K) 10 = "DEBUG" := rfl
    show (lvName (nms0 K) 10).length ≤ 2000
    rw [this]; decide
  ms := Nat.le_trans h (by decide)
  nsl := by show ([] : List Int).length ≤ 100; decide
  nsv := fun _ h => nomatch h
  ck := by show (0 : Int).natAbs < 2 ^ 63; decide
end
end K17

set_option Elab.async false
set_option linter.all false
set_option maxRecDepth 100000
set_option maxHeartbeats 0

namespace K17
open PySem PySem.Spec PyProof.Rows L2 RC
section
variable {P : Program} {w : World} {K : PySem.W.Frag} {mg : Str → Option Value} {base : Heap}
/-! ### a record of the law -/
def bodyFor : Stmt → List Stmt
  | .For _ _ b _ _ => b
  | _ => []
abbrev b_deed : List Stmt := bodyFor ((bodyFor ((defBody s_law).getD 1 (.Pass ⟨0, 0, 0, 0⟩))).getD 5 (.Pass ⟨0, 0, 0, 0⟩))
abbrev sgD (a s : Addr) (o2 : Option V) (y : Addr) (mb : Int) (b : Nat) (o6 : Option V) (fr : Str) (o8 : Option V) (RW h : Addr) (o11 o12 o14 : Option V) : L2.St := [some (.ref a), some (.ref s), o2, some (.ref y), some (.int mb), some (.int (b : Int)), o6, some (.str fr), o8, some (.ref RW), some (.ref h), o11, o12, none, o14]
def parts4 : List Str := ["a", "b ", "{", "9"]
theorem deed (T : Txt P w K mg) {f : Addr} {cdv : Value} {A : Around} {outer : List Env} {st0 : Shared} {E : XK} {H : Hp} (hr : Room 14 (A.deeper (envOfC "law" (defScope s_law) st0.heap.objs.size f cdv)))
    (c__law_draw : Callable P w K mg base 1 (He.ga K "_law_draw") ["_law_stream", "_law_many"] [] spDraw)
    (c__law_pick : Callable P w K mg base 2 (He.ga K "_law_pick") ["_law_stream", "_law_some"] [] (spPick K))
    (c__law_parts : Callable P w K mg base 1 (He.ga K "_law_parts") ["_law_files", "_law_many"] [] (spParts2 K))
    (c__law_cut_right : Callable P w K mg base 1 (He.ga K "_law_cut_right") ["_law_parts_here", "_law_rows", "_law_size"] [] (spCut K))
    (c_RotatingFileHandler_handle : Callable P w K mg base 13 (He.ma K (He.ga K "RotatingFileHandler") "handle") ["self", "record"] [] (spHandle K))
    (c_RotatingFileHandler_close : Callable P w K mg base 3 (He.ma K (He.ga K "RotatingFileHandler") "close") ["self"] [] (spCloseH K false))
    (c_Yard_files : Callable P w K mg base 2 (He.ma K (He.ga K "Yard") "files") ["self"] [] (spFiles K))
    (c_Yard_make_record_d2 : Callable P w K mg base 6 (He.ma K (He.ga K "Yard") "make_record") ["self", "name", "level", "msg", "args", "extra"] [.ref (He.dflAt ("Yard", some "make_record") 0 K), .non] (spMakeRecord K)) :
    ∃ t, PSs (cxOf CX0 P w K mg base nm_law "law" (defScope s_law) f cdv A outer st0 H E).nox b_deed t ∧ ∀ {a s l RW : Addr} {n : Nat} {st : FS} {ad : Ro → Addr} {d : Hd} {mb : Int} {b : Nat} {fm : Bool} {G : Hp} {rows : List Str} (H5 : Hp) (D' : Ends), TurnW K H5 s l n st ad d mb b fm G RW rows → Pre st d mb b rows → 1 ≤ mb → mb ≤ 100 → b ≤ 8 → n ≤ 900000 → rows.length ≤ 100 → (∀ r ∈ rows, r.length ≤ 1000) →
      ∀ o2 o6 o8 o11 o12 o14, (∀ σ H' n' st' ad' d' G' rows' F', n' ≤ n + 40 → TurnW K H' s l n' st' ad' d' mb b fm G' RW rows' → J st' mb b F' rows' → rows'.length = rows.length + 1 → (∀ r ∈ rows', r.length ≤ 1000) → ad' .y = ad .y → ad' .h = ad .h → (∃ o12 o14, σ = sgD a s o2 (ad .y) mb b o6 (frL fm) o8 RW (ad .h) o11 o12 o14) → D'.nx σ H') → t D' (sgD a s o2 (ad .y) mb b o6 (frL fm) o8 RW (ad .h) o11 o12 o14) H5 := by
  refine ⟨_, (pss_cons (ps_set (i := 12) sc_law.nd rfl (by first | exact Or.inl rfl | exact Or.inr rfl) (pe_join pe_str (pe_lc (own := [("_law_sign", 13)]) (by rfl) sc_law.nd (pi_range1 (by rfl) T.b_range (pa_cons (pe_fn T.g__law_draw c__law_draw (hr.mono (by first | decide | exact Nat.le_refl _)) (by rfl) (pa_cons (pv 1) (pa_cons pe_int pa_nil))) pa_nil)) (blkOk_by (own := [("_law_sign", 13)]) (N := nm_law) (sc := defScope s_law) (by decide +kernel)) (fun _ _ _ _ _ => (pg_name (i := 13) sc_law.nd rfl (by first | exact Or.inl rfl | exact Or.inr rfl))) (fun _ _ _ _ _ => pts_nil) (fun _ _ _ _ _ => (pe_fn T.g__law_pick c__law_pick (hr.mono (by first | decide | exact Nat.le_refl _)) (by rfl) (pa_cons (pv 1) (pa_cons (pe_lst (pa_cons pe_str (pa_cons pe_str (pa_cons pe_str (pa_cons pe_str pa_nil))))) pa_nil)))))))
      (pss_cons (ps_expr (pe_bm PySem.F.plainAttrs_list PySem.F.slot_list_append PySem.F.type_list_append mt_append (pv 9) (pa_cons (pe_op op_add_str (pe_op op_add_str (pv 7) (pv 12)) pe_str) pa_nil)))
      (pss_cons (ps_if (pt_cmpR op_notBl (pe_mt T.c_RotatingFileHandler T.m_RotatingFileHandler_handle c_RotatingFileHandler_handle (hr.mono (by first | decide | exact Nat.le_refl _)) (pv 10) (pa_cons (pe_mt T.c_Yard T.m_Yard_make_record c_Yard_make_record_d2 (hr.mono (by first | decide | exact Nat.le_refl _)) (pv 3) (pa_cons pe_str (pa_cons pe_int (pa_cons (pv 12) pa_nil)))) pa_nil)) pe_bl (nomark _)) (pss_one (ps_ret pe_bl)) pss_nil)
      (pss_cons (ps_if (pt_cmpR op_eq (pe_fn T.g__law_draw c__law_draw (hr.mono (by first | decide | exact Nat.le_refl _)) (by rfl) (pa_cons (pv 1) (pa_cons pe_int pa_nil))) pe_int (nomark _)) (pss_one (ps_expr (pe_mt0 T.c_RotatingFileHandler T.m_RotatingFileHandler_close c_RotatingFileHandler_close (hr.mono (by first | decide | exact Nat.le_refl _)) (pv 10)))) pss_nil)
      (pss_cons (ps_set (i := 14) sc_law.nd rfl (by first | exact Or.inl rfl | exact Or.inr rfl) (pe_fn T.g__law_parts c__law_parts (hr.mono (by first | decide | exact Nat.le_refl _)) (by rfl) (pa_cons (pe_mt0 T.c_Yard T.m_Yard_files c_Yard_files (hr.mono (by first | decide | exact Nat.le_refl _)) (pv 3)) (pa_cons (pv 5) pa_nil))))
      (pss_cons (ps_if (PW.pt (pw_or (pt_cmpR op_isN (pv 14) pe_non (nomark _)) (pw_or1 (PW.pt (pw_and (pt_cmpR op_eq (pv 5) pe_int (nomark _)) (pw_and1 (pt_cmpR (RY.op_neV (Nat.lt_of_succ_lt (hu_of hr))) (pv 14) (pe_lst (pa_cons (pe_join pe_str (pv 9)) pa_nil)) (nomark _)))))))) (pss_one (ps_ret pe_bl)) pss_nil)
      (pss_cons (ps_if (PW.pt (pw_and (pt_cmpR op_gt (pv 5) pe_int (nomark _)) (pw_and1 (pt_not (pt_val (pe_fn T.g__law_cut_right c__law_cut_right (hr.mono (by first | decide | exact Nat.le_refl _)) (by rfl) (pa_cons (pv 14) (pa_cons (pv 9) (pa_cons (pv 4) pa_nil))))))))) (pss_one (ps_ret pe_bl)) pss_nil)
      (pss_one (ps_if (PW.pt (pw_and (pt_cmpR op_gt (pv 5) pe_int (nomark _)) (pw_and (pt_cmpR op_lt (pe_callB call_len (by rfl) T.b_len (by decide +kernel) (pa_cons (pv 14) pa_nil)) (pe_op op_add (pv 5) pe_int) (nomark _)) (pw_and1 (pt_cmpR op_ne (pe_join pe_str (pv 14)) (pe_join pe_str (pv 9)) (nomark _)))))) (pss_one (ps_ret pe_bl)) pss_nil))))))))), ?_⟩
  walk_at "in"
  intro a s l RW n st ad d mb b fm G rows H5 D' TW hP hmb hmb2 hb8 hn hrl hr2 o2 o6 o8 o11 o12 o14 k'
  obtain ⟨fv, cl, dl, op, tl⟩ := d
  obtain rfl : tl = some (mb, (b : Int)) := TW.tl
  have W5 := TW.W
  have st5 := W5.stm
  -- the text
  refine seq_of (fun σ' H6 => ∃ msg : Str, msg.length ≤ 40 ∧ RS.Wd H6 s l (n + 18) [cF K st ad, RS.cG G, RS.cell RW (.lst (rows.map V.str))] ∧ σ' = sgD a s o2 (ad .y) mb b o6 (frL fm) o8 RW (ad .h) o11 (some (.str msg)) o14) (fun b' kb => ?_) (fun σ' H6 hm => ?_)
  · refine ⟨⟨_, rfl⟩, _, rfl, s, l, n, 16, rfl, st5, by omega, by decide, by decide, fun H6 c q6 st6 c0 c1 => ?_⟩
    have W6 := W5.old q6 st6
    obtain ⟨e, rfl⟩ : ∃ e : Nat, c = (e : Int) := ⟨c.toNat, by omega⟩
    refine ⟨_, rfl, by omega, by omega, ?_⟩
    intro D fD
    refine lc_it walk_range (fun i H' => ∃ ts : List Str, ts.length = i ∧ (∀ t ∈ ts, t.length ≤ 2) ∧ RS.Wd H' s l (n + 1 + i) [RS.cell D (.lst (ts.map V.str)), cF K st ad, RS.cG G, RS.cell RW (.lst (rows.map V.str))]) ⟨[], rfl, (fun _ h => nomatch h), W6.new fD⟩ (fun _ _ _ _ => trivial) (fun i y H7 H8 hi hp hy => ?_) (fun H7 hp => ?_)
    · obtain ⟨rfl, rfl⟩ := hy
      obtain ⟨ts, tl, t2, W7⟩ := hp
      have hi16 : i < 16 := by omega
      walk_at "go"
      intro p fp
      have Wn := W7.new (o := .lst [.str "a", .str "b ", .str "{", .str "9"]) fp
      refine ⟨s, l, p, n + 1 + i, [.str "a", .str "b ", .str "{", .str "9"], rfl, Wn.stm, by omega, Wn.stmNe.1, Wn.stmNe.2, upd_same, by decide, by decide, fun H9 x q9 st9 hx => ?_⟩
      have W9 := (Wn.old q9 st9).tl
      obtain ⟨t, rfl, ht⟩ : ∃ t : Str, x = .str t ∧ t.length ≤ 2 := by
        simp only [List.mem_cons, List.not_mem_nil, or_false] at hx
        rcases hx with rfl | rfl | rfl | rfl <;> exact ⟨_, rfl, by decide⟩
      refine ⟨_, W9.c0, by rw [List.length_map, tl, sizeLine_eq]; omega, ts ++ [t], by rw [List.length_append, tl]; rfl, fun z hz => ?_, ?_⟩
      · rcases List.mem_append.mp hz with h | h
        · exact t2 z h
        · rw [List.mem_singleton.mp h]; exact ht
      · rw [List.map_append]
        exact W9.set
    · obtain ⟨ts, tl, t2, W7⟩ := hp
      have hb2 : (ts.map (·.length)).sum ≤ 2 * ts.length := by
        clear tl W7
        induction ts with
        | nil => exact Nat.le_refl _
        | cons t r ih =>
          have h1 := t2 t List.mem_cons_self
          have h2 := ih fun z hz => t2 z (List.mem_cons_of_mem _ hz)
          rw [List.map_cons, List.sum_cons, List.length_cons]; omega
      have htl : ts.length ≤ 15 := by rw [tl]; omega
      refine ⟨"", D, ts, rfl, rfl, .inl (SqL.of W7.c0), (by show _ + _ * 0 ≤ _; omega), ?_⟩
      exact kb _ _ ⟨jn ts, by rw [jn_len]; omega, W7.tl.mono (by omega), rfl⟩
  obtain ⟨msg, hml, W6, rfl⟩ := hm
  clear W5 st5
  have hfl : (frL fm).length ≤ 3 := by cases fm <;> decide
  have z1 : (frL fm).length + msg.length ≤ sizeLine := by rw [sizeLine_eq]; omega
  have z2 : (frL fm ++ msg).length + ("\n" : Str).length ≤ sizeLine := by
    have : ("\n" : Str).length = 1 := rfl
    rw [len_app, this, sizeLine_eq]; omega
  have rwl : (rows.map V.str).length < sizeLine := by rw [List.length_map, sizeLine_eq]; omega
  have W6 : RS.Wd H6 s l (n + 18) [RS.cell RW (.lst (rows.map V.str)), cF K st ad, RS.cG G] := W6.perm ((List.Perm.swap _ _ _).trans (.cons _ (.swap _ _ _)) |>.trans (.refl _) |> fun h => by first | exact h | exact (List.Perm.swap _ _ _).trans ((List.Perm.cons _ (List.Perm.swap _ _ _)).trans (.refl _)))
  have hRW := W6.c0
  refine seq_of (fun σ' H7 => RS.Wd H7 s l (n + 18) [RS.cell RW (.lst ((rows ++ [frL fm ++ msg ++ "\n"]).map V.str)), cF K st ad, RS.cG G] ∧ σ' = sgD a s o2 (ad .y) mb b o6 (frL fm) o8 RW (ad .h) o11 (some (.str msg)) o14) (fun b' kb => ?_) (fun σ' H7 hm => ?_)
  · walk_at "go"
    refine kb _ _ ⟨?_, rfl⟩
    rw [List.map_append]
    exact W6.set
  clear W6 hRW
  obtain ⟨W7, rfl⟩ := hm
  have W7 : RS.Wd H7 s l (n + 18) [RS.cG G, cF K st ad, RS.cell RW (.lst ((rows ++ [frL fm ++ msg ++ "\n"]).map V.str))] := W7.up2.sw1
  have R7 : YR K st ad H7 := W7.up1.hd
  have ha7 := R7.h_ TW.hd
  have hy7 := R7.y_
  have hT := T.dt_Yard_make_record_0 H7
  refine seq_of (fun σ' H9 => ∃ st' ad' G' F', RS.Wd H9 s l (n + 18) [RS.cG G', cF K st' ad', RS.cell RW (.lst ((rows ++ [frL fm ++ msg ++ "\n"]).map V.str))] ∧ J st' mb b F' (rows ++ [frL fm ++ msg ++ "\n"]) ∧ st'.hd = some (({ fv := fv, cl := cl, dl := dl, op := true, tl := some (mb, (b : Int)) } : Hd).F (ad' .hl) (ad' .y)) ∧ st'.hf = true ∧ st'.now = 0 ∧ FormV K G' (foL fm) fv ∧ ad' .y = ad .y ∧ ad' .h = ad .h ∧ σ' = sgD a s o2 (ad .y) mb b o6 (frL fm) o8 RW (ad .h) o11 (some (.str msg)) o14) (fun b' kb => ?_) (fun σ' H9 hm => ?_)
  · refine ⟨_, rfl, ad .h, _, _, rfl, ha7, rfl, _, rfl, ad .y, _, _, rfl, hy7, rfl, _, rfl, ?_⟩
    refine ⟨ad .y, _, ad .na, ad .nu, _, _, nms0 K, nums0 K, "a", msg, 10, 0, [], rfl, .inr hT, (fun _ h => nomatch h), by decide, hy7, rfl, rfl, (by show some (V.int st.now) = _; rw [TW.ck]), rfl, rfl, R7.na_, R7.nu_, nms0_ok K, by decide, fun H8 r g e s8 fr fg fe hr8 hg8 he8 => ?_⟩
    obtain ⟨W8, sG, hnw⟩ := W7.layAll s8
    obtain ⟨dx, hr8⟩ := hr8
    have hrc : RcAt K (gAdd G H7 H8) r (rcL (lvName (nms0 K) 10) msg) := ⟨dx, g, e, hnw _ _ fr hr8, hnw _ _ fg hg8, hnw _ _ fe he8⟩
    have hfo : FormV K (gAdd G H7 H8) (foL fm) fv := FormV.same sG TW.fo
    generalize gAdd G H7 H8 = G1 at W8 hrc hfo
    have W8 := W8.up1
    have hol := otL_len fm msg
    refine ⟨st, ad, ⟨fv, cl, dl, op, some (mb, (b : Int))⟩, mb, b, G1, r, rcL (lvName (nms0 K) 10) msg, foL fm, otL fm msg, rfl, W8.hd, TW.hf, TW.hd, rfl, Ap.of W8, hfo, hrc, rc_ok hml, hfL fm, hP.len, hb8, hmb, hP.op, hP.s1 hr2 (by omega) _ _, hP.s2 hr2 (by omega) hb8 _ _, by omega, fun ad' H9 st' R9 M9 X9 e9 => ?_⟩
    obtain ⟨F', hJ⟩ := hP.emit (z := otL fm msg) (fl := ad .hl) (y := ad .y) hb8
    rw [← e9, otL_tx] at hJ
    have hk := emit_k st ⟨fv, cl, dl, op, some (mb, (b : Int))⟩ mb b (otL fm msg) (ad .hl) (ad .y)
    rw [← e9] at hk
    have hh := emit_hd (mb := mb) (b := b) (z := otL fm msg) TW.hd
    rw [← e9] at hh
    have x1 : ad' .h = ad .h := X9 .h fun _ h => nomatch h
    have x2 : ad' .hl = ad .hl := X9 .hl fun _ h => nomatch h
    have x3 : ad' .y = ad .y := X9 .y fun _ h => nomatch h
    have W9 : RS.Wd H9 s l (n + 18) [cF K st' ad', RS.cG G1, RS.cell RW (.lst ((rows ++ [frL fm ++ msg ++ "\n"]).map V.str))] := W8.mv (c' := cF K st' ad') R9 M9
    rw [← x2, ← x3] at hh
    walk_at "go"
    exact kb _ _ ⟨st', ad', G1, F', W9.up1, hJ, hh, hk.1.trans TW.hf, hk.2.trans TW.ck, hfo, x3, x1, rfl⟩
  obtain ⟨st1, ad1, G1, F1, W9, hJ, hh, hhf, hck, hfo, y1, y2, rfl⟩ := hm
  clear W7 R7 ha7 hy7 hT
  have st9 := W9.stm
  rw [← y1, ← y2] at k' ⊢
  refine seq_of (fun σ' H10 => ∃ st2 op2 cl2, RS.Wd H10 s l (n + 19) [cF K st2 ad1, RS.cG G1, RS.cell RW (.lst ((rows ++ [frL fm ++ msg ++ "\n"]).map V.str))] ∧ J st2 mb b F1 (rows ++ [frL fm ++ msg ++ "\n"]) ∧ st2.hd = some (({ fv := fv, cl := cl2, dl := dl, op := op2, tl := some (mb, (b : Int)) } : Hd).F (ad1 .hl) (ad1 .y)) ∧ st2.hf = true ∧ st2.now = 0 ∧ σ' = sgD a s o2 (ad1 .y) mb b o6 (frL fm) o8 RW (ad1 .h) o11 (some (.str msg)) o14) (fun b' kb => ?_) (fun σ' H10 hm => ?_)
  · refine ⟨_, rfl, s, l, n + 18, 12, rfl, st9, by omega, by decide, by decide, fun H10 c q10 st10 c0 c1 => ?_⟩
    have W10 := (W9.old q10 st10).up1
    have R10 : YR K st1 ad1 H10 := W10.hd
    have ha10 := R10.h_ hh
    by_cases cz : c = 0
    · subst cz
      have e0 : decide (V.int 0 = V.int 0) = true := decide_eq_true rfl
      walk_at "go"
      intro H11 s11 R11 M11 e11
      have W11 : RS.Wd H11 s l (n + 19) [cF K s11 ad1, RS.cG G1, RS.cell RW (.lst ((rows ++ [frL fm ++ msg ++ "\n"]).map V.str))] := W10.mv (c' := cF K s11 ad1) R11 M11
      subst e11
      exact kb _ _ ⟨_, _, _, W11, hJ.setH _, rfl, hhf, hck, rfl⟩
    · have e0 : decide (V.int c = V.int 0) = false := decide_eq_false fun z => cz (V.int.inj z)
      walk_at "go"
      exact kb _ _ ⟨_, _, _, W10, hJ, hh, hhf, hck, rfl⟩
  obtain ⟨st2, op2, cl2, W10, hJ, hh, hhf, hck, rfl⟩ := hm
  clear W9 st9
  have R10 : YR K st2 ad1 H10 := W10.hd
  have hy10 := R10.y_
  have hl := hJ.l1
  have hl2 := hJ.l2
  -- the parts
  refine seq_of (fun σ' H12 => ∃ p2, RS.Wd H12 s l (n + 19) [cF K st2 ad1, RS.cG G1, RS.cell RW (.lst ((rows ++ [frL fm ++ msg ++ "\n"]).map V.str))] ∧ H12 p2 = some (.lst ((F1.reverse.map jn).map V.str)) ∧ σ' = sgD a s o2 (ad1 .y) mb b o6 (frL fm) o8 RW (ad1 .h) o11 (some (.str msg)) (some (.ref p2))) (fun b' kb => ?_) (fun σ' H12 hm => ?_)
  · refine ⟨_, rfl, ad1 .y, _, _, rfl, hy10, rfl, ?_⟩
    refine ⟨st2, ad1, rfl, R10, by rw [hJ.rl.rowF.ln]; have := hJ.rl.ln; omega, hJ.rl.nd, fun p H11 s11 fp hp => ?_⟩
    refine ⟨_, rfl, p, st2.files, F1.map jn, b, rfl, hp, hJ.rl.rowF, by rw [List.length_map]; exact hl, by rw [List.length_map]; exact hl2, hb8, fun H12 p2 s12 f2 hp2 => ?_⟩
    refine kb _ _ ⟨p2, (W10.same s11).same s12, ?_, rfl⟩
    rw [hp2, ← List.map_reverse]
  obtain ⟨p2, W12, hp2, rfl⟩ := hm
  have hrw12 : H12 RW = some (.lst ((rows ++ [frL fm ++ msg ++ "\n"]).map V.str)) := W12.tl.tl.c0
  clear W10 R10 hy10
  have TW2 : ∀ {H' : Hp}, Same H12 H' → TurnW K H' s l (n + 19) st2 ad1 ⟨fv, cl2, dl, op2, some (mb, (b : Int))⟩ mb b fm G1 RW (rows ++ [frL fm ++ msg ++ "\n"]) := fun e => ⟨W12.same e, hh, rfl, hhf, hck, hfo⟩
  have hr3 : ∀ r ∈ rows ++ [frL fm ++ msg ++ "\n"], r.length ≤ 1000 := fun r hr => by
    rcases List.mem_append.mp hr with h | h
    · exact hr2 r h
    · rw [List.mem_singleton.mp h, len_app, len_app]
      have : ("\n" : Str).length = 1 := rfl
      omega
  have hrl3 : (rows ++ [frL fm ++ msg ++ "\n"]).length = rows.length + 1 := by rw [List.length_append]; rfl
  generalize rows ++ [frL fm ++ msg ++ "\n"] = rows' at *
  have jb : ((rows'.map (·.length)).sum) ≤ 1000 * rows'.length := sum_le rows' hr3
  have hjr : (jn rows').length ≤ 200000 := by rw [jn_len]; omega
  refine seq_of (fun σ' H13 => Same H12 H13 ∧ σ' = sgD a s o2 (ad1 .y) mb b o6 (frL fm) o8 RW (ad1 .h) o11 (some (.str msg)) (some (.ref p2))) (fun b' kb => ?_) (fun σ' H13 hm => ?_)
  · have eN : decide (V.ref p2 = V.non) = false := decide_eq_false fun z => nomatch z
    rcases Nat.eq_zero_or_pos b with rfl | b0
    · have e0 : decide (V.int ((0 : Nat) : Int) = V.int 0) = true := decide_eq_true rfl
      have hF : (F1.reverse.map jn) = [jn rows'] := by
        obtain ⟨ds, e, c⟩ := hJ.dr
        have : ds = [] := c.resolve_right fun h => absurd h.2 (Nat.lt_irrefl 0)
        subst this
        cases hq : F1 with
        | nil => rw [hq] at hl; exact absurd hl (by decide)
        | cons q r =>
          rw [hq, List.length_cons] at hl2
          have : r = [] := List.length_eq_zero_iff.mp (by omega)
          subst this
          rw [hq] at e
          rw [e]
          simp
      rw [hF] at hp2
      walk_at "go"
      refine ⟨⟨_, rfl⟩, _, rfl, "", RW, rows', rfl, rfl, .inl (SqL.of hrw12), (by show _ + _ * 0 ≤ _; omega), ?_⟩
      walk_at "go"
      intro p3 f3
      refine ⟨p2, p3, [.str (jn rows')], rfl, rfl, SqL.of (same_new f3 _ _ _ hp2), SqL.of upd_same, rfl, ?_⟩
      walk_at "go"
      exact kb _ _ ⟨same_new f3 _, rfl⟩
    · have e0 : decide (V.int (b : Int) = V.int 0) = false := decide_eq_false fun z => by have := V.int.inj z; omega
      walk_at "go"
      exact kb _ _ ⟨Same.refl _, rfl⟩
  obtain ⟨s13, rfl⟩ := hm
  have hp13 := s13 _ _ hp2
  have hrw13 := s13 _ _ hrw12
  refine seq_of (fun σ' H14 => Same H12 H14 ∧ σ' = sgD a s o2 (ad1 .y) mb b o6 (frL fm) o8 RW (ad1 .h) o11 (some (.str msg)) (some (.ref p2))) (fun b' kb => ?_) (fun σ' H14 hm => ?_)
  · rcases Nat.eq_zero_or_pos b with b0 | b0
    · have e0 : decide ((0 : Int) < (b : Int)) = false := decide_eq_false (by omega)
      walk_at "go"
      exact kb _ _ ⟨s13, rfl⟩
    · have e0 : decide ((0 : Int) < (b : Int)) = true := decide_eq_true (by omega)
      have hC := hJ.cut b0 hr3 (by omega)
      walk_at "go"
      intro H14 s14
      walk_at "go"
      exact kb _ _ ⟨s13.trans s14, rfl⟩
  obtain ⟨s14, rfl⟩ := hm
  have hp14 := s14 _ _ hp2
  have hrw14 := s14 _ _ hrw12
  have fin : D'.nx (sgD a s o2 (ad1 .y) mb b o6 (frL fm) o8 RW (ad1 .h) o11 (some (.str msg)) (some (.ref p2))) H14 := k' _ _ (n + 19) st2 ad1 _ G1 rows' F1 (by omega) (TW2 s14) hJ hrl3 hr3 rfl rfl ⟨_, _, rfl⟩
  rcases Nat.eq_zero_or_pos b with b0 | b0
  · have e0 : decide ((0 : Int) < (b : Int)) = false := decide_eq_false (by omega)
    walk_at "go"
    exact fin
  · have e0 : decide ((0 : Int) < (b : Int)) = true := decide_eq_true (by omega)
    have hll : ((F1.reverse.map jn).map V.str).length = F1.length := by rw [List.length_map, List.length_map, List.length_reverse]
    by_cases c1 : F1.length < b + 1
    · have e1 : decide (((((F1.reverse.map jn).map V.str).length : Nat) : Int) < (b : Int) + 1) = true := decide_eq_true (by rw [hll]; omega)
      have hEq : jn (F1.reverse.map jn) = jn rows' := by
        obtain ⟨ds, e, c⟩ := hJ.dr
        have : ds = [] := c.resolve_right fun h => by omega
        subst this
        rw [jn_flat, e, List.nil_append]
      have hb1 : ((F1.reverse.map jn).map (·.length)).sum ≤ 200000 := by rw [← jn_len, hEq]; exact hjr
      have e8 : (!decide (V.str (jn rows') = V.str (jn rows'))) = false := by rw [decide_eq_true rfl]; rfl
      walk_at "go"
      refine ⟨⟨_, rfl⟩, _, rfl, "", p2, F1.reverse.map jn, rfl, rfl, .inl (SqL.of hp14), (by show _ + _ * 0 ≤ _; omega), ?_⟩
      refine ⟨⟨_, rfl⟩, _, rfl, "", RW, rows', rfl, rfl, .inl (SqL.of hrw14), (by show _ + _ * 0 ≤ _; omega), ?_⟩
      rw [show Txt.join "" (F1.reverse.map jn) = Txt.join "" rows' from hEq]
      walk_at "go"
      exact fin
    · have e1 : decide (((((F1.reverse.map jn).map V.str).length : Nat) : Int) < (b : Int) + 1) = false := decide_eq_false (by rw [hll]; omega)
      walk_at "go"
      exact fin
end
end K17

set_option Elab.async false
set_option linter.all false
set_option maxRecDepth 100000
set_option maxHeartbeats 0

namespace K17
open PySem PySem.Spec PyProof.Rows L2 RC
section
variable {P : Program} {w : World} {K : PySem.W.Frag} {mg : Str → Option Value} {base : Heap}
/-! ### a turn of the law -/
abbrev b_turn : List Stmt := bodyFor ((defBody s_law).getD 1 (.Pass ⟨0, 0, 0, 0⟩))
def FailsNone (K : PySem.W.Frag) (H : Hp) (y : Addr) : Prop := ∃ (dy fr : Addr) (fs : List (Str × V)), H y = some (.ins (CY K) dy fs) ∧ fs.lookup ("failure_rows" : Str) = some (.ref fr) ∧ H fr = some (.lst []) ∧ fs.lookup ("failures" : Str) = none
theorem mkf_k (s : FS) (p : Addr) (dl : Bool) (fl y : Addr) : (s.mkf p dl fl y).hf = true ∧ (s.mkf p dl fl y).now = s.now := by
  unfold FS.mkf
  split
  · exact ⟨rfl, rfl⟩
  · have h := op1_k (s.mk1 p ((hd0 dl).F fl y))
    exact ⟨h.1, h.2⟩
theorem rl_0 (p : Addr) (fs : List (Str × V)) : RL (FS.s0.mk1 p fs) [] := ⟨List.nodup_nil, fun _ _ => rfl, fun _ _ => rfl, by decide⟩
theorem mkf_pre (p : Addr) (dl : Bool) (fl y : Addr) (fs : List (Str × V)) (d : Hd) (h : d.op = !dl) (mb : Int) (b : Nat) : Pre ((FS.s0.mkf p dl fl y).setH fs) d mb b [] := by
  refine .inl ⟨rfl, ?_⟩
  unfold FS.mkf
  cases dl with
  | true => exact .inl ⟨(rl_0 p _).setH fs, h⟩
  | false =>
    right
    have h0 := rl_0 p ((hd0 false).F fl y)
    have e : (FS.s0.mk1 p ((hd0 false).F fl y)).files.lookup ("f" : Str) = none := rfl
    show RL (FS.setH (FS.setH (FS.op1 _) _) _) _
    rw [op1_none e]
    exact ((h0.put "").setH _).setH _
theorem Pre.setF {s : FS} {d d' : Hd} {mb : Int} {b : Nat} {rows : List Str} (h : Pre s d mb b rows) (fs : List (Str × V)) (e : d'.op = d.op) : Pre (s.setH fs) d' mb b rows := by
  rcases h with ⟨h0, ⟨h, ho⟩ | h⟩ | ⟨F, h⟩
  · exact .inl ⟨h0, .inl ⟨h.setH fs, e.trans ho⟩⟩
  · exact .inl ⟨h0, .inr (h.setH fs)⟩
  · exact .inr ⟨F, h.setH fs⟩
theorem turn (T : Txt P w K mg) {f : Addr} {cdv : Value} {A : Around} {outer : List Env} {st0 : Shared} {E : XK} {H : Hp} (hr : Room 14 (A.deeper (envOfC "law" (defScope s_law) st0.heap.objs.size f cdv)))
    (c__law_draw : Callable P w K mg base 1 (He.ga K "_law_draw") ["_law_stream", "_law_many"] [] spDraw)
    (c__law_pick : Callable P w K mg base 2 (He.ga K "_law_pick") ["_law_stream", "_law_some"] [] (spPick K))
    (c__law_parts : Callable P w K mg base 1 (He.ga K "_law_parts") ["_law_files", "_law_many"] [] (spParts2 K))
    (c__law_cut_right : Callable P w K mg base 1 (He.ga K "_law_cut_right") ["_law_parts_here", "_law_rows", "_law_size"] [] (spCut K))
    (c_RotatingFileHandler_handle : Callable P w K mg base 13 (He.ma K (He.ga K "RotatingFileHandler") "handle") ["self", "record"] [] (spHandle K))
    (c_RotatingFileHandler_close : Callable P w K mg base 3 (He.ma K (He.ga K "RotatingFileHandler") "close") ["self"] [] (spCloseH K false))
    (c_RotatingFileHandler_setFormatter : Callable P w K mg base 1 (He.ma K (He.ga K "RotatingFileHandler") "setFormatter") ["self", "formatter"] [] (spSetFm K))
    (c_RotatingFileHandler_init : Callable P w K mg base 5 (He.ma K (He.ga K "RotatingFileHandler") "__init__") ["self", "yard", "filename", "mode", "maxBytes", "backupCount", "delay"] [] (spRotInit K))
    (c_Formatter_init_d3 : Callable P w K mg base 5 (He.ma K (He.ga K "Formatter") "__init__") ["self", "fmt", "style", "validate", "defaults"] [.str "{", .bl true, .non] (spFmInit K))
    (c_Yard_init_d1 : Callable P w K mg base 5 (He.ma K (He.ga K "Yard") "__init__") ["self", "now"] [.int 0] (spYardInit K))
    (c_Yard_files : Callable P w K mg base 2 (He.ma K (He.ga K "Yard") "files") ["self"] [] (spFiles K))
    (c_Yard_make_record_d2 : Callable P w K mg base 6 (He.ma K (He.ga K "Yard") "make_record") ["self", "name", "level", "msg", "args", "extra"] [.ref (He.dflAt ("Yard", some "make_record") 0 K), .non] (spMakeRecord K)) :
    ∃ t, PSs (cxOf CX0 P w K mg base nm_law "law" (defScope s_law) f cdv A outer st0 H E).nox b_turn t ∧ ∀ {a s l : Addr} {n : Nat} (H5 : Hp) (D' : Ends), Stm H5 s l n → n ≤ 100000 →
      ∀ o2 o3 o4 o5 o6 o7 o8 o9 o10 o11 o12 o14, (∀ σ H' n' y, n' ≤ n + 3000 → Stm H' s l n' → FailsNone K H' y → (∃ o2 o4 o5 o6 o7 o8 o9 o10 o11 o12 o14, σ = [some (.ref a), some (.ref s), o2, some (.ref y), o4, o5, o6, o7, o8, o9, o10, o11, o12, none, o14]) → D'.nx σ H') → t D' [some (.ref a), some (.ref s), o2, o3, o4, o5, o6, o7, o8, o9, o10, o11, o12, none, o14] H5 := by
  obtain ⟨t1, hdeed, qdeed⟩ := deed (f := f) (cdv := cdv) (outer := outer) (st0 := st0) (H := H) (E := E) T hr c__law_draw c__law_pick c__law_parts c__law_cut_right c_RotatingFileHandler_handle c_RotatingFileHandler_close c_Yard_files c_Yard_make_record_d2
  refine ⟨_, (pss_cons (ps_par3 (by rfl) sc_law.nd (i := 3) (j := 4) (l := 5) rfl rfl rfl (by decide) (by decide) (by decide) rfl rfl rfl (pa_cons (pe_mk0 T.k_Yard T.g_Yard c_Yard_init_d1 (hr.mono (by first | decide | exact Nat.le_refl _)) (by rfl)) (pa_cons (pe_op op_add pe_int (pe_fn T.g__law_draw c__law_draw (hr.mono (by first | decide | exact Nat.le_refl _)) (by rfl) (pa_cons (pv 1) (pa_cons pe_int pa_nil)))) (pa_cons (pe_fn T.g__law_draw c__law_draw (hr.mono (by first | decide | exact Nat.le_refl _)) (by rfl) (pa_cons (pv 1) (pa_cons pe_int pa_nil))) pa_nil))) (by rfl))
      (pss_cons (ps_par (by rfl) sc_law.nd (i := 6) (j := 7) rfl rfl (by decide) rfl rfl (pa_cons (pe_cmpR op_eq (pe_fn T.g__law_draw c__law_draw (hr.mono (by first | decide | exact Nat.le_refl _)) (by rfl) (pa_cons (pv 1) (pa_cons pe_int pa_nil))) pe_int (nomark _)) (pa_cons (pe_fn T.g__law_pick c__law_pick (hr.mono (by first | decide | exact Nat.le_refl _)) (by rfl) (pa_cons (pv 1) (pa_cons (pe_lst (pa_cons pe_str (pa_cons pe_str (pa_cons pe_str pa_nil)))) pa_nil))) pa_nil)) (by rfl))
      (pss_cons (ps_par (by rfl) sc_law.nd (i := 8) (j := 9) rfl rfl (by decide) rfl rfl (pa_cons (pe_fn T.g__law_pick c__law_pick (hr.mono (by first | decide | exact Nat.le_refl _)) (by rfl) (pa_cons (pv 1) (pa_cons (pe_lst (pa_cons pe_str (pa_cons pe_str pa_nil))) pa_nil))) (pa_cons (pe_lst pa_nil) pa_nil)) (by rfl))
      (pss_cons (ps_set (i := 10) sc_law.nd rfl (by first | exact Or.inl rfl | exact Or.inr rfl) (pe_mk T.k_RotatingFileHandler T.g_RotatingFileHandler c_RotatingFileHandler_init (hr.mono (by first | decide | exact Nat.le_refl _)) (by rfl) (pa_cons (pv 3) (pa_cons pe_str (pa_cons (pv 8) (pa_cons (pv 4) (pa_cons (pv 5) (pa_cons (pv 6) pa_nil))))))))
      (pss_cons (ps_if (pt_cmpR op_ne (pv 7) pe_str (nomark _)) (pss_one (ps_expr (pe_mt T.c_RotatingFileHandler T.m_RotatingFileHandler_setFormatter c_RotatingFileHandler_setFormatter (hr.mono (by first | decide | exact Nat.le_refl _)) (pv 10) (pa_cons (pe_mk T.k_Formatter T.g_Formatter c_Formatter_init_d3 (hr.mono (by first | decide | exact Nat.le_refl _)) (by rfl) (pa_cons pe_str pa_nil)) pa_nil)))) pss_nil)
      (pss_one (ps_for PassesOwn.never rfl (pi_range1 (by rfl) T.b_range (pa_cons (pe_fn T.g__law_draw c__law_draw (hr.mono (by first | decide | exact Nat.le_refl _)) (by rfl) (pa_cons (pv 1) (pa_cons pe_int pa_nil))) pa_nil)) (pg_name (i := 11) sc_law.nd rfl (by first | exact Or.inl rfl | exact Or.inr rfl)) hdeed))))))), ?_⟩
  walk_at "in"
  intro a s l n H5 D' S5 hn o2 o3 o4 o5 o6 o7 o8 o9 o10 o11 o12 o14 k'
  have W5 : RS.Wd H5 s l n [] := ⟨S5, (fun c h => by cases h), .nil, (fun c h => by cases h)⟩
  walk_at "go"
  intro y dy hy hdy hne
  refine ⟨y, dy, 0, rfl, upd_same, fun H6 q N => ⟨rfl, ?_⟩⟩
  obtain ⟨ad, ea, R6, f6, S6⟩ := YNew.repF hy hdy hne N
  have W6 := W5.add (c := cF K FS.s0 ad) S6 R6 f6
  clear N W5 S6 R6 f6 hy hdy hne S5
  subst ea
  have st6 := W6.stm
  refine ⟨_, rfl, s, l, n, 60, rfl, st6, by omega, by decide, by decide, fun H7 c q7 st7 c0 c1 => ⟨_, _, rfl, rfl, ?_⟩⟩
  have W7 := W6.old q7 st7
  refine ⟨_, rfl, s, l, n + 1, 9, rfl, st7, by omega, by decide, by decide, fun H8 e q8 st8 e0 e1 => ?_⟩
  have W8 := W7.old q8 st8
  obtain ⟨b, rfl⟩ : ∃ b : Nat, e = (b : Int) := ⟨e.toNat, by omega⟩
  clear W6 st6 q7 W7 q8 st7
  refine ⟨_, _, _, rfl, ?_⟩
  refine ⟨_, rfl, s, l, n + 1 + 1, 2, rfl, st8, by omega, by decide, by decide, fun H9 g q9 st9 g0 g1 => ?_⟩
  have W9 := W8.old q9 st9
  clear W8 q9 st8
  walk_at "go"
  intro p3 f3
  have W10 := W9.new (o := .lst [.str "", .str "", .str "a: "]) f3
  refine ⟨s, l, p3, n + 1 + 1 + 1, [.str "", .str "", .str "a: "], rfl, W10.stm, by omega, W10.stmNe.1, W10.stmNe.2, upd_same, by decide, by decide, fun H11 x q11 st11 hx => ?_⟩
  have W11 := (W10.old q11 st11).tl
  obtain ⟨fm, rfl⟩ : ∃ fm : Bool, x = .str (frL fm) := by
    simp only [List.mem_cons, List.not_mem_nil, or_false] at hx
    rcases hx with rfl | rfl | rfl
    · exact ⟨false, rfl⟩
    · exact ⟨false, rfl⟩
    · exact ⟨true, rfl⟩
  clear W9 W10 q11 f3 hx
  refine ⟨_, _, rfl, ?_⟩
  walk_at "go"
  intro p4 f4
  have W12 := W11.new (o := .lst [.str "a", .str "w"]) f4
  refine ⟨s, l, p4, n + 1 + 1 + 1 + 1, [.str "a", .str "w"], rfl, W12.stm, by omega, W12.stmNe.1, W12.stmNe.2, upd_same, by decide, by decide, fun H13 x q13 st13 hx => ?_⟩
  have W13 := (W12.old q13 st13).tl
  obtain ⟨md, rfl, hmd⟩ : ∃ md : Str, x = .str md ∧ (md = "a" ∨ md = "w") := by
    simp only [List.mem_cons, List.not_mem_nil, or_false] at hx
    rcases hx with rfl | rfl
    · exact ⟨_, rfl, .inl rfl⟩
    · exact ⟨_, rfl, .inr rfl⟩
  clear W11 W12 q13 f4 hx
  walk_at "go"
  intro RW fRW
  have W14 := (W13.new (o := .lst []) fRW).up1
  clear W13
  generalize upd H13 RW (.lst []) = H14 at W14 ⊢
  refine ⟨_, _, rfl, ?_⟩
  walk_at "go"
  intro h dx hh hdx hne
  refine ⟨FS.s0, ad, h, dx, decide (V.int g = V.int 0), md, 1 + c, (b : Int), H14, rfl, hmd, by omega, W14.hd, rfl, rfl, hh, hdx, Ne.symm hne, rfl, by decide, by decide, fun ad' H15 st' R15 M15 x1 x2 e => ?_⟩
  have W15 := (W14.mv (c' := cF K st' ad') R15 M15).g0'
  generalize decide (V.int g = V.int 0) = dl at e ⊢
  have hP : Pre st' { fv := .non, cl := false, dl := dl, op := !dl, tl := some (1 + c, (b : Int)) } (1 + c) b [] := by rw [e]; exact mkf_pre h dl _ _ _ _ rfl _ _
  have hk := mkf_k FS.s0 h dl (ad' .hl) (ad' .y)
  have TW : TurnW K H15 s l (n + 5) st' ad' { fv := .non, cl := false, dl := dl, op := !dl, tl := some (1 + c, (b : Int)) } (1 + c) b false (fun _ => none) RW [] := ⟨(W15.up1.mono (by omega)), by rw [e]; rfl, rfl, by rw [e]; exact hk.1, by rw [e]; exact hk.2, rfl⟩
  clear W14 R15 M15 hk e hh hdx hne
  rw [← x1, ← x2]
  refine ⟨rfl, ?_⟩
  refine seq_of (fun σ' H16 => H16 = H15 ∧ σ' = sgD a s o2 (ad' .y) (1 + c) b (some (.bl dl)) (frL fm) (some (.str md)) RW (ad' .h) o11 o12 o14) (fun b' kb => kb _ _ ⟨rfl, rfl⟩) (fun σ' H16 hm => ?_)
  obtain ⟨rfl, rfl⟩ := hm
  refine seq_of (fun σ' H17 => ∃ st2 G fv, TurnW K H17 s l (n + 5) st2 ad' { fv := fv, cl := false, dl := dl, op := !dl, tl := some (1 + c, (b : Int)) } (1 + c) b fm G RW [] ∧ Pre st2 { fv := fv, cl := false, dl := dl, op := !dl, tl := some (1 + c, (b : Int)) } (1 + c) b [] ∧ σ' = sgD a s o2 (ad' .y) (1 + c) b (some (.bl dl)) (frL fm) (some (.str md)) RW (ad' .h) o11 o12 o14) (fun b' kb => ?_) (fun σ' H17 hm => ?_)
  · cases fm with
    | false =>
      have e8 : (!decide (V.str (frL false) = V.str (Str.ofString ""))) = false := by decide +kernel
      walk_at "go"
      exact kb _ _ ⟨st', _, _, TW, hP, rfl⟩
    | true =>
      have e8 : (!decide (V.str (frL true) = V.str (Str.ofString ""))) = true := by decide +kernel
      have R16 : YR K st' ad' H16 := TW.W.hd
      have ha16 := R16.h_ TW.hd
      walk_at "go"
      intro p dx hp hd hne
      refine ⟨p, dx, "{name}: {message}", ptF, rfl, upd_same, by decide, plF, by rfl, fun H17 k hFm => ⟨rfl, ?_⟩⟩
      have s17 : Same H16 H17 := made_same hp hd k
      obtain ⟨W17, sG, hnw⟩ := W15.layAll s17
      have sF : Same (rst (fun b => upd (upd H16 dx (.own p)) p (.ins (CFm K) dx []) b ≠ none ∧ b ≠ p) H17) (gAdd (fun _ => none) H16 H17) := fun b o e => by
        have e17 : H17 b = some o := rst_same _ _ e
        by_cases c : H16 b = none
        · exact hnw b o c e17
        · exfalso
          have n1 : b ≠ p := fun z => c (z ▸ hp)
          have n2 : b ≠ dx := fun z => c (z ▸ hd)
          rw [rst_none ⟨by rw [upd_ne n1, upd_ne n2]; exact c, n1⟩] at e
          cases e
      have hF := hFm.same sF
      rw [joinF] at hF
      have hV : FormV K (gAdd (fun _ => none) H16 H17) (foL true) (.ref p) := ⟨p, rfl, hF, psOk⟩
      have W17' := W17.up1
      have R17 : YR K st' ad' H17 := W17'.hd
      refine ⟨st', ad', _, 1 + c, (b : Int), .ref p, rfl, R17, TW.hd, rfl, fun H18 s' R18 M18 e => ?_⟩
      have W18 := W17'.mv (c' := cF K s' ad') R18 M18
      exact kb _ _ ⟨s', _, .ref p, ⟨W18, by rw [e]; rfl, rfl, by rw [e]; exact TW.hf, by rw [e]; exact TW.ck, hV⟩, by rw [e]; exact hP.setF _ rfl, rfl⟩
  obtain ⟨st2, G, fv, TW2, hP2, rfl⟩ := hm
  clear TW hP W15
  refine ⟨_, rfl, s, l, n + 5, 61, rfl, TW2.W.stm, by omega, by decide, by decide, fun H18 m q18 st18 m0 m1 => ?_⟩
  have W18 := TW2.W.old q18 st18
  refine ⟨_, rfl, by omega, by omega, ?_⟩
  refine for_it walk_range (fun i σ H' => ∃ n' st3 ad3 d3 G3 rows p11 p12 p14, n' ≤ n + 6 + 40 * i ∧ TurnW K H' s l n' st3 ad3 d3 (1 + c) b fm G3 RW rows ∧ Pre st3 d3 (1 + c) b rows ∧ rows.length = i ∧ (∀ r ∈ rows, r.length ≤ 1000) ∧ ad3 .y = ad' .y ∧ ad3 .h = ad' .h ∧ σ = sgD a s o2 (ad' .y) (1 + c) b (some (.bl dl)) (frL fm) (some (.str md)) RW (ad' .h) p11 p12 p14) ⟨n + 5 + 1, st2, ad', _, G, [], _, _, _, by omega, ⟨W18, TW2.hd, TW2.tl, TW2.hf, TW2.ck, TW2.fo⟩, hP2, rfl, (fun _ h => nomatch h), rfl, rfl, rfl⟩ (fun _ _ _ _ _ => trivial) (fun i x σ H9 H2 hi hP hx => ?_) (fun σ H2 hP => ?_)
  · obtain ⟨n', st3, ad3, d3, G3, rows, p11, p12, p14, hn', TW3, hP3, hrl, hr3, ey, eh, rfl⟩ := hP
    obtain ⟨rfl, rfl⟩ := hx
    have hi' : i < 61 := by omega
    have hn9 : n' ≤ 900000 := by omega
    have q := fun (D2 : Ends) => qdeed (a := a) H2 D2 TW3 hP3 (by omega) (by omega) (by omega) hn9 (by omega) hr3 o2 (some (.bl dl)) (some (.str md)) (some (.int (0 + (i : Nat)))) p12 p14
    rw [ey, eh] at q
    refine q _ (fun σ' H' n2 st4 ad4 d4 G4 rows4 F4 hn2 TW4 hJ4 hl4 hr4 ey4 eh4 hσ => ?_)
    obtain ⟨q12, q14, e⟩ := hσ
    exact ⟨n2, st4, ad4, d4, G4, rows4, _, q12, q14, by omega, TW4, .inr ⟨F4, hJ4⟩, by omega, hr4, ey4, eh4, e⟩
  · obtain ⟨n', st3, ad3, d3, G3, rows, p11, p12, p14, hn', TW3, hP3, hrl, hr3, ey, eh, rfl⟩ := hP
    have R3 : YR K st3 ad3 H2 := TW3.W.hd
    have hm61 : m.toNat ≤ 61 := by omega
    exact k' _ _ n' (ad' .y) (by omega) TW3.W.stm ⟨ad3 (.x 0), ad3 .fr, yFs st3 ad3, ey ▸ R3.y_, rfl, R3.at_ .fr _ rfl, rfl⟩ ⟨_, _, _, _, _, _, _, _, _, _, _, rfl⟩
end
end K17

set_option Elab.async false
set_option linter.all false
set_option maxRecDepth 100000
set_option maxHeartbeats 0

namespace K17
open PySem PySem.Spec PyProof.Rows L2 RC
section
variable {P : Program} {w : World} {K : PySem.W.Frag} {mg : Str → Option Value} {base : Heap}
/-! ### the law -/
def spFails (K : PySem.W.Frag) : Sp := fun vs H Q _ => ∃ (y : Addr), vs = [.ref y] ∧ FailsNone K H y ∧ ∀ (p : Addr), H p = none → Q (.ref p) (upd H p (.lst []))
theorem ok_fails {f : Addr} (T : Txt P w K mg) (F : Stands K "failures" "Yard.failures" s_Yard_failures [] f) : Callable P w K mg base 1 f ["self"] [] (spFails K) := by
  refine F.call0 sc_Yard_failures (fun vs H Q E h => ?_) (fun cdv A outer s H vs Q E hr h => ?_) (fun _ _ _ _ _ _ us hl => match us, hl with | [_], _ => rfl)
  · obtain ⟨y, rfl, _⟩ := h; rfl
  obtain ⟨y, rfl, ⟨dy, fr, fs, hy, hl, hfr, _⟩, hQ⟩ := h
  refine ⟨_, (pss_one (ps_ret (pe_callTy call_list_of (by rfl) T.b_list (by decide +kernel) (pa_cons (pe_fld (pv 0) rfl) pa_nil)))), ?_⟩
  walk_at "in"
  refine ⟨_, rfl, y, _, dy, _, _, rfl, hy, T.c_Yard, T.n_Yard_failure_rows, hl, ?_⟩
  exact ⟨fr, _, rfl, .inl (SqL.of hfr), fun p fp => hQ p fp⟩
def spLaw (K : PySem.W.Frag) : Sp := fun vs H Q _ => ∃ (a : Addr) (ns : List Int), vs = [.ref a] ∧ ns.length ≤ 63 ∧ SqL K H a (ns.map V.int) ∧ ∀ H', Q (.bl true) H'
theorem law_body (T : Txt P w K mg) {f : Addr} {cdv : Value} {A : Around} {outer : List Env} {st0 : Shared} {E : XK} {vs : List V} {H : Hp} {Q : VK} (hr : Room 14 (A.deeper (envOfC "law" (defScope s_law) st0.heap.objs.size f cdv))) (hsp : spLaw K vs H Q E)
    (c__law_draw : Callable P w K mg base 1 (He.ga K "_law_draw") ["_law_stream", "_law_many"] [] spDraw)
    (c__law_pick : Callable P w K mg base 2 (He.ga K "_law_pick") ["_law_stream", "_law_some"] [] (spPick K))
    (c__law_parts : Callable P w K mg base 1 (He.ga K "_law_parts") ["_law_files", "_law_many"] [] (spParts2 K))
    (c__law_cut_right : Callable P w K mg base 1 (He.ga K "_law_cut_right") ["_law_parts_here", "_law_rows", "_law_size"] [] (spCut K))
    (c_RotatingFileHandler_handle : Callable P w K mg base 13 (He.ma K (He.ga K "RotatingFileHandler") "handle") ["self", "record"] [] (spHandle K))
    (c_RotatingFileHandler_close : Callable P w K mg base 3 (He.ma K (He.ga K "RotatingFileHandler") "close") ["self"] [] (spCloseH K false))
    (c_RotatingFileHandler_setFormatter : Callable P w K mg base 1 (He.ma K (He.ga K "RotatingFileHandler") "setFormatter") ["self", "formatter"] [] (spSetFm K))
    (c_RotatingFileHandler_init : Callable P w K mg base 5 (He.ma K (He.ga K "RotatingFileHandler") "__init__") ["self", "yard", "filename", "mode", "maxBytes", "backupCount", "delay"] [] (spRotInit K))
    (c_Formatter_init_d3 : Callable P w K mg base 5 (He.ma K (He.ga K "Formatter") "__init__") ["self", "fmt", "style", "validate", "defaults"] [.str "{", .bl true, .non] (spFmInit K))
    (c_Yard_init_d1 : Callable P w K mg base 5 (He.ma K (He.ga K "Yard") "__init__") ["self", "now"] [.int 0] (spYardInit K))
    (c_Yard_files : Callable P w K mg base 2 (He.ma K (He.ga K "Yard") "files") ["self"] [] (spFiles K))
    (c_Yard_make_record_d2 : Callable P w K mg base 6 (He.ma K (He.ga K "Yard") "make_record") ["self", "name", "level", "msg", "args", "extra"] [.ref (He.dflAt ("Yard", some "make_record") 0 K), .non] (spMakeRecord K))
    (c_Yard_failures : Callable P w K mg base 1 (He.ma K (He.ga K "Yard") "failures") ["self"] [] (spFails K)) :
    ∃ t, PSs (cxOf CX0 P w K mg base nm_law "law" (defScope s_law) f cdv A outer st0 H E).nox (defBody s_law) t ∧ t { nx := fun _ H' => Q .non H', rt := Q } (start nm_law vs) H := by
  obtain ⟨a, ns, rfl, hn, hS, hQ⟩ := hsp
  obtain ⟨t1, hturn, qturn⟩ := turn (f := f) (cdv := cdv) (outer := outer) (st0 := st0) (H := H) (E := E) T hr c__law_draw c__law_pick c__law_parts c__law_cut_right c_RotatingFileHandler_handle c_RotatingFileHandler_close c_RotatingFileHandler_setFormatter c_RotatingFileHandler_init c_Formatter_init_d3 c_Yard_init_d1 c_Yard_files c_Yard_make_record_d2
  refine ⟨_, (pss_cons (ps_set (i := 1) sc_law.nd rfl (by first | exact Or.inl rfl | exact Or.inr rfl) (pe_lst (pa_cons (pe_callTy call_list_of (by rfl) T.b_list (by decide +kernel) (pa_cons (pv 0) pa_nil)) (pa_cons pe_int (pa_cons pe_int (pa_cons pe_int pa_nil))))))
      (pss_cons (ps_for PassesOwn.never rfl (pi_range1 (by rfl) T.b_range (pa_cons pe_int pa_nil)) (pg_name (i := 2) sc_law.nd rfl (by first | exact Or.inl rfl | exact Or.inr rfl)) hturn)
      (pss_one (ps_ret (pe_cmpR (RY.op_eqE (Nat.lt_of_succ_lt (hu_of hr))) (pe_mt0 T.c_Yard T.m_Yard_failures c_Yard_failures (hr.mono (by first | decide | exact Nat.le_refl _)) (pv 3)) (pe_lst pa_nil) (nomark _)))))), ?_⟩
  walk_at "in"
  refine ⟨_, rfl, a, ns.map V.int, rfl, .inl hS, fun l hl => ⟨(by show 4 ≤ sizeLine; decide), fun s hs => ?_⟩⟩
  have st1 : Stm (upd (upd H l (.lst (ns.map V.int))) s (.lst [.ref l, .int 0, .int 0, .int 0])) s l 0 := by
    have n1 := (upd_none hs).1
    exact ⟨n1, ns, 0, 0, 0, upd_same, by rw [upd_ne (Ne.symm n1)]; exact upd_same, hn, by decide, by decide, by decide, by decide, by decide⟩
  generalize upd (upd H l (.lst (ns.map V.int))) s (.lst [.ref l, .int 0, .int 0, .int 0]) = H1 at st1
  walk_at "go"
  refine for_it walk_range (fun i σ H' => ∃ n' o2 o3 o4 o5 o6 o7 o8 o9 o10 o11 o12 o14, n' ≤ 3000 * i ∧ Stm H' s l n' ∧ (0 < i → ∃ y, o3 = some (.ref y) ∧ FailsNone K H' y) ∧ σ = [some (.ref a), some (.ref s), o2, o3, o4, o5, o6, o7, o8, o9, o10, o11, o12, none, o14]) ⟨0, _, _, _, _, _, _, _, _, _, _, _, _, Nat.le_refl _, st1, (fun z => absurd z (Nat.lt_irrefl 0)), rfl⟩ (fun _ _ _ _ _ => trivial) (fun i x σ H11 H12 hi hP hx => ?_) (fun σ H12 hP => ?_)
  · obtain ⟨rfl, rfl⟩ := hx
    obtain ⟨n', o2, o3, o4, o5, o6, o7, o8, o9, o10, o11, o12, o14, hn', I12, _, rfl⟩ := hP
    refine qturn (n := n') H12 _ I12 (by omega) _ _ _ _ _ _ _ _ _ _ _ _ (fun σ H' n2 y h0 h1 h2 h3 => ?_)
    obtain ⟨o2, o4, o5, o6, o7, o8, o9, o10, o11, o12, o14, rfl⟩ := h3
    exact ⟨n2, _, _, _, _, _, _, _, _, _, _, _, _, by omega, h1, (fun _ => ⟨y, rfl, h2⟩), rfl⟩
  · obtain ⟨n', o2, o3, o4, o5, o6, o7, o8, o9, o10, o11, o12, o14, hn', I12, hy, rfl⟩ := hP
    obtain ⟨y, rfl, dy, fr, fs, hy, hl, hfr, hl2⟩ := hy (by decide)
    walk_at "go"
    refine ⟨⟨dy, fr, fs, hy, hl, hfr, hl2⟩, fun p3 hp3 => ?_⟩
    walk_at "go"
    intro p4 hp4
    have hp3' := same_new hp4 (.lst []) _ _ (upd_same (H := H12) (a := p3) (o := .lst []))
    exact ⟨p3, p4, [], rfl, rfl, SqL.of hp3', SqL.of upd_same, hQ _⟩
theorem i_badfield_init {f : Addr} (T : Txt P w K mg) (F : Stands K "__init__" "BadField.__init__" s_BadField_init [] f) : RH.InitH P w K mg base 1 f ["self", "name"] (RQ.spExcInit K "name") := by
  refine RH.stands_initH F sc_BadField_init (fun vs H Q E h => ?_) (fun cdv A outer s H vs Q E p hr h => ?_) (fun _ _ _ _ _ _ us hl => match us, hl with | [_, _], _ => rfl)
  · obtain ⟨a, C, v, rfl, _⟩ := h; rfl
  obtain ⟨a, C, v, rfl, hx, ha, hQ⟩ := h
  refine ⟨_, (pss_one (ps_ost (pv 0) (pv 1))), ?_⟩
  walk_at "in"
  exact RQ.init_rd hx (fun Q h => ⟨_, rfl, h⟩) (fun Q h => ⟨_, rfl, h⟩) ha hQ
theorem ok_make_record2 {f : Addr} (T : Txt P w K mg) (F : Stands K "make_record" "Yard.make_record" s_Yard_make_record [.ref (He.dflAt ("Yard", some "make_record") 0 K), .non] f)
    (c_Yard_level_of : Callable P w K mg base 2 (He.ma K (He.ga K "Yard") "level_of") ["self", "level"] [] (spLevelOf K)) (c_Yard_level_name : Callable P w K mg base 1 (He.ma K (He.ga K "Yard") "level_name") ["self", "level"] [] (spLevelName K))
    (c_LogRecord_init : Callable P w K mg base 4 (He.ma K (He.ga K "LogRecord") "__init__") ["self", "name", "levelno", "levelname", "msg", "args", "created", "extra"] [] (spRecInit K)) :
    Callable P w K mg base 6 f ["self", "name", "level", "msg", "args", "extra"] [.ref (He.dflAt ("Yard", some "make_record") 0 K), .non] (spMakeRecord K) := by
  have len : ∀ vs H Q E, spMakeRecord K vs H Q E → vs.length = 6 := fun vs H Q E h => by
    obtain ⟨y, dy, na, nu, a, fs, nms, nums, name, msg, lv, clk, xs, rfl, _⟩ := h; rfl
  exact F.call sc_Yard_make_record 4 0 len (fun cdv A outer s H vs Q E hr h => body_make_record T hr h c_Yard_level_of c_Yard_level_name c_LogRecord_init) (fun z => nomatch z) fun _ => ⟨rfl, fun _ _ _ _ _ _ _ us its hl hi => match us, hl, its, hi with | [_, _, _, _], _, [_, _], _ => ⟨_, rfl, rfl⟩⟩
end
end K17

set_option Elab.async false
set_option linter.all false
set_option maxRecDepth 100000
set_option maxHeartbeats 0
namespace K17
open PySem PySem.Spec PyProof.Rows L2 RC
section
variable {P : Program} {w : World} {K : PySem.W.Frag} {mg : Str → Option Value} {base : Heap}
/-! ### all together -/
theorem ok_law {f : Addr} {fd : FuncData} (T : Txt P w K mg) (F : FunD K "law" "law" (defArgs s_law) (defBody s_law) (defScope s_law) [] [] f fd) : FnOk P w K mg base CX0 15 f fd ["_law_script"] (spLaw K) := by
  have c_draw := ok_draw (base := base) T T.d__law_draw 
  have c_pick := ok_pick (base := base) T T.d__law_pick c_draw
  have c_fi := ok_filterer_init (base := base) T T.d_Filterer_init 
  have c_enrol := ok_enrol (base := base) T T.d_Yard_enrol 
  have c_hi := ok_handler_init (base := base) T T.d_Handler_init c_fi c_enrol
  have c_si := ok_stream_init (base := base) T T.d_StreamHandler_init c_hi
  have c_li := ok_logger_init (base := base) T T.d_Logger_init c_fi
  have c_yi := ok_yard_init (base := base) T T.d_Yard_init c_li c_si
  have c_isint := ok_is_integer (base := base) T T.d_is_integer 
  have c_lvof := ok_level_of (base := base) T T.d_Yard_level_of c_isint
  have c_copied := ok_copied (base := base) T T.d_copied_value rfl 2
  have c_recinit := ok_rec_init (base := base) T T.d_LogRecord_init c_copied
  have c_lname := ok_level_name (base := base) T T.d_Yard_level_name 
  have c_mkrec := ok_make_record2 (base := base) T T.d_Yard_make_record c_lvof c_lname c_recinit
  have c_bmi := ok_badmessage_init (base := base) T T.d_BadMessage_init 
  have c_bfi := ok_badfield_init (base := base) T T.d_BadField_init 
  have i_bfi := i_badfield_init (base := base) T T.d_BadField_init 
  have c_msgof := ok_message_of (base := base) T T.d_message_of c_bmi
  have c_msg := ok_message (base := base) T T.d_LogRecord_message c_msgof
  have c_field := ok_field (base := base) T T.d_LogRecord_field c_msg c_bfi c_copied
  have c_side := ok_side (base := base) T T.d_Field_side_of c_isint
  have c_wri := ok_written (base := base) T T.d_Field_written c_side
  have c_vof := ok_value_of (base := base) T T.d_Formatter_value_of c_field i_bfi
  have c_fmf := ok_fm_formatted (base := base) T T.d_Formatter_formatted c_vof c_wri
  have c_fld := ok_field_init2 (base := base) T T.d_Field_init 
  have c_ne := ok_name_end (base := base) T T.d_name_end 
  have c_fo := ok_field_of (base := base) T T.d_field_of c_ne c_fld
  have c_pb := ok_parts (base := base) T T.d_parts_of_braces c_fo
  have c_jt := ok_joined (base := base) T T.d_joined_texts 
  have c_fmi := ok_fm_init (base := base) T T.d_Formatter_init c_pb c_jt
  have c_put := ok_put (base := base) T T.d_Yard_put_file 
  have c_has := ok_has (base := base) T T.d_Yard_has_file 
  have c_ft := ok_file_text (base := base) T T.d_Yard_file_text 
  have c_writef := ok_writef (base := base) T T.d_Yard_write_file c_put c_has c_ft
  have c_makef := ok_makef (base := base) T T.d_Yard_make_file c_put
  have c_files := ok_files (base := base) T T.d_Yard_files c_ft
  have c_ren := ok_ren (base := base) T T.d_Yard_rename_file 
  have c_open := ok_open (base := base) T T.d_RotatingFileHandler_open_file c_has c_makef
  have c_fmtd := ok_formatted (base := base) T T.d_RotatingFileHandler_formatted c_msg c_fmf
  have c_tof := ok_text_of (base := base) T T.d_RotatingFileHandler_text_of c_fmtd
  have c_emitF := ok_emitF (base := base) T T.d_FileHandler_emit c_tof c_open c_writef
  have c_name := ok_name (base := base) T T.d_RotatingFileHandler_backup_name 
  have c_move := ok_move (base := base) T T.d_RotatingFileHandler_move c_has c_ren
  have c_roll := ok_roll (base := base) T T.d_RotatingFileHandler_doRollover c_move c_name c_open
  have c_should := ok_should (base := base) T T.d_RotatingFileHandler_shouldRollover c_fmtd c_open c_has c_ft
  have c_rolls := ok_rolls (base := base) T T.d_RotatingFileHandler_rolls_for c_should
  have c_emit := ok_emit (base := base) T T.d_RotatingFileHandler_emit c_rolls c_roll c_emitF
  have c_filt := ok_filtered0 (base := base) T T.d_RotatingFileHandler_filtered 
  have c_handle := ok_handle (base := base) T T.d_RotatingFileHandler_handle c_filt c_emit
  have c_forget := ok_forget (base := base) T T.d_Yard_forget_name 
  have c_closeH := ok_closeH (base := base) T T.d_Handler_close c_forget
  have c_close := ok_close (base := base) T T.d_RotatingFileHandler_close c_closeH
  have c_setFm := ok_setFm (base := base) T T.d_RotatingFileHandler_setFormatter 
  have c_fileinit := ok_file_init (base := base) T T.d_FileHandler_init c_hi c_open
  have c_rot := ok_rot_init (base := base) T T.d_RotatingFileHandler_init c_fileinit
  have c_parts2 := ok_law_parts (base := base) T T.d__law_parts 
  have c_cut := ok_cut (base := base) T T.d__law_cut_right 
  have c_fails := ok_fails (base := base) T T.d_Yard_failures 
  refine F.ok sc_law (fun vs H Q E h => ?_) (fun cdv A outer s H vs Q E hr hsp => ?_)
  · obtain ⟨a, ns, rfl, _⟩ := h; rfl
  obtain ⟨t, h, q⟩ := law_body T hr hsp c_draw c_pick c_parts2 c_cut c_handle c_close c_setFm c_rot c_fmi c_yi c_files c_mkrec c_fails
  exact ⟨t, h.nox, q⟩
theorem facts {f : Addr} {h : Heap} (X : K.In h) (G : h.Ns mainGlobals mg) (hfa : mg ("law" : Str) = some (.ref f)) (c : RB.SaysB fa fx fn ts w K) :
    ∃ fd : FuncData, (∀ (s : Shared) (v : Value), BindsTo s fd ⟨[v], []⟩ [("_law_script", v)]) ∧ ∀ base : Heap, FnOk P w K mg base CX0 15 f fd ["_law_script"] (spLaw K) := by
  have T : Txt P w K mg := Txt.of X G c
  obtain ⟨fd, F⟩ := T.d_law
  have e := hfa.symm.trans T.g_law
  cases e
  have b := FunD.bindsA (ps := ["_law_script"]) F fun _ _ _ _ _ _ us hl => match us, hl with | [_], _ => rfl
  exact ⟨fd, fun s v => b s [v] rfl, fun base => ok_law T F⟩
end
end K17
open PySem PySem.W PySem.Calls PyProof.Rows
set_option maxHeartbeats 0
theorem PySem.Challenge.cw_recordyard_k43_whole_rows_of_rotating_fi_holds : PySem.Challenge.rw_recordyard_k43_whole_rows_of_rotating_fi.Holds := by
  w_on; o_law
  refine HandSHeadRun.head_any (r := OpenLaw.row PySem.Challenge.rw_recordyard_k43_whole_rows_of_rotating_fi) (q := view (OpenLaw.row PySem.Challenge.rw_recordyard_k43_whole_rows_of_rotating_fi).prog [74]) (H := K17.hk) (ob := K17.ob) (M := 15000) (loose := K17.names) (d := HandSHeadRun.topDef (OpenLaw.row PySem.Challenge.rw_recordyard_k43_whole_rows_of_rotating_fi).prog 74) (kwd := []) K17.ob_eq
    (by kernel_rfl) (fun s => by kernel_rfl) K17.run (by kernel_rfl) (by kernel_rfl) (by kernel_rfl) (by rfl) (by first | assumption | decide +kernel) (by decide +kernel) ⟨rfl, rfl, rfl, rfl, rfl, by decide +kernel⟩ ?hw ?hc
  case hw => w_witness2
  case hc =>
    refine L2.walk_ofE (l := PySem.Challenge.rw_recordyard_k43_whole_rows_of_rotating_fi) (n := 63) (k := 15) (x := "_law_script") (CX := L2.CX0) rfl (by decide) (by kernel_rfl) ⟨rfl, by decide, by decide⟩ ?F (fun _ _ _ _ z => z)
    intro w mg fa h Y G hmg0
    obtain ⟨K, KX, c⟩ := Y
    have hmg : mg ("law" : PySem.Str) = some (.ref fa) := by
      have e : (HandSHeadRun.topDef (OpenLaw.row PySem.Challenge.rw_recordyard_k43_whole_rows_of_rotating_fi).prog 74).name = ("law" : PySem.Str) := by kernel_rfl
      rw [← e]
      exact hmg0
    obtain ⟨fd, hb, hF⟩ := K17.facts (P := (PySem.Challenge.rw_recordyard_k43_whole_rows_of_rotating_fi).prog) (w := w) KX G hmg c
    exact ⟨K, fd, K17.spLaw K, KX, hb, fun H a ns hl _ hS => ⟨a, ns, rfl, hl, hS, fun _ => rfl⟩, fun base _ _ => hF base⟩
