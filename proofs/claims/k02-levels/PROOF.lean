import PyProof.Rows.All
import Wide.All
import OpenK.AllK
import Wide.FinOn
import PyProof.EqAt
import PyProof.EqKinds
import PyProof.TupleCall
import HandS.Base
import HandS.Call
import HandS.List
import HandS.Dict
import HandS.More
import HandS.Slots
import HandS.ClsMeth
import KE.KStateDown
import HandS.Exc
import HandS.IsInst
import HandS.Defaults
import HandS.HeadHook1
import HandS.HeadHook2
import HandS.Head0
import HandS.Head1
import HandS.Head2
import HandS.HeadEnd
import HandS.ExcInit
import HandS.ExcField
import HandS.ForMost
import HandS.Walk
import PyProof.NeKinds
import PyProof.StrBlock2
import HandS.Sort
import HandS.Text
import PyProof.DictUpdate
import HandS.Iter
import HandS.Conv
import HandS.Flow
import HandS.HotCalls
import HandS.Style
import HandS.Steps
import HandS.MakeKw
import HandS.ExcOwn
import HandS.TryMany
import HandS.CallSlots
import HandS.SuiteRaise
import HandS.ExcInitHot
import HandS.NoneIn
import PyProof.Seq
import HandS.Finally
import HandS.Zip
import PySem.Challenge.RW_recordyard_k02_names_of_levels
set_option Elab.async false
set_option linter.all false
set_option maxRecDepth 100000
set_option maxHeartbeats 4000000
/-! Rules beyond the layer: == and != of instances of classes without an own __eq__ (by identity), in and not in over lists of such, a def read off its class. -/
namespace RA
open PySem PySem.Spec PyProof.Rows PySem.SeqAt
/-- a class whose instances are equal by identity -/
structure PlainC (K : PySem.W.Frag) (C : Addr) : Prop where
  mro : PySem.W.mroIn K C (.type "object") = some true
  eq : PySem.W.findIn K (.ref C) "__eq__" = some (some (.builtin "object.__eq__"))
  ne : PySem.W.findIn K (.ref C) "__ne__" = some (some (.builtin "object.__ne__"))
def PairC (K : PySem.W.Frag) (C D : Addr) : Prop := C = D ∨ ∃ b, PySem.W.subIn K (.ref D) (.ref C) = some b
section
variable {M : Model} {prog : Program} {w : World} {A : Around} {E : Value → Shared → Prop} {s : Shared} {K : PySem.W.Frag} {x y C D : Addr} {ox oy : Obj} {od od' : Option Obj}
theorem inst_get (I : PySem.W.InstAt s.heap x ox C od) : s.heap.get? x = some ox := I.at_
theorem inst_notup (I : PySem.W.InstAt s.heap x ox C od) : ox.cls ≠ .type "tuple" := by
  rw [I.cls]; intro z; cases z
theorem eq_same {Q : Value → Shared → Prop} (X : K.In s.heap) (I : PySem.W.InstAt s.heap x ox C od) (hm : PySem.W.mroIn K C (.type "object") = some true) (hq : Q (.bool true) s) :
    wpAny (model prog w) A (call (.builtin "object.__eq__") [.ref x, .ref x]) Q E s :=
  wpAny_call (codeAny_call_builtin F.cmp_object.eq.plain F.cmpEntry_eq (PySem.W.check_slot F.cmpKind_eq F.cmpSplit_eq (I.type.andThen (PySem.W.looks_mroIn X hm)) (F.cmpArgs_eq _ _) (objEq_entry_same hq)))
theorem eq_other {Q : Value → Shared → Prop} (X : K.In s.heap) (I : PySem.W.InstAt s.heap x ox C od) (hm : PySem.W.mroIn K C (.type "object") = some true) (hy : s.heap.get? y = some oy) (hxy : x ≠ y) (hq : Q .notImplemented s) :
    wpAny (model prog w) A (call (.builtin "object.__eq__") [.ref x, .ref y]) Q E s :=
  wpAny_call (codeAny_call_builtin F.cmp_object.eq.plain F.cmpEntry_eq (PySem.W.check_slot F.cmpKind_eq F.cmpSplit_eq (I.type.andThen (PySem.W.looks_mroIn X hm)) (F.cmpArgs_eq _ _) (objEq_entry_other hxy (inst_get I) hy (inst_notup I) hq)))
theorem ifB_ne {args : List Value} {Q : Option Value → Shared → Prop} (X : K.In s.heap) (I : PySem.W.InstAt s.heap x ox C od) (hs : PySem.W.findIn K (.ref C) "__ne__" = some (some (.builtin "object.__ne__")))
    (h : wpAny M A (call (.builtin "object.__ne__") (.ref x :: args)) (fun v => Q (some v)) E s) : wpAny M A (callSpecialIfBound? (.ref x) "__ne__" args) Q E s := by
  simp only [callSpecialIfBound?, bindSpecialIfBound?]
  refine wpAny_holding (wpAny_bind (wpAny_bind (wpAny_bind (I.type.here ((PySem.W.looks_findIn X hs).here ?_)))))
  refine wpAny_bind (wpAny_askSetting (wpAny_ite ?_))
  have fin : wpAny M A (call (.builtin "object.__ne__") ([.ref x] ++ args) >>= fun v => pure (some v)) Q E s := wpAny_bind (wpAny_mono h (fun v s' h' => wpAny_pure h') fun _ _ h' => h')
  split
  · exact wpAny_bind (wpAny_of_eq (F.cmp_object.ne.bind _) (wpAny_pure (by exact fin)))
  · exact wpAny_tryCatch (wpAny_bind (wpAny_of_eq (F.cmp_object.ne.bind _) (wpAny_pure (by exact fin))))
theorem ne_entry_same {Q : Fin → Shared → Prop} (X : K.In s.heap) (I : PySem.W.InstAt s.heap x ox C od) (P : PlainC K C) (hu : A.units < cLine) (hq : Q (.done (.ret (.bool false))) s) :
    wpAny (model prog w) A (Builtin.«object.__ne__» ⟨[.ref x, .ref x], []⟩) Q E s := by
  unfold Builtin.«object.__ne__»
  repeat (first | with_reducible refine wpAny_cRoomFor hu ?_ | with_reducible refine HN.ifBound_objEq X I P.eq (eq_same X I P.mro ?_) | wp_step)
  exact hq
theorem ne_entry_other {Q : Fin → Shared → Prop} (X : K.In s.heap) (I : PySem.W.InstAt s.heap x ox C od) (P : PlainC K C) (hy : s.heap.get? y = some oy) (hxy : x ≠ y) (hu : A.units < cLine) (hq : Q (.done (.ret .notImplemented)) s) :
    wpAny (model prog w) A (Builtin.«object.__ne__» ⟨[.ref x, .ref y], []⟩) Q E s := by
  unfold Builtin.«object.__ne__»
  repeat (first | with_reducible refine wpAny_cRoomFor hu ?_ | with_reducible refine HN.ifBound_objEq X I P.eq (eq_other X I P.mro hy hxy ?_) | wp_step)
  exact hq
theorem try_eq_same {Q : Option Value → Shared → Prop} (X : K.In s.heap) (I : PySem.W.InstAt s.heap x ox C od) (P : PlainC K C) (h : Q (some (.bool true)) s) : wpAny (model prog w) A (tryCompare (.ref x) "__eq__" (.ref x)) Q E s := by
  unfold tryCompare
  exact wpAny_bind (HN.ifBound_objEq X I P.eq (eq_same X I P.mro (wpAny_pure h)))
theorem try_eq_other {Q : Option Value → Shared → Prop} (X : K.In s.heap) (I : PySem.W.InstAt s.heap x ox C od) (P : PlainC K C) (hy : s.heap.get? y = some oy) (hxy : x ≠ y) (h : Q none s) : wpAny (model prog w) A (tryCompare (.ref x) "__eq__" (.ref y)) Q E s := by
  unfold tryCompare
  exact wpAny_bind (HN.ifBound_objEq X I P.eq (eq_other X I P.mro hy hxy (wpAny_pure h)))
theorem try_ne_same {Q : Option Value → Shared → Prop} (hu : A.units + 1 < cLine) (X : K.In s.heap) (I : PySem.W.InstAt s.heap x ox C od) (P : PlainC K C) (h : Q (some (.bool false)) s) : wpAny (model prog w) A (tryCompare (.ref x) "__ne__" (.ref x)) Q E s := by
  unfold tryCompare
  refine wpAny_bind (ifB_ne X I P.ne (wpAny_call (codeAny_call_builtin F.cmp_object.ne.plain F.cmpEntry_ne (PySem.W.check_slot F.cmpKind_ne F.cmpSplit_ne (I.type.andThen (PySem.W.looks_mroIn X P.mro)) (F.cmpArgs_ne _ _) (ne_entry_same (A := A.in1) X I P hu ?_)))))
  exact wpAny_pure h
theorem try_ne_other {Q : Option Value → Shared → Prop} (hu : A.units + 1 < cLine) (X : K.In s.heap) (I : PySem.W.InstAt s.heap x ox C od) (P : PlainC K C) (hy : s.heap.get? y = some oy) (hxy : x ≠ y) (h : Q none s) : wpAny (model prog w) A (tryCompare (.ref x) "__ne__" (.ref y)) Q E s := by
  unfold tryCompare
  refine wpAny_bind (ifB_ne X I P.ne (wpAny_call (codeAny_call_builtin F.cmp_object.ne.plain F.cmpEntry_ne (PySem.W.check_slot F.cmpKind_ne F.cmpSplit_ne (I.type.andThen (PySem.W.looks_mroIn X P.mro)) (F.cmpArgs_ne _ _) (ne_entry_other (A := A.in1) X I P hy hxy hu ?_)))))
  exact wpAny_pure h
theorem rc_same (hu : A.units < cLine) (X : K.In s.heap) (I : PySem.W.InstAt s.heap x ox C od) (P : PlainC K C) : RcAt A s (.ref x) (.ref x) true := fun prog w E Q h => by
  simp only [richCompare, cmpInfo_Eq, oneThing_ref]
  refine wpAny_holding (wpAny_bind (wpAny_cRoomFor hu ?_))
  refine wpAny_bind (I.type.here (wpAny_bind (I.type.here ?_)))
  rw [if_neg (by simp)]
  refine wpAny_bind (wpAny_pure ?_)
  simp only [Bool.false_eq_true, if_false]
  exact wpAny_bind (try_eq_same X I P (wpAny_pure h))
theorem rcn_same (hu : A.units + 1 < cLine) (X : K.In s.heap) (I : PySem.W.InstAt s.heap x ox C od) (P : PlainC K C) {Q : Value → Shared → Prop} (h : Q (.bool false) s) : wpAny (model prog w) A (richCompare .NotEq (.ref x) (.ref x)) Q E s := by
  simp only [richCompare, cmpInfo_NotEq, oneThing_ref]
  refine wpAny_holding (wpAny_bind (wpAny_cRoomFor (Nat.lt_of_succ_lt hu) ?_))
  refine wpAny_bind (I.type.here (wpAny_bind (I.type.here ?_)))
  rw [if_neg (by simp)]
  refine wpAny_bind (wpAny_pure ?_)
  simp only [Bool.false_eq_true, if_false]
  exact wpAny_bind (try_ne_same hu X I P (wpAny_pure h))
theorem rc_other (hu : A.units < cLine) (X : K.In s.heap) (I : PySem.W.InstAt s.heap x ox C od) (J : PySem.W.InstAt s.heap y oy D od') (P : PlainC K C) (P' : PlainC K D) (hp : PairC K C D) (hxy : x ≠ y) : RcAt A s (.ref x) (.ref y) false := fun prog w E Q h => by
  have fin : ∀ (tag : String), wpAny (model prog w) A (rule tag >>= fun _ => isSame (.ref x) (.ref y) >>= fun b => pure (Value.bool b)) Q E s := fun tag =>
    wpAny_bind (wpAny_rule (wpAny_bind (wpAny_isSame_ref_other hxy (inst_get I) (inst_get J) (inst_notup I) (wpAny_pure h))))
  simp only [richCompare, cmpInfo_Eq, oneThing_ref]
  refine wpAny_holding (wpAny_bind (wpAny_cRoomFor hu ?_))
  refine wpAny_bind (I.type.here (wpAny_bind (J.type.here ?_)))
  by_cases hCD : C = D
  · subst hCD
    rw [if_neg (by simp)]
    refine wpAny_bind (wpAny_pure ?_)
    simp only [Bool.false_eq_true, if_false, Bool.not_false, if_true]
    refine wpAny_bind (try_eq_other X I P (inst_get J) hxy ?_)
    refine wpAny_bind (try_eq_other X J P' (inst_get I) (Ne.symm hxy) ?_)
    exact fin _
  · rw [if_pos (by simp [hCD])]
    obtain ⟨b, hb⟩ := hp.resolve_left hCD
    refine wpAny_bind ((PySem.W.looks_subIn X hb).here ?_)
    cases b with
    | false =>
      simp only [Bool.false_eq_true, if_false, Bool.not_false, if_true]
      refine wpAny_bind (try_eq_other X I P (inst_get J) hxy ?_)
      refine wpAny_bind (try_eq_other X J P' (inst_get I) (Ne.symm hxy) ?_)
      exact fin _
    | true =>
      simp only [Bool.not_true, Bool.false_eq_true, if_false, if_true]
      refine wpAny_bind (try_eq_other X J P' (inst_get I) (Ne.symm hxy) ?_)
      refine wpAny_bind (try_eq_other X I P (inst_get J) hxy ?_)
      exact fin _
theorem rcn_other (hu : A.units + 1 < cLine) (X : K.In s.heap) (I : PySem.W.InstAt s.heap x ox C od) (J : PySem.W.InstAt s.heap y oy D od') (P : PlainC K C) (P' : PlainC K D) (hp : PairC K C D) (hxy : x ≠ y) {Q : Value → Shared → Prop} (h : Q (.bool true) s) :
    wpAny (model prog w) A (richCompare .NotEq (.ref x) (.ref y)) Q E s := by
  have fin : ∀ (tag : String), wpAny (model prog w) A (rule tag >>= fun _ => isSame (.ref x) (.ref y) >>= fun b => pure (Value.bool (!b))) Q E s := fun tag =>
    wpAny_bind (wpAny_rule (wpAny_bind (wpAny_isSame_ref_other hxy (inst_get I) (inst_get J) (inst_notup I) (wpAny_pure h))))
  simp only [richCompare, cmpInfo_NotEq, oneThing_ref]
  refine wpAny_holding (wpAny_bind (wpAny_cRoomFor (Nat.lt_of_succ_lt hu) ?_))
  refine wpAny_bind (I.type.here (wpAny_bind (J.type.here ?_)))
  by_cases hCD : C = D
  · subst hCD
    rw [if_neg (by simp)]
    refine wpAny_bind (wpAny_pure ?_)
    simp only [Bool.false_eq_true, if_false, Bool.not_false, if_true]
    refine wpAny_bind (try_ne_other hu X I P (inst_get J) hxy ?_)
    refine wpAny_bind (try_ne_other hu X J P' (inst_get I) (Ne.symm hxy) ?_)
    exact fin _
  · rw [if_pos (by simp [hCD])]
    obtain ⟨b, hb⟩ := hp.resolve_left hCD
    refine wpAny_bind ((PySem.W.looks_subIn X hb).here ?_)
    cases b with
    | false =>
      simp only [Bool.false_eq_true, if_false, Bool.not_false, if_true]
      refine wpAny_bind (try_ne_other hu X I P (inst_get J) hxy ?_)
      refine wpAny_bind (try_ne_other hu X J P' (inst_get I) (Ne.symm hxy) ?_)
      exact fin _
    | true =>
      simp only [Bool.not_true, Bool.false_eq_true, if_false, if_true]
      refine wpAny_bind (try_ne_other hu X J P' (inst_get I) (Ne.symm hxy) ?_)
      refine wpAny_bind (try_ne_other hu X I P (inst_get J) hxy ?_)
      exact fin _
end
end RA
namespace RA
open PySem PySem.Spec PyProof.Rows PySem.SeqAt L2
/-- an instance of a plain class stands there -/
def InsP (K : PySem.W.Frag) (H : Hp) (a C : Addr) : Prop := (∃ dx fs, H a = some (.ins C dx fs)) ∧ PlainC K C
theorem InsP.of {K : PySem.W.Frag} {H : Hp} {a C dx : Addr} {fs : List (Str × V)} (h : H a = some (.ins C dx fs)) (p : PlainC K C) : InsP K H a C := ⟨⟨dx, fs, h⟩, p⟩
section
variable {X : Cx} {pins : List (Addr × Obj)} {σ : L2.St} {H : Hp} {s : Shared}
theorem insp_at {a C : Addr} (I : Inv X pins σ H s) (h : InsP X.K H a C) : ∃ ox od, PySem.W.InstAt s.heap a ox C od := by
  obtain ⟨⟨dx, fs, ha⟩, _⟩ := h
  obtain ⟨mA, O, _⟩ := ins_get I.hok ha
  obtain ⟨od, J, _⟩ := O.look
  exact ⟨_, _, J⟩
/-- x == y: y an instance, None, or a number, a text, a truth -/
def rEqP (K : PySem.W.Frag) : R2 := fun x y H Q => ∃ a C, x = .ref a ∧ InsP K H a C ∧ ((y = .non ∧ Q (.bl false) H) ∨ ∃ b D, y = .ref b ∧ InsP K H b D ∧ PairC K C D ∧ Q (.bl (decide (a = b))) H)
def rNeP (K : PySem.W.Frag) : R2 := fun x y H Q => ∃ a C b D, x = .ref a ∧ InsP K H a C ∧ y = .ref b ∧ InsP K H b D ∧ PairC K C D ∧ Q (.bl (!decide (a = b))) H
theorem op_eqP (hu : X.A.units < cLine) : OpR X (compareOp .Eq) (rEqP X.K) := by
  intro pins s σ H x y v u Q I rx ry h
  obtain ⟨a, C, rfl, ha, h⟩ := h
  cases rx
  obtain ⟨ox, od, Ia⟩ := insp_at I ha
  rcases h with ⟨rfl, q⟩ | ⟨b, D, rfl, hb, hp, q⟩
  · cases ry
    exact HN.rc_none hu I.kIn Ia ha.2.mro ha.2.eq _ _ _ _ (fin_bl I q rfl)
  · cases ry
    obtain ⟨oy, od', Ib⟩ := insp_at I hb
    by_cases z : a = b
    · subst z
      have e : C = D := by
        have h1 := Ia.cls.symm.trans ((congrArg Obj.cls (Option.some.inj (Ia.at_.symm.trans Ib.at_))).trans Ib.cls)
        exact Value.ref.inj h1
      subst e
      exact rc_same hu I.kIn Ia ha.2 _ _ _ _ (fin_bl I q (by simp))
    · exact rc_other hu I.kIn Ia Ib ha.2 hb.2 hp z _ _ _ _ (fin_bl I q (by simp [z]))
theorem op_neP (hu : X.A.units + 1 < cLine) : OpR X (compareOp .NotEq) (rNeP X.K) := by
  intro pins s σ H x y v u Q I rx ry h
  obtain ⟨a, C, b, D, rfl, ha, rfl, hb, hp, q⟩ := h
  cases rx
  cases ry
  obtain ⟨ox, od, Ia⟩ := insp_at I ha
  obtain ⟨oy, od', Ib⟩ := insp_at I hb
  by_cases z : a = b
  · subst z
    exact rcn_same hu I.kIn Ia ha.2 (fin_bl I q (by simp))
  · exact rcn_other hu I.kIn Ia Ib ha.2 hb.2 hp z (fin_bl I q (by simp [z]))
/-- x in l: x an instance, the items instances -/
def rInP (K : PySem.W.Frag) (neg : Bool) : R2 := fun x y H Q => ∃ (a C p : Addr) (as : List Addr), x = .ref a ∧ InsP K H a C ∧ y = .ref p ∧ SqL K H p (as.map V.ref) ∧ (∀ b ∈ as, ∃ D, InsP K H b D ∧ PairC K D C) ∧ Q (.bl (if neg then !decide (a ∈ as) else decide (a ∈ as))) H
theorem eqAt_ref {A : Around} {a b C D : Addr} (I : Inv X pins σ H s) (hu : A.units < cLine) (ha : InsP X.K H a C) (hb : InsP X.K H b D) (hp : PairC X.K D C) : EqAt A s (.ref b) (.ref a) (decide (b = a)) := by
  by_cases z : b = a
  · subst z
    rw [decide_eq_true rfl]
    exact EqAt.same _
  · rw [decide_eq_false z]
    obtain ⟨ox, od, Ia⟩ := insp_at I ha
    obtain ⟨oy, od', Ib⟩ := insp_at I hb
    intro prog w E Q h
    unfold eqBool
    refine wpAny_holding ?_
    refine wpAny_ite_split (fun hab => absurd (eq_of_beq hab) (fun e => z (Value.ref.inj e))) (fun _ => ?_)
    exact wpAny_bind (rc_other hu I.kIn Ib Ia hb.2 ha.2 hp z prog w E _ (wpAny_truthy_bool h))
theorem any_refs {a : Addr} : ∀ {as : List Addr} {us : List Value}, Vals (as.map V.ref) us → us.any (fun u => u == .ref a) = decide (a ∈ as)
  | [], _, .nil => by simp
  | b :: as, u :: us, .cons r t => by
    cases (show u = Value.ref b from r)
    rw [List.any_cons, any_refs t]
    by_cases z : b = a
    · subst z; simp
    · have z' : ¬ a = b := fun e => z e.symm
      simp [z, z']
theorem mem_refs {A : Around} {a C : Addr} (I : Inv X pins σ H s) (hu : A.units < cLine) (ha : InsP X.K H a C) : ∀ {as : List Addr} {us : List Value}, Vals (as.map V.ref) us → (∀ b ∈ as, ∃ D, InsP X.K H b D ∧ PairC X.K D C) → ∀ u ∈ us, EqAt A s u (.ref a) (u == .ref a)
  | [], _, .nil, _ => fun u hu' => by cases hu'
  | b :: as, u :: us, .cons r t, f => fun u' hu' => by
    rcases List.mem_cons.mp hu' with e | hu'
    · subst e
      cases (show u' = Value.ref b from r)
      obtain ⟨D, hb, hp⟩ := f b (List.mem_cons_self ..)
      have e2 : (Value.ref b == Value.ref a) = decide (b = a) := by
        by_cases z : b = a <;> simp [z]
      rw [e2]
      exact eqAt_ref I hu ha hb hp
    · exact mem_refs I hu ha t (fun z hz => f z (List.mem_cons_of_mem _ hz)) u' hu'
theorem op_inP (hu : X.A.units + 64 < cLine) : OpR X (compareOp .In) (rInP X.K false) := by
  intro pins s σ H x y v u Q I rx ry h
  obtain ⟨a, C, p, as, rfl, ha, rfl, hq, f, q⟩ := h
  cases rx
  cases ry
  obtain ⟨its, rv, hl, _⟩ := I.list hq
  have hu1 : X.A.in1.units < cLine := by show X.A.units + 1 < cLine; omega
  refine SeqAt.in_listAt (fun u => u == .ref a) hl.isList (fun z hz => mem_refs I hu1 ha rv f z (by simpa using hz)) ⟨.bl _, H, I, rfl, ?_⟩
  rw [show its.toArray.any (fun u => u == .ref a) = its.any (fun u => u == .ref a) by simp, any_refs rv]
  exact q
theorem op_notInP (hu : X.A.units + 64 < cLine) : OpR X (compareOp .NotIn) (rInP X.K true) := by
  intro pins s σ H x y v u Q I rx ry h
  obtain ⟨a, C, p, as, rfl, ha, rfl, hq, f, q⟩ := h
  cases rx
  cases ry
  obtain ⟨its, rv, hl, _⟩ := I.list hq
  have hu1 : X.A.in1.units < cLine := by show X.A.units + 1 < cLine; omega
  refine SeqAt.notIn_listAt (fun u => u == .ref a) hl.isList (fun z hz => mem_refs I hu1 ha rv f z (by simpa using hz)) ⟨.bl _, H, I, rfl, ?_⟩
  rw [show its.toArray.any (fun u => u == .ref a) = its.any (fun u => u == .ref a) by simp, any_refs rv]
  exact q
/-! ### a def read off its class: C.m(x, ..) -/
structure CFun (K : PySem.W.Frag) (C : Addr) (m : Str) (f : Addr) : Prop where
  ga : PySem.W.specialIn K (.ref C) "__getattribute__" = some (some (.builtin "type.__getattribute__"))
  rd : PySem.W.readsIn K C (.type "type") = true
  at_ : PySem.W.findCls K (.ref C) (.type "type") m = some (.val (.ref f))
  kp : PySem.W.keepIn K (.ref f) = true
def tCFun (C : Addr) (sp : Sp) (dvs : List V) (E : XK) (ta : TE) (t : TA) : TE := fun σ H Q => ta σ H fun x H1 => x = .ref C ∧ t σ H1 fun vs H2 => sp (vs ++ dvs) H2 Q E
theorem pe_cfun {CX : CXT} {k : Nat} {C f : Addr} {fd : FuncData} {ps : List Str} {sp : Sp} {dvs : List V} {ds : List Value} {E : XK} {o e : Expr} {es : List Expr} {m : Str} {pos apos : Pos} {ta : TE} {t : TA} {pl : Sem Bool}
    (he : PE X o ta) (c : CFun X.K C m f) (F : FnOk X.prog X.w X.K X.mg X.base CX k f fd ps sp) (hr : Room k X.A) (hb : Binds X.K fd ps ds) (hd : Vals dvs ds) (hx : Passes CX X E) (ha : PA X (e :: es) t)
    (hst : starEach (e :: es) X.env = (false, eval e X.env) :: starEach es X.env := by rfl) (hpl : (backTo pos (starEach es X.env)).any (·.1) = false := by rfl)
    (ht : eval (.Call (.Attribute o m apos) (e :: es) [] pos) X.env = (do
      let ov ← eval o X.env
      standAt apos.atName
      let (f, first) ← holding [ov] (getMethod ov m pl)
      callWith pos f first (backTo pos (starEach (e :: es) X.env)) (backToKw pos (keywordEach [] X.env))) := by rfl) :
    PE X (.Call (.Attribute o m apos) (e :: es) [] pos) (tCFun C sp dvs E ta t) := by
  refine ⟨fun pins s σ H Q I h => ?_⟩
  refine PySem.W.methodCall_KW (pl := pl) (thn (he.run pins s σ H _ I h) fun u s1 ⟨x, H1, I1, rx, ex, q⟩ => ?_) ht
  subst ex
  obtain rfl : u = Value.ref C := rx
  refine PySem.W.method_cls I1.kIn c.ga (PySem.W.cls_value I1.kIn c.rd c.at_ (handed_of (v := .ref f) rfl) ?_)
  have I2 := I1.tok (s1.toks + 1)
  refine PySem.W.callWith_K (first := []) (h₀ := X.base) I2.ok.mod.kin c.kp (thn (ha.run pos pins _ σ H1 _ I2 q) fun us s2 ⟨vs, H2, I3, r, q2⟩ => ⟨I3.kIn, ?_⟩) hst hpl
  exact run_fn F hr hb hd hx I3 r q2
/-! ### one of two rules -/
theorem PE.or {e : Expr} {t t' : TE} (h : PE X e t) (h' : PE X e t') : PE X e (fun σ H Q => t σ H Q ∨ t' σ H Q) := ⟨fun pins s σ H Q I q => by
  rcases q with q | q
  · exact h.run pins s σ H Q I q
  · exact h'.run pins s σ H Q I q⟩
/-- any of many rules for one expression -/
theorem PE.any {ι : Type} {e : Expr} {t : ι → TE} (S : ι → Prop) (h : ∀ i, S i → PE X e (t i)) : PE X e (fun σ H Q => ∃ i, S i ∧ t i σ H Q) := ⟨fun pins s σ H Q I ⟨i, hi, q⟩ => (h i hi).run pins s σ H Q I q⟩
end
end RA

set_option Elab.async false
set_option linter.all false
set_option maxRecDepth 100000
set_option maxHeartbeats 4000000
/-! The head's facts: He.Fa and He.DefD, further facts of classes, dicts of the top with their items. -/
namespace RB
open PySem PySem.Spec PyProof.Rows L2 He
/-- what isinstance asks of a value's own class -/
structure TyC (K : PySem.W.Frag) (C : Addr) : Prop where
  ha : PySem.W.findIn K (.ref C) "__class__" = some (some (.builtin "object.__class__"))
  hn : PySem.W.specialIn K (.builtin "object.__class__") "__get__" = some (some (.builtin "getset_descriptor.__get__"))
  ht : PySem.W.takesIn K (.builtin "object.__class__") = some true
  hm : PySem.W.mroIn K C (.type "object") = some true
/-- an own class of errors, over ValueError, whose __init__ keeps one field -/
structure ExcF (K : PySem.W.Frag) (C : Addr) (f : Str) : Prop where
  ox : OexC K C
  no : PySem.W.findIn K (.ref C) f = some none
  ini : PySem.W.findIn K (.ref C) "__init__" = some (some (.ref (ma K C "__init__")))
  ty : PySem.W.typeIn K (.ref (ma K C "__init__")) = some (.type "function")
  xf : XfC K C
def clsB (K : PySem.W.Frag) (C : Addr) : Bool := match K.lookup C with
  | some ⟨.type t, _, .cls cd, sl⟩ => decide (t = "type") && (match cd.mro, sl.toList with
    | .ref C' :: bm, [_, _, _, _, some (.builtin n), _] => decide (C' = C) && (decide (n = "ValueError.__new__") && (!cd.hasDel && (cd.hasDict && PySem.HandSPX.refsVE bm)))
    | _, _ => false)
  | _ => false
def oexB (K : PySem.W.Frag) (C : Addr) : Bool := clsB K C && (eqO (PySem.W.findIn K (.ref C) "__setattr__") (some (some (.builtin "object.__setattr__"))) && (decide (PySem.W.subIn K (.ref C) (.type "BaseException") = some true) && (decide (PySem.W.typeIn K (.ref C) = some (.type "type")) && PySem.W.keepIn K (.ref C))))
theorem oexB_ok {K : PySem.W.Frag} {C : Addr} (h : oexB K C = true) : OexC K C := by
  obtain ⟨h1, h⟩ := ba h
  obtain ⟨h2, h⟩ := ba h
  obtain ⟨h3, h⟩ := ba h
  obtain ⟨h4, h5⟩ := ba h
  refine ⟨?_, eqO_ok h2, of_decide_eq_true h3, of_decide_eq_true h4, h5⟩
  unfold clsB at h1
  split at h1
  · rename_i t dd cd sl ho
    obtain ⟨ht, h1⟩ := ba h1
    split at h1
    · rename_i C' bm k0 k1 k2 k3 n k5 hm hs
      obtain ⟨e1, h1⟩ := ba h1
      obtain ⟨e2, h1⟩ := ba h1
      obtain ⟨e3, h1⟩ := ba h1
      obtain ⟨e4, e5⟩ := ba h1
      have e1 := of_decide_eq_true e1
      have e2 := of_decide_eq_true e2
      have ht := of_decide_eq_true ht
      subst e1 e2 ht
      obtain ⟨nm, bs, mro, ns, qn, hd, sn, sub, ab, col, del⟩ := cd
      dsimp only at hm e3 e4
      subst hm e4
      have e3 : del = false := by cases del with
        | false => rfl
        | true => cases e3
      subst e3
      have hsl : sl = #[k0, k1, k2, k3, some (.builtin "ValueError.__new__"), k5] := by
        obtain ⟨l⟩ := sl
        dsimp only at hs
        rw [hs]
      subst hsl
      exact ⟨nm, qn, ns, bs, bm, sn, sub, ab, col, dd, k0, k1, k2, k3, k5, ho, e5⟩
    · cases h1
  · cases h1
inductive Fx where
  | exc (x f : Str)
  | exm (x y : Str) (b : Bool)
  | pl (x : Str)
  | sub (x y : Str)
  | cf (x m : Str)
  | ty (x : Str)
  | kit (x y : Str) (b : Bool)
  | kib (n : String) (y : Str) (b : Bool)
  | dtup (p : Str × Option Str) (i : Nat)
  | kiy (x : Str) (n : String) (b : Bool)
  | ktup (x : Str) (zs : List Str)
  | ktupi (x : Str) (ns : List Int)
  | ktn (x : Str)
/-- these values are these texts -/
def strsB : List Value → List Str → Bool
  | [], [] => true
  | .str a _ :: r, z :: zs => decide (a = z) && strsB r zs
  | _, _ => false
/-- these values are these numbers -/
def intsB : List Value → List Int → Bool
  | [], [] => true
  | .int a _ :: r, z :: zs => decide (a = z) && intsB r zs
  | _, _ => false
def Fx.ok (K : PySem.W.Frag) : Fx → Bool
  | .exc x f => oexB K (ga K x) && (eqO (PySem.W.findIn K (.ref (ga K x)) f) (some none) && (decide (PySem.W.findIn K (.ref (ga K x)) "__init__" = some (some (.ref (ma K (ga K x) "__init__")))) && (decide (PySem.W.typeIn K (.ref (ma K (ga K x) "__init__")) = some (.type "function")) && xfB K (ga K x))))
  | .exm x y b => decide (PySem.W.exmOne K (.ref (ga K x)) (.ref (ga K y)) = some b)
  | .pl x => decide (PySem.W.mroIn K (ga K x) (.type "object") = some true) && (eqO (PySem.W.findIn K (.ref (ga K x)) "__eq__") (some (some (.builtin "object.__eq__"))) && eqO (PySem.W.findIn K (.ref (ga K x)) "__ne__") (some (some (.builtin "object.__ne__"))))
  | .sub x y => decide (ga K x = ga K y) || (PySem.W.subIn K (.ref (ga K y)) (.ref (ga K x))).isSome
  | .cf x m => eqO (PySem.W.specialIn K (.ref (ga K x)) "__getattribute__") (some (some (.builtin "type.__getattribute__"))) && (PySem.W.readsIn K (ga K x) (.type "type") && ((match PySem.W.findCls K (.ref (ga K x)) (.type "type") m with
    | some (.val (.ref f)) => decide (f = ma K (ga K x) m)
    | _ => false) && PySem.W.keepIn K (.ref (ma K (ga K x) m))))
  | .ty x => eqO (PySem.W.findIn K (.ref (ga K x)) "__class__") (some (some (.builtin "object.__class__"))) && (eqO (PySem.W.specialIn K (.builtin "object.__class__") "__get__") (some (some (.builtin "getset_descriptor.__get__"))) && (decide (PySem.W.takesIn K (.builtin "object.__class__") = some true) && decide (PySem.W.mroIn K (ga K x) (.type "object") = some true)))
  | .kit x y b => decide (PySem.W.kitOne K (.ref (ga K x)) (.ref (ga K y)) = some b)
  | .kib n y b => decide (PySem.W.kitOne K (.type n) (.ref (ga K y)) = some b)
  | .ktup x zs => decide (zs.length ≤ 1000) && (match K.lookup (ga K x) with
    | some ⟨.type c, _, .seq its _, _⟩ => decide (c = "tuple") && strsB its.toList zs
    | _ => false)
  | .ktupi x zs => decide (zs.length ≤ 1000) && (match K.lookup (ga K x) with
    | some ⟨.type c, _, .seq its _, _⟩ => decide (c = "tuple") && intsB its.toList zs
    | _ => false)
  | .ktn x => (match K.lookup (ga K x) with
    | some ⟨.type c, none, _, _⟩ => decide (c = "tuple")
    | _ => false)
  | .kiy x n b => decide (PySem.W.kitOne K (.ref (ga K x)) (.type n) = some b)
  | .dtup p i => (match K.lookup (dflAt p i K) with
    | some ⟨.type c, _, .seq its _, _⟩ => decide (c = "tuple") && its.isEmpty
    | _ => false)
section
variable {K : PySem.W.Frag}
theorem exc_ok {x f : Str} (c : (Fx.exc x f).ok K = true) : ExcF K (ga K x) f := by
  obtain ⟨c1, c⟩ := ba c
  obtain ⟨c2, c⟩ := ba c
  obtain ⟨c3, c⟩ := ba c
  obtain ⟨c4, c5⟩ := ba c
  exact ⟨oexB_ok c1, eqO_ok c2, of_decide_eq_true c3, of_decide_eq_true c4, xfB_ok c5⟩
theorem exm_ok {x y : Str} {b : Bool} (c : (Fx.exm x y b).ok K = true) : PySem.W.exmOne K (.ref (ga K x)) (.ref (ga K y)) = some b := of_decide_eq_true c
theorem pl_ok {x : Str} (c : (Fx.pl x).ok K = true) : RA.PlainC K (ga K x) := by
  obtain ⟨c1, c⟩ := ba c
  obtain ⟨c2, c3⟩ := ba c
  exact ⟨of_decide_eq_true c1, eqO_ok c2, eqO_ok c3⟩
theorem sub_ok {x y : Str} (c : (Fx.sub x y).ok K = true) : RA.PairC K (ga K x) (ga K y) := by
  rcases Bool.or_eq_true_iff.mp c with c | c
  · exact .inl (of_decide_eq_true c)
  · exact .inr (Option.isSome_iff_exists.mp c)
theorem cf_ok {x m : Str} (c : (Fx.cf x m).ok K = true) : RA.CFun K (ga K x) m (ma K (ga K x) m) := by
  obtain ⟨c1, c⟩ := ba c
  obtain ⟨c2, c⟩ := ba c
  obtain ⟨c3, c4⟩ := ba c
  refine ⟨eqO_ok c1, c2, ?_, c4⟩
  cases e : PySem.W.findCls K (.ref (ga K x)) (.type "type") m with
  | none => rw [e] at c3; cases c3
  | some r =>
    rw [e] at c3
    cases r with
    | get _ _ _ _ => cases c3
    | val v =>
      cases v with
      | ref f => rw [of_decide_eq_true c3]
      | _ => cases c3
theorem ty_ok {x : Str} (c : (Fx.ty x).ok K = true) : TyC K (ga K x) := by
  obtain ⟨c1, c⟩ := ba c
  obtain ⟨c2, c⟩ := ba c
  obtain ⟨c3, c4⟩ := ba c
  exact ⟨eqO_ok c1, eqO_ok c2, of_decide_eq_true c3, of_decide_eq_true c4⟩
theorem kit_ok {x y : Str} {b : Bool} (c : (Fx.kit x y b).ok K = true) : PySem.W.kitOne K (.ref (ga K x)) (.ref (ga K y)) = some b := of_decide_eq_true c
theorem kiy_ok {x : Str} {n : String} {b : Bool} (c : (Fx.kiy x n b).ok K = true) : PySem.W.kitOne K (.ref (ga K x)) (.type n) = some b := of_decide_eq_true c
theorem kib_ok {n : String} {y : Str} {b : Bool} (c : (Fx.kib n y b).ok K = true) : PySem.W.kitOne K (.type n) (.ref (ga K y)) = some b := of_decide_eq_true c
theorem dtup_ok {p : Str × Option Str} {i : Nat} (h : (Fx.dtup p i).ok K = true) (H : Hp) : SqT K H (dflAt p i K) [] := by
  have h1 : (match K.lookup (dflAt p i K) with
    | some ⟨.type c, _, .seq its _, _⟩ => decide (c = "tuple") && its.isEmpty
    | _ => false) = true := h
  cases q : K.lookup (dflAt p i K) with
  | none => rw [q] at h1; cases h1
  | some o =>
    obtain ⟨oc, od, dt, osl⟩ := o
    rw [q] at h1
    cases oc with
    | type c =>
      cases dt with
      | seq its n =>
        obtain ⟨h2, h3⟩ := ba (show (decide (c = "tuple") && its.isEmpty) = true from h1)
        have e3 : its = #[] := Array.isEmpty_iff.mp h3
        subst e3
        exact .inr ⟨_, #[], n, q, congrArg Value.type (of_decide_eq_true h2), rfl, Nat.zero_le _, .nil⟩
      | _ => cases h1
    | _ => cases dt <;> cases h1
theorem strs_vals : ∀ {us : List Value} {zs : List Str}, strsB us zs = true → Vals (zs.map V.str) us
  | [], [], _ => .nil
  | .str a t :: r, z :: zs, h => by
    obtain ⟨h1, h2⟩ := ba (show (decide (a = z) && strsB r zs) = true from h)
    obtain rfl := of_decide_eq_true h1
    exact .cons ⟨t, rfl⟩ (strs_vals h2)
theorem ktup_ok {x : Str} {zs : List Str} (h : (Fx.ktup x zs).ok K = true) (H : Hp) : SqT K H (ga K x) (zs.map V.str) := by
  obtain ⟨h0, h⟩ := ba h
  have h1 : (match K.lookup (ga K x) with
    | some ⟨.type c, _, .seq its _, _⟩ => decide (c = "tuple") && strsB its.toList zs
    | _ => false) = true := h
  cases q : K.lookup (ga K x) with
  | none => rw [q] at h1; cases h1
  | some o =>
    obtain ⟨oc, od, dt, osl⟩ := o
    rw [q] at h1
    cases oc with
    | type c =>
      cases dt with
      | seq its n =>
        obtain ⟨h2, h3⟩ := ba (show (decide (c = "tuple") && strsB its.toList zs) = true from h1)
        have hv := strs_vals h3
        refine .inr ⟨_, its, n, q, congrArg Value.type (of_decide_eq_true h2), rfl, ?_, hv⟩
        have hl := hv.length
        have hz := of_decide_eq_true h0
        rw [List.length_map] at hl
        have : its.size = zs.length := by rw [← Array.length_toList]; omega
        rw [this, sizeLine_eq]; omega
      | _ => cases h1
    | _ => cases dt <;> cases h1
theorem ints_vals : ∀ {us : List Value} {zs : List Int}, intsB us zs = true → Vals (zs.map V.int) us
  | [], [], _ => .nil
  | .int a t :: r, z :: zs, h => by
    obtain ⟨h1, h2⟩ := ba (show (decide (a = z) && intsB r zs) = true from h)
    obtain rfl := of_decide_eq_true h1
    exact .cons ⟨t, rfl⟩ (ints_vals h2)
theorem ktn_ok {x : Str} (h : (Fx.ktn x).ok K = true) : ∃ o, K.lookup (ga K x) = some o ∧ o.cls = .type "tuple" ∧ o.dict = none := by
  have h1 : (match K.lookup (ga K x) with
    | some ⟨.type c, none, _, _⟩ => decide (c = "tuple")
    | _ => false) = true := h
  cases q : K.lookup (ga K x) with
  | none => rw [q] at h1; cases h1
  | some o =>
    obtain ⟨oc, od, dt, osl⟩ := o
    rw [q] at h1
    cases oc with
    | type c =>
      cases od with
      | none => exact ⟨_, rfl, by rw [of_decide_eq_true h1], rfl⟩
      | some d => cases h1
    | _ => cases od <;> cases h1
theorem ktupi_ok {x : Str} {zs : List Int} (h : (Fx.ktupi x zs).ok K = true) (H : Hp) : SqT K H (ga K x) (zs.map V.int) := by
  obtain ⟨h0, h⟩ := ba h
  have h1 : (match K.lookup (ga K x) with
    | some ⟨.type c, _, .seq its _, _⟩ => decide (c = "tuple") && intsB its.toList zs
    | _ => false) = true := h
  cases q : K.lookup (ga K x) with
  | none => rw [q] at h1; cases h1
  | some o =>
    obtain ⟨oc, od, dt, osl⟩ := o
    rw [q] at h1
    cases oc with
    | type c =>
      cases dt with
      | seq its n =>
        obtain ⟨h2, h3⟩ := ba (show (decide (c = "tuple") && intsB its.toList zs) = true from h1)
        have hv := ints_vals h3
        refine .inr ⟨_, its, n, q, congrArg Value.type (of_decide_eq_true h2), rfl, ?_, hv⟩
        have hl := hv.length
        have hz := of_decide_eq_true h0
        rw [List.length_map] at hl
        have : its.size = zs.length := by rw [← Array.length_toList]; omega
        rw [this, sizeLine_eq]; omega
      | _ => cases h1
    | _ => cases dt <;> cases h1
theorem TyC.tyx {C a dx : Addr} {H : Hp} {fs : List (Str × V)} (t : TyC K C) (c : Cls K C) (e : H a = some (.ins C dx fs)) : TyX K H (.ref a) (.ref C) := .base (.ins e c t.ha t.hn t.ht t.hm)
end
/-! ### dicts of the top -/
def keyE (e : DictEntry) : Option (Key × Int) := match e.key with
  | .int i _ => some (Sum.inl i, e.hash)
  | .str x _ => some (Sum.inr x, e.hash)
  | _ => none
def keyHP (P : Params) : Key → Int
  | .inl i => hashInt i
  | .inr x => PyData.keyHash P x
abbrev Tb : Type := Str × List (Key × Dv)
def tbRow (K : PySem.W.Frag) (x : Str) : Option (List (Option (Key × Int))) := match K.lookup (ga K x) with
  | some ⟨.type c, none, .dict es _, sl⟩ => (match decide (c = "dict") && (sl.isEmpty && !(ga K x == sysModules)) with
    | true => some (es.toList.map keyE)
    | false => none)
  | _ => none
def tbWant (P : Params) (kvs : List (Key × Dv)) : Option (List (Option (Key × Int))) := some (kvs.map fun q => some (q.1, keyHP P q.1))
def tbVals (K : PySem.W.Frag) (t : Tb) : Bool := decide ((t.2.map (·.1)).Nodup) && (decide (t.2.length ≤ sizeLine) && (match K.lookup (ga K t.1) with
  | some ⟨_, _, .dict es _, _⟩ => relAll (t.2.map fun q => q.2.v K) (es.toList.map (·.val))
  | _ => false))
/-- a dict of the top with these items -/
structure KD (P : Program) (w : World) (K : PySem.W.Frag) (a : Addr) (kvs : List (Key × V)) : Prop where
  low : (a == sysModules) = false
  len : kvs.length ≤ sizeLine
  at_ : ∃ vs, KV kvs vs ∧ ∀ h : Heap, K.In h → h.DictOf (mixKind P w) a vs
theorem rows_pairs {P : Program} {w : World} : ∀ {es : List DictEntry} {kvs : List (Key × V)}, es.map keyE = kvs.map (fun q => some (q.1, keyHP w.params q.1)) → relAll (kvs.map (·.2)) (es.map (·.val)) = true →
    ∃ vs, KV kvs vs ∧ Pairs (mixKind P w) es vs ∧ vs.map (·.1) = kvs.map (·.1) ∧ ∀ e ∈ es, ∃ k, (mixKind P w).is k e.key = true ∧ e.hash = (mixKind P w).hash k
  | [], [], _, _ => ⟨[], .nil, .nil, rfl, fun _ h => nomatch h⟩
  | [], _ :: _, h, _ => by cases h
  | _ :: _, [], h, _ => by cases h
  | e :: es, q :: kvs, h, hv => by
    rw [List.map_cons, List.map_cons] at h
    injection h with h1 h2
    obtain ⟨v1, v2⟩ := ba (show (relB q.2 e.val && relAll (kvs.map (·.2)) (es.map (·.val))) = true from hv)
    obtain ⟨vs, r, p, n, kk⟩ := rows_pairs (P := P) h2 v2
    have key : (mixKind P w).is q.1 e.key = true ∧ e.hash = (mixKind P w).hash q.1 := by
      unfold keyE at h1
      split at h1
      · rename_i i t ek
        have h3 := Prod.mk.inj (Option.some.inj h1)
        rw [← h3.1, ek]
        refine ⟨mixKind_int P w i t, ?_⟩
        rw [h3.2, ← h3.1]; rfl
      · rename_i x t ek
        have h3 := Prod.mk.inj (Option.some.inj h1)
        rw [← h3.1, ek]
        refine ⟨mixKind_str P w x t, ?_⟩
        rw [h3.2, ← h3.1]; rfl
      · cases h1
    refine ⟨(q.1, e.val) :: vs, .cons ⟨rfl, relB_ok v1⟩ r, .cons key.1 rfl p, by rw [List.map_cons, List.map_cons, n], fun e' he => ?_⟩
    rcases List.mem_cons.mp he with rfl | he
    · exact ⟨q.1, key⟩
    · exact kk e' he
theorem kd_of {P : Program} {w : World} {K : PySem.W.Frag} {t : Tb} (h1 : tbRow K t.1 = tbWant w.params t.2) (h2 : tbVals K t = true) : KD P w K (ga K t.1) (t.2.map fun q => (q.1, q.2.v K)) := by
  obtain ⟨nd, h2⟩ := ba h2
  obtain ⟨ln, h2⟩ := ba h2
  unfold tbRow tbWant at h1
  cases q : K.lookup (ga K t.1) with
  | none => rw [q] at h1; cases h1
  | some o =>
    obtain ⟨oc, od, dt, osl⟩ := o
    rw [q] at h1 h2
    cases oc with
    | type c =>
      cases od with
      | none =>
        cases dt with
        | dict es n =>
          have h3 : (match decide (c = "dict") && (osl.isEmpty && !(ga K t.1 == sysModules)) with
            | true => some (es.toList.map keyE)
            | false => none) = some (t.2.map fun q => some (q.1, keyHP w.params q.1)) := h1
          cases z : decide (c = "dict") && (osl.isEmpty && !(ga K t.1 == sysModules)) with
          | false => rw [z] at h3; cases h3
          | true =>
            rw [z] at h3
            obtain ⟨z1, z2⟩ := ba z
            obtain ⟨z3, z4⟩ := ba z2
            have e1 : c = "dict" := of_decide_eq_true z1
            have e2 : osl = #[] := Array.isEmpty_iff.mp z3
            have e3 : (ga K t.1 == sysModules) = false := by
              cases y : (ga K t.1 == sysModules) with
              | false => rfl
              | true => rw [y] at z4; cases z4
            subst e1 e2
            have h4 : es.toList.map keyE = (t.2.map fun q => (q.1, q.2.v K)).map (fun q => some (q.1, keyHP w.params q.1)) := by
              rw [List.map_map]
              exact Option.some.inj h3
            have h5 : relAll ((t.2.map fun q => (q.1, q.2.v K)).map (·.2)) (es.toList.map (·.val)) = true := by
              rw [List.map_map]
              exact h2
            obtain ⟨vs, r, p, nm, kk⟩ := rows_pairs (P := P) h4 h5
            refine ⟨e3, by rw [List.length_map]; exact of_decide_eq_true ln, vs, r, fun h X => ⟨_, es, n, X _ _ q, ⟨rfl, rfl, rfl⟩, rfl, fun e he => kk e (Array.mem_toList_iff.mpr he), p, ?_⟩⟩
            rw [nm, List.map_map]
            exact of_decide_eq_true nd
        | _ => cases h1
      | some d => cases dt <;> cases h1
    | _ => cases od <;> cases dt <;> cases h1
section
variable {X : Cx}
/-- dict(D), D a dict of the top: a new one -/
theorem call_dictK {D : Addr} {kvs : List (Key × V)} (k : KD X.prog X.w X.K D kvs) : CallR X (.type "dict") (fun xs H Q => xs = [.ref D] ∧ ∀ p, H p = none → Q (.ref p) (upd H p (.dK kvs))) := by
  intro pins s σ H xs us Q I r q
  obtain ⟨ex, q⟩ := q
  subst ex
  obtain ⟨u, eu, rx⟩ := vals1 r
  subst eu
  cases rx
  obtain ⟨vs, rel, dd⟩ := k.at_
  refine kt_call_dict k.low (dd _ I.kIn) (by rw [← rel.length]; exact k.len) fun h' d' hs => ?_
  have hm : (s.heap.objs.size == sysModules) = false := beq_eq_false_iff_ne.mpr (Nat.ne_of_gt I.big)
  exact ⟨.ref s.heap.objs.size, upd H s.heap.objs.size (.dK kvs), I.laid (t' := s.toks) (fun b u e => (hs.2 b (Nat.ne_of_lt (Heap.lt_size e))).trans (Heap.get?_push_of_some _ e)) (Nat.le_refl _)
    (show ObjOk X.prog X.w _ _ _ (.dK kvs) from ⟨k.len, hm, vs, rel, d'⟩), rfl, q _ (I.hok.fresh (Nat.le_refl _))⟩
end
/-! ### the Hook -/
abbrev AlB : Type := AlD × List (Option (List (Option (Key × Int)))) × Bool
def obsB (fa : List Fa) (fx : List Fx) (fn : List DefD) (ts : List Tb) (K : PySem.W.Frag) : AlB := (obsD fa fn K, ts.map fun t => tbRow K t.1, (fx.all fun f => f.ok K) && ts.all fun t => tbVals K t)
def valB (fn : List DefD) (ts : List Tb) (w : World) : AlB := (valD fn, ts.map fun t => tbWant w.params t.2, true)
def SaysB (fa : List Fa) (fx : List Fx) (fn : List DefD) (ts : List Tb) (w : World) (K : PySem.W.Frag) : Prop := obsB fa fx fn ts K = valB fn ts w
/-- and the objects that are defaults: one step further, for those alone -/
def extraB (g : Addr → Option Obj) (fx : List Fx) (as : List Addr) : List Addr := cStatics :: (as ++ fx.filterMap fun
  | .dtup p i => some (dflAt p i (frG g as))
  | .ktup x _ => some (ga (frG g as) x)
  | .ktupi x _ => some (ga (frG g as) x)
  | _ => none)
def obsBG (n : Nat) (fa : List Fa) (fx : List Fx) (fn : List DefD) (ts : List Tb) (g : Addr → Option Obj) : AlB := obsB fa fx fn ts (frG g (extraB g fx (asD g n)))
def hookB (n : Nat) (fa : List Fa) (fx : List Fx) (fn : List DefD) (ts : List Tb) : PySem.W.Hook where
  α := AlB
  obs := fun s => obsBG n fa fx fn ts s.heap.get?
  val := fun w => valB fn ts w
  says := fun w h => ∃ K : PySem.W.Frag, K.In h ∧ SaysB fa fx fn ts w K
  of := fun _ _ e => ⟨_, frG_in, e⟩
  keeps := fun _ _ _ ⟨K, hK, c⟩ k => ⟨K, PySem.W.Frag.In.keeps hK k, c⟩
theorem obsBG_eq {n : Nat} {fa : List Fa} {fx : List Fx} {fn : List DefD} {ts : List Tb} {g : Addr → Option Obj} {s : Shared} (h : ∀ a, g a = s.heap.get? a) : obsBG n fa fx fn ts g = (hookB n fa fx fn ts).obs s := by
  have e : g = s.heap.get? := funext h
  rw [e] <;> rfl
section
variable {fa : List Fa} {fx : List Fx} {fn : List DefD} {ts : List Tb} {w : World} {K : PySem.W.Frag}
theorem SaysB.d (c : SaysB fa fx fn ts w K) : SaysD fa fn K := congrArg (fun z : AlB => z.1) c
theorem SaysB.fact (c : SaysB fa fx fn ts w K) (i : Nat) {f : Fa} (h : fa[i]? = some f := by rfl) : f.ok K = true := c.d.fact i h
theorem SaysB.more (c : SaysB fa fx fn ts w K) (i : Nat) {f : Fx} (h : fx[i]? = some f := by rfl) : f.ok K = true := by
  have c1 := (ba (show ((fx.all fun f => f.ok K) && ts.all fun t => tbVals K t) = true from congrArg (fun z : AlB => z.2.2) c)).1
  exact List.all_eq_true.mp c1 f (List.mem_of_getElem? h)
theorem SaysB.tb (c : SaysB fa fx fn ts w K) (i : Nat) {t : Tb} (h : ts[i]? = some t := by rfl) (P : Program) : KD P w K (ga K t.1) (t.2.map fun q => (q.1, q.2.v K)) := by
  have c1 := (ba (show ((fx.all fun f => f.ok K) && ts.all fun t => tbVals K t) = true from congrArg (fun z : AlB => z.2.2) c)).2
  have e : ts.map (fun t => tbRow K t.1) = ts.map fun t => tbWant w.params t.2 := congrArg (fun z : AlB => z.2.1) c
  have e2 : (ts.map fun t => tbRow K t.1)[i]? = (ts.map fun t => tbWant w.params t.2)[i]? := by rw [e]
  rw [List.getElem?_map, List.getElem?_map, h] at e2
  exact kd_of (Option.some.inj e2) (List.all_eq_true.mp c1 t (List.mem_of_getElem? h))
end
end RB

set_option Elab.async false
set_option linter.all false
set_option maxRecDepth 100000
set_option maxHeartbeats 4000000
/-! What a caller needs of a def, in one word; the stream of draws. -/
namespace RC
open PySem PySem.Spec PyProof.Rows L2 He
/-- the def at f may be called with all parameters but the last ones, whose defaults are dvs -/
def Callable (P : Program) (w : World) (K : PySem.W.Frag) (mg : Str → Option Value) (base : Heap) (k : Nat) (f : Addr) (ps : List Str) (dvs : List V) (sp : Sp) : Prop :=
  ∃ fd ds, FnOk P w K mg base CX0 k f fd ps sp ∧ Vals dvs ds ∧ Binds K fd ps ds ∧ PySem.W.keepIn K (.ref f) = true
section
variable {X : Cx} {k : Nat} {f C : Addr} {ps : List Str} {sp : Sp} {dvs : List V} {x m : Str} {p pos apos : Pos} {e o : Expr} {es : List Expr} {ta : TE} {t : TA} {pl : Sem Bool}
theorem pe_fn (hm : X.mg x = some (.ref f)) (c : Callable X.prog X.w X.K X.mg X.base k f ps dvs sp) (hr : Room k X.A) (hg : Gl X x) (ha : PA X (e :: es) t) (hdb : (x == ("__debug__" : Str)) = false := by decide)
    (he : starEach (e :: es) X.env = (false, eval e X.env) :: starEach es X.env := by rfl) (hpl : (backTo pos (starEach es X.env)).any (·.1) = false := by rfl) : PE X (.Call (.Name x p) (e :: es) [] pos) (tCall sp dvs E0 t) := by
  obtain ⟨fd, ds, F, hd, hb, hk⟩ := c
  exact pe_call F hr hg hm hk hb hd pass0 ha hdb he hpl
theorem pe_fn0 (hm : X.mg x = some (.ref f)) (c : Callable X.prog X.w X.K X.mg X.base k f ps dvs sp) (hr : Room k X.A) (hg : Gl X x) (hdb : (x == ("__debug__" : Str)) = false := by decide) : PE X (.Call (.Name x p) [] [] pos) (tCall sp dvs E0 tNil) := by
  obtain ⟨fd, ds, F, hd, hb, hk⟩ := c
  exact pe_call0 F hr hg hm hk hb hd pass0 hdb
theorem pe_mt (cl : Cls X.K C) (hm : Meth X.K C m f) (c : Callable X.prog X.w X.K X.mg X.base k f ps dvs sp) (hr : Room k X.A) (he : PE X o ta) (ha : PA X (e :: es) t)
    (hst : starEach (e :: es) X.env = (false, eval e X.env) :: starEach es X.env := by rfl) (hpl : (backTo pos (starEach es X.env)).any (·.1) = false := by rfl)
    (ht : eval (.Call (.Attribute o m apos) (e :: es) [] pos) X.env = (do
      let ov ← eval o X.env
      standAt apos.atName
      let (f, first) ← holding [ov] (getMethod ov m pl)
      callWith pos f first (backTo pos (starEach (e :: es) X.env)) (backToKw pos (keywordEach [] X.env))) := by rfl) :
    PE X (.Call (.Attribute o m apos) (e :: es) [] pos) (tMeth C m sp dvs E0 ta t) := by
  obtain ⟨fd, ds, F, hd, hb, hk⟩ := c
  exact pe_meth he cl hm F hr hb hd pass0 ha hst hpl ht
theorem pe_mt0 (cl : Cls X.K C) (hm : Meth X.K C m f) (c : Callable X.prog X.w X.K X.mg X.base k f ps dvs sp) (hr : Room k X.A) (he : PE X o ta)
    (ht : eval (.Call (.Attribute o m apos) [] [] pos) X.env = (do
      let ov ← eval o X.env
      standAt apos.atName
      let (f, first) ← holding [ov] (getMethod ov m pl)
      callWith pos f first (backTo pos (starEach [] X.env)) (backToKw pos (keywordEach [] X.env))) := by rfl) :
    PE X (.Call (.Attribute o m apos) [] [] pos) (tMeth C m sp dvs E0 ta tNil) := by
  obtain ⟨fd, ds, F, hd, hb, hk⟩ := c
  exact pe_meth0 he cl hm F hr hb hd pass0 ht
theorem pe_mk (M : Mk X.K C f) (hm : X.mg x = some (.ref C)) (c : Callable X.prog X.w X.K X.mg X.base k f ps dvs sp) (hr : Room (k + 1) X.A) (hg : Gl X x) (ha : PA X (e :: es) t) (hdb : (x == ("__debug__" : Str)) = false := by decide)
    (he : starEach (e :: es) X.env = (false, eval e X.env) :: starEach es X.env := by rfl) (hpl : (backTo pos (starEach es X.env)).any (·.1) = false := by rfl) : PE X (.Call (.Name x p) (e :: es) [] pos) (tMake C sp dvs E0 t) := by
  obtain ⟨fd, ds, F, hd, hb, hk⟩ := c
  exact pe_make M F hr hg hm hb hd pass0 ha hdb he hpl
theorem pe_mk0 (M : Mk X.K C f) (hm : X.mg x = some (.ref C)) (c : Callable X.prog X.w X.K X.mg X.base k f ps dvs sp) (hr : Room (k + 1) X.A) (hg : Gl X x) (hdb : (x == ("__debug__" : Str)) = false := by decide) : PE X (.Call (.Name x p) [] [] pos) (tMake C sp dvs E0 tNil) := by
  obtain ⟨fd, ds, F, hd, hb, hk⟩ := c
  exact pe_make0 M F hr hg hm hb hd pass0 hdb
theorem pe_cf (cf : RA.CFun X.K C m f) (c : Callable X.prog X.w X.K X.mg X.base k f ps dvs sp) (hr : Room k X.A) (he : PE X o ta) (ha : PA X (e :: es) t)
    (hst : starEach (e :: es) X.env = (false, eval e X.env) :: starEach es X.env := by rfl) (hpl : (backTo pos (starEach es X.env)).any (·.1) = false := by rfl)
    (ht : eval (.Call (.Attribute o m apos) (e :: es) [] pos) X.env = (do
      let ov ← eval o X.env
      standAt apos.atName
      let (f, first) ← holding [ov] (getMethod ov m pl)
      callWith pos f first (backTo pos (starEach (e :: es) X.env)) (backToKw pos (keywordEach [] X.env))) := by rfl) :
    PE X (.Call (.Attribute o m apos) (e :: es) [] pos) (RA.tCFun C sp dvs E0 ta t) := by
  obtain ⟨fd, ds, F, hd, hb, hk⟩ := c
  exact RA.pe_cfun he cf F hr hb hd pass0 ha hst hpl ht
end
section
variable {P : Program} {w : World} {K : PySem.W.Frag} {mg : Str → Option Value} {base : Heap} {x qual : Str} {params : Arguments} {body : List Stmt} {scope : Scope} {dvs : List V} {f : Addr} {k : Nat} {N ps : List Str} {sp : Sp}
/-- a def that stands there -/
def Stands (K : PySem.W.Frag) (x qual : Str) (st : Stmt) (dvs : List V) (f : Addr) : Prop := ∃ fd, FunD K x qual (defArgs st) (defBody st) (defScope st) dvs [] f fd
/-- THE RULE for a def, whatever its defaults: what it promises of every call; bind: how its arguments bind with the first n parameters given -/
theorem Stands.call {st : Stmt} (F : Stands K x qual st dvs f) (S : FnScope N ps (defScope st)) (n j : Nat) (len : ∀ vs H Q E, sp vs H Q E → vs.length = ps.length)
    (hbody : ∀ (cdv : Value) (A : Around) (outer : List Env) (s : Shared) (H : Hp) (vs : List V) (Q : VK) (E : XK), Room k (A.deeper (envOfC qual (defScope st) s.heap.objs.size f cdv)) → sp vs H Q E →
      ∃ t, PSs (cxOf CX0 P w K mg base N qual (defScope st) f cdv A outer s H E).nox (defBody st) t ∧ t { nx := fun _ H' => Q .non H', rt := Q } (start N vs) H)
    (h0 : dvs = [] → n = ps.length ∧ ∀ (kV doc pm : Value) (an : Option Addr) (cdv ct : Value) (us : List Value), us.length = ps.length → bindArgs (PySem.W.fnOf x qual (defArgs st) (defBody st) (defScope st) .none kV doc pm an cdv ct) ⟨us, []⟩ = pure (ps.zip us))
    (h1 : dvs ≠ [] → n + (dvs.length - j) = ps.length ∧ ∀ (T : Addr) (kV doc pm : Value) (an : Option Addr) (cdv ct : Value) (us its : List Value), us.length = n → its.length = dvs.length →
      ∃ k, bindArgs (PySem.W.fnOf x qual (defArgs st) (defBody st) (defScope st) (.ref T) kV doc pm an cdv ct) ⟨us, []⟩ = seqItems? (.ref T) >>= k ∧ k (some its.toArray) = pure (ps.zip (us ++ its.drop j))) :
    Callable P w K mg base (k + 1) f ps (dvs.drop j) sp := by
  obtain ⟨fd, F⟩ := F
  have ok : FnOk P w K mg base CX0 (k + 1) f fd ps sp := F.ok S len fun cdv A outer s H vs Q E hr hsp => by
    obtain ⟨t, h, q⟩ := hbody cdv A outer s H vs Q E hr hsp
    exact ⟨t, h.nox, q⟩
  by_cases hd : dvs = []
  · subst hd
    exact ⟨fd, [], ok, by rw [List.drop_nil]; exact .nil, F.bindsN (h0 rfl).2, F.kp⟩
  · obtain ⟨ds, hv, hb⟩ := F.binds1 n j hd (h1 hd).1 (h1 hd).2
    exact ⟨fd, ds, ok, hv, hb, F.kp⟩
/-- no defaults -/
theorem Stands.call0 {st : Stmt} (F : Stands K x qual st [] f) (S : FnScope N ps (defScope st)) (len : ∀ vs H Q E, sp vs H Q E → vs.length = ps.length)
    (hbody : ∀ (cdv : Value) (A : Around) (outer : List Env) (s : Shared) (H : Hp) (vs : List V) (Q : VK) (E : XK), Room k (A.deeper (envOfC qual (defScope st) s.heap.objs.size f cdv)) → sp vs H Q E →
      ∃ t, PSs (cxOf CX0 P w K mg base N qual (defScope st) f cdv A outer s H E).nox (defBody st) t ∧ t { nx := fun _ H' => Q .non H', rt := Q } (start N vs) H)
    (h0 : ∀ (kV doc pm : Value) (an : Option Addr) (cdv ct : Value) (us : List Value), us.length = ps.length → bindArgs (PySem.W.fnOf x qual (defArgs st) (defBody st) (defScope st) .none kV doc pm an cdv ct) ⟨us, []⟩ = pure (ps.zip us)) :
    Callable P w K mg base (k + 1) f ps [] sp := by
  obtain ⟨fd, F⟩ := F
  have ok : FnOk P w K mg base CX0 (k + 1) f fd ps sp := F.ok S len fun cdv A outer s H vs Q E hr hsp => by
    obtain ⟨t, h, q⟩ := hbody cdv A outer s H vs Q E hr hsp
    exact ⟨t, h.nox, q⟩
  exact ⟨fd, [], ok, .nil, F.bindsN h0, F.kp⟩
theorem Callable.imp {sp' : Sp} {dv : List V} (c : Callable P w K mg base k f ps dv sp) (h : ∀ vs H Q E, sp' vs H Q E → sp vs H Q E) : Callable P w K mg base k f ps dv sp' :=
  let ⟨fd, ds, F, r⟩ := c
  ⟨fd, ds, F.imp h, r⟩
theorem Callable.up {j : Nat} {dv : List V} (c : Callable P w K mg base j f ps dv sp) (h : j ≤ k) : Callable P w K mg base k f ps dv sp :=
  let ⟨fd, ds, F, r⟩ := c
  ⟨fd, ds, F.mono h, r⟩
end
/-! ### heaps -/
theorem same_new {H : Hp} {p : Addr} (h : H p = none) (o : HO) : Same H (upd H p o) := fun b u q => by rw [upd_ne (ne_of_none q h)]; exact q
theorem _root_.L2.Same.seqT {K : PySem.W.Frag} {H H' : Hp} {a : Addr} {xs : List V} (e : Same H H') (h : SqT K H a xs) : SqT K H' a xs := by
  rcases h with (h | ⟨o, h⟩) | h
  · exact .inl (.inl (e _ _ h))
  · exact .inl (.inr ⟨o, e _ _ h⟩)
  · exact .inr h
theorem upd_none {H : Hp} {a p : Addr} {o : HO} (h : upd H a o p = none) : p ≠ a ∧ H p = none := by
  by_cases e : p = a
  · subst e; rw [upd_same] at h; cases h
  · rw [upd_ne e] at h; exact ⟨e, h⟩
/-! ### the stream of draws -/
/-- the law's stream at s: its list of ints at l, the number at hand, how many were made up, the seed; n: a bound of those made up -/
def Stm (H : Hp) (s l : Addr) (n : Nat) : Prop := s ≠ l ∧ ∃ (ns : List Int) (x c d : Int), H s = some (.lst [.ref l, .int x, .int c, .int d]) ∧ H l = some (.lst (ns.map V.int)) ∧ ns.length ≤ 63 ∧ 0 ≤ x ∧ 0 ≤ c ∧ c ≤ n ∧ 0 ≤ d ∧ d < 2147483647
theorem Stm.mono {H : Hp} {s l : Addr} {n m : Nat} (h : Stm H s l n) (k : n ≤ m) : Stm H s l m := by
  obtain ⟨ne, ns, x, c, d, h1, h2, h3, h4, h5, h6, h7, h8⟩ := h
  exact ⟨ne, ns, x, c, d, h1, h2, h3, h4, h5, by omega, h7, h8⟩
theorem Stm.same {H H' : Hp} {s l : Addr} {n : Nat} (h : Stm H s l n) (k : Same H H') : Stm H' s l n := by
  obtain ⟨ne, ns, x, c, d, h1, h2, h3⟩ := h
  exact ⟨ne, ns, x, c, d, k _ _ h1, k _ _ h2, h3⟩
/-- all but the stream is as it was -/
def But (s l : Addr) (H H' : Hp) : Prop := ∀ b, b ≠ s → b ≠ l → H' b = H b
/-- all that was there but the stream is as it was -/
def Old (s l : Addr) (H H' : Hp) : Prop := ∀ b o, b ≠ s → b ≠ l → H b = some o → H' b = some o
theorem But.old {s l : Addr} {H H' : Hp} (h : But s l H H') : Old s l H H' := fun b o h1 h2 e => by rw [h b h1 h2]; exact e
theorem Old.refl {s l : Addr} (H : Hp) : Old s l H H := fun _ _ _ _ e => e
theorem Old.trans {s l : Addr} {H H1 H2 : Hp} (a : Old s l H H1) (b : Old s l H1 H2) : Old s l H H2 := fun c o h1 h2 e => b c o h1 h2 (a c o h1 h2 e)
theorem Old.of_same {s l : Addr} {H H' : Hp} (h : Same H H') : Old s l H H' := fun b o _ _ e => h b o e
section
variable {X : Cx} {x : Str} {pos : Pos}
theorem pe_gi {i : Int} (hg : Gl X x) (hm : ∃ t, X.mg x = some (.int i t)) (hd : (x == ("__debug__" : Str)) = false := by decide) : PE X (.Name x pos) (tC (.int i)) := by
  obtain ⟨t, h⟩ := hm
  exact pe_glob hg h ⟨t, rfl⟩ (by first | assumption | exact hd)
theorem pe_gs {z : Str} (hg : Gl X x) (hm : ∃ t, X.mg x = some (.str z t)) (hd : (x == ("__debug__" : Str)) = false := by decide) : PE X (.Name x pos) (tC (.str z)) := by
  obtain ⟨t, h⟩ := hm
  exact pe_glob hg h ⟨t, rfl⟩ (by first | assumption | exact hd)
end
/-! ### in a comprehension's block the written part is the def's own: rules that name it -/
section
variable {X : Cx} {K : PySem.W.Frag}
theorem opK (r : PySem.W.Frag → R2) {f : Value → Value → Sem Value} (h : OpR X f (r X.K)) (e : X.K = K := by rfl) : OpR X f (r K) := e ▸ h
theorem callK (r : PySem.W.Frag → List V → Hp → VK → Prop) {f : Value} (h : CallR X f (r X.K)) (e : X.K = K := by rfl) : CallR X f (r K) := e ▸ h
theorem ixK (r : PySem.W.Frag → R2) (h : IxR X (r X.K)) (e : X.K = K := by rfl) : IxR X (r K) := e ▸ h
theorem pe_fldK {e : Expr} {f : Str} {pos : Pos} {ta : TE} (he : PE X e ta) (hb : attributeBase e f X.env (eval e X.env) = eval e X.env) (z : X.K = K := by rfl) : PE X (.Attribute e f pos) (tFld K ta f) := z ▸ pe_fld he hb
end
/-- an expression that is never reached -/
def tNo : TE := fun _ _ _ => False
theorem pe_never {X : Cx} {e : Expr} : PE X e tNo := ⟨fun _ _ _ _ _ _ h => h.elim⟩
def tNoT : TT := fun _ _ _ => False
theorem pt_never {X : Cx} {e : Expr} : PT X e tNoT := ⟨fun _ _ _ _ _ _ h => h.elim⟩
theorem tyx_tup {K : PySem.W.Frag} {H : Hp} {a : Addr} {xs : List V} (h : SqT K H a xs) : TyX K H (.ref a) (.type "tuple") := by
  rcases h with (h | ⟨o, h⟩) | ⟨o, its, n, h, c, _⟩
  · exact .base (.tup h)
  · exact .fTuple h
  · exact .kTuple h c
theorem tyx_lst {K : PySem.W.Frag} {H : Hp} {a : Addr} {xs : List V} (h : SqL K H a xs) : TyX K H (.ref a) (.type "list") := by
  rcases h with (h | ⟨o, h⟩) | ⟨o, its, n, h, c, _⟩
  · exact .base (.lst h)
  · exact .base (.frz h)
  · exact .kList h c
/-- behind a lock all is as it was but the new -/
theorem unlock {H : Hp} {d D : Addr} {f u o : HO} (hd : H d = some u) (hD : upd H d f D = none) : upd (upd (upd H d f) D o) d u = upd H D o := by
  have ne : D ≠ d := (upd_none hD).1
  funext b
  by_cases e : b = d
  · subst e; rw [upd_same, upd_ne (Ne.symm ne)]; exact hd.symm
  · rw [upd_ne e]
    by_cases z : b = D
    · subst z; rw [upd_same, upd_same]
    · rw [upd_ne z, upd_ne z, upd_ne e]
theorem iteT' {c : Bool} {A B : Prop} (hc : c = true) (h : A) : if c = true then A else B := by rw [if_pos hc]; exact h
theorem iteF' {c : Bool} {A B : Prop} (hc : c = false) (h : B) : if c = true then A else B := by rw [if_neg (by rw [hc]; exact Bool.false_ne_true)]; exact h
end RC

set_option Elab.async false
set_option linter.all false
set_option maxRecDepth 100000
set_option maxHeartbeats 4000000
/-! Further rules: two lists of the same objects are equal; a text times an int. -/
namespace RD
open PySem PySem.Spec PyProof.Rows PySem.SeqAt L2
def rNeRefs (K : PySem.W.Frag) : R2 := fun x y H Q => ∃ (a b : Addr) (as : List Addr), x = .ref a ∧ y = .ref b ∧ SqL K H a (as.map V.ref) ∧ SqL K H b (as.map V.ref) ∧ Q (.bl false) H
def rEqRefs (K : PySem.W.Frag) : R2 := fun x y H Q => ∃ (a b : Addr) (as : List Addr), x = .ref a ∧ y = .ref b ∧ SqL K H a (as.map V.ref) ∧ SqL K H b (as.map V.ref) ∧ Q (.bl true) H
def rMulS : R2 := fun x y H Q => ∃ (i : Str) (k : Int), x = .str i ∧ y = .int k ∧ PySem.MulOk i k ∧ Q (.str (Txt.mul i k)) H
section
variable {X : Cx}
theorem vals_refs : ∀ {as : List Addr} {us : List Value}, Vals (as.map V.ref) us → us = as.map Value.ref
  | [], _, .nil => rfl
  | a :: as, _, .cons r t => by
    cases r
    rw [vals_refs t]; rfl
theorem all_true (n : Nat) : (List.range n).all (fun _ => true) = true := by simp
theorem op_neRefs (hu : X.A.units < cLine) : OpR X (compareOp .NotEq) (rNeRefs X.K) := by
  intro pins s σ H x y v u Q I rx ry h
  obtain ⟨a, b, as, rfl, rfl, ha, hb, q⟩ := h
  cases rx
  cases ry
  obtain ⟨its, rv, hl, _⟩ := I.list ha
  obtain ⟨its2, rv2, hl2, _⟩ := I.list hb
  obtain rfl := vals_refs rv
  obtain rfl := vals_refs rv2
  refine RcNeAt.lists (e := fun _ => true) hl.isList hl2.isList rfl hu (fun j h1 h2 => EqAt.same _) X.prog X.w X.xe _ ?_
  rw [all_true]
  exact fin_bl I q rfl
theorem op_eqRefs (hu : X.A.units < cLine) : OpR X (compareOp .Eq) (rEqRefs X.K) := by
  intro pins s σ H x y v u Q I rx ry h
  obtain ⟨a, b, as, rfl, rfl, ha, hb, q⟩ := h
  cases rx
  cases ry
  obtain ⟨its, rv, hl, _⟩ := I.list ha
  obtain ⟨its2, rv2, hl2, _⟩ := I.list hb
  obtain rfl := vals_refs rv
  obtain rfl := vals_refs rv2
  refine eq_listAt (e := fun _ => true) hl.isList hl2.isList rfl hu (fun j h1 h2 => EqAt.same _) ?_
  rw [all_true]
  exact fin_bl I q rfl
theorem op_mulS : OpR X (binaryOp .Mult) rMulS := by
  intro pins s σ H x y v u Q I rx ry h
  obtain ⟨i, k, rfl, rfl, hk, q⟩ := h
  obtain ⟨t, rfl⟩ := rx
  obtain ⟨t', rfl⟩ := ry
  exact PySem.SB.mul hk fun t2 k2 => ⟨.str (Txt.mul i k), H, I.tok k2, ⟨_, rfl⟩, q⟩
end
end RD

set_option Elab.async false
set_option linter.all false
set_option maxRecDepth 100000
set_option maxHeartbeats 4000000
/-! Rows of texts in order: there is one alone. -/
namespace RE
open PySem PySem.Spec PyProof.Rows L2
def le (a b : List Nat) : Prop := ltCps b a = false
theorem lt_split : ∀ (a b c : List Nat), ltCps a c = true → ltCps a b = true ∨ ltCps b c = true
  | [], [], c, h => .inr h
  | [], _ :: _, _, _ => .inl rfl
  | _ :: _, _, [], h => nomatch h
  | x :: a, [], z :: c, h => .inr rfl
  | x :: a, y :: b, z :: c, h => by
    have h : (decide (x < z) || (x == z && ltCps a c)) = true := h
    show (decide (x < y) || (x == y && ltCps a b)) = true ∨ (decide (y < z) || (y == z && ltCps b c)) = true
    rcases Nat.lt_trichotomy x y with h1 | h1 | h1
    · exact .inl (by rw [decide_eq_true h1]; rfl)
    · subst h1
      rcases Bool.or_eq_true_iff.mp h with h2 | h2
      · exact .inr (by rw [h2]; rfl)
      · obtain ⟨h3, h4⟩ := Bool.and_eq_true_iff.mp h2
        rcases lt_split a b c h4 with h5 | h5
        · exact .inl (by rw [h5]; simp)
        · exact .inr (by rw [h3, h5]; simp)
    · have h6 : y < z := by
        rcases Bool.or_eq_true_iff.mp h with h2 | h2
        · exact Nat.lt_trans h1 (of_decide_eq_true h2)
        · obtain ⟨h3, _⟩ := Bool.and_eq_true_iff.mp h2
          rw [← eq_of_beq h3]; exact h1
      exact .inr (by rw [decide_eq_true h6]; rfl)
theorem le_trans {a b c : List Nat} (h1 : le a b) (h2 : le b c) : le a c := by
  unfold le at *
  cases e : ltCps c a with
  | false => rfl
  | true =>
    rcases lt_split c b a e with h | h
    · rw [h2] at h; cases h
    · rw [h1] at h; cases h
theorem le_anti : ∀ {a b : List Nat}, le a b → le b a → a = b
  | [], [], _, _ => rfl
  | [], _ :: _, _, h => nomatch h
  | _ :: _, [], h, _ => nomatch h
  | x :: a, y :: b, h1, h2 => by
    have h1 : (decide (y < x) || (y == x && ltCps b a)) = false := h1
    have h2 : (decide (x < y) || (x == y && ltCps a b)) = false := h2
    rw [Bool.or_eq_false_iff] at h1 h2
    have e : x = y := by
      have a1 := of_decide_eq_false h1.1
      have a2 := of_decide_eq_false h2.1
      omega
    subst e
    have h3 : ltCps b a = false := by have := h1.2; simpa using this
    have h4 : ltCps a b = false := by have := h2.2; simpa using this
    rw [le_anti (a := a) (b := b) h3 h4]
def leS (a b : Str) : Prop := le (TL.tl a) (TL.tl b)
theorem rising : ∀ (p : Str) (l : List Str), risingS p l = true → (p :: l).Pairwise leS
  | p, [], _ => List.pairwise_singleton _ _
  | p, x :: r, h => by
    have h : (!ltCps x.cps.toList p.cps.toList && risingS x r) = true := h
    obtain ⟨h1, h2⟩ := Bool.and_eq_true_iff.mp h
    have i := rising x r h2
    refine List.pairwise_cons.mpr ⟨fun z hz => ?_, i⟩
    have a : leS p x := by
      show ltCps (TL.tl x) (TL.tl p) = false
      have h1 : (!ltCps (TL.tl x) (TL.tl p)) = true := h1
      cases e : ltCps (TL.tl x) (TL.tl p) with
      | false => rfl
      | true => rw [e] at h1; cases h1
    rcases List.mem_cons.mp hz with rfl | hz
    · exact a
    · exact le_trans a ((List.pairwise_cons.mp i).1 z hz)
theorem sorted_pw : ∀ {l : List Str}, sortedS l = true → l.Pairwise leS
  | [], _ => List.Pairwise.nil
  | x :: r, h => rising x r h
theorem uniq : ∀ {l m : List Str}, l.Perm m → l.Pairwise leS → m.Pairwise leS → l = m
  | [], m, hp, _, _ => by rw [List.nil_perm.mp hp]
  | x :: r, m, hp, h1, h2 => by
    cases m with
    | nil => exact absurd hp.length_eq (by simp)
    | cons y t =>
      obtain ⟨a1, a2⟩ := List.pairwise_cons.mp h1
      obtain ⟨b1, b2⟩ := List.pairwise_cons.mp h2
      have e : x = y := by
        have hx : x ∈ y :: t := hp.mem_iff.mp List.mem_cons_self
        have hy : y ∈ x :: r := hp.mem_iff.mpr List.mem_cons_self
        rcases List.mem_cons.mp hx with rfl | hx
        · rfl
        rcases List.mem_cons.mp hy with rfl | hy
        · rfl
        exact TL.ext_tl (le_anti (a1 y hy) (b1 x hx))
      subst e
      rw [uniq ((List.perm_cons x).mp hp) a2 b2]
/-- a sorted row's part is that part, sorted -/
theorem sorted_filter {xs ys zs : List Str} {p : Str → Bool} (h1 : ys.Perm xs) (h2 : sortedS ys = true) (h3 : zs.Perm (xs.filter p)) (h4 : sortedS zs = true) : zs = ys.filter p :=
  uniq (h3.trans (h1.symm.filter p)) (sorted_pw h4) ((sorted_pw h2).filter p)
end RE

set_option Elab.async false
set_option linter.all false
set_option maxRecDepth 100000
set_option maxHeartbeats 4000000
/-! Further rules of dicts: d.update(d2). -/
namespace RF
open PySem PySem.Spec PyProof.Rows L2
def rUpdD : V → List V → Hp → VK → Prop := fun x xs H Q => ∃ (d o : Addr) (kvs more : List (Key × V)), x = .ref d ∧ xs = [.ref o] ∧ H d = some (.dK kvs) ∧ Rd H o (.dK more) ∧ d ≠ o ∧ kvs.length + more.length ≤ sizeLine ∧ (mergeK kvs more).length ≤ sizeLine ∧ Q .non (upd H d (.dK (mergeK kvs more)))
theorem mt_updD {X : Cx} : MtR X "dict.update" rUpdD := by
  intro pins s σ H x xs v us Q I rx rxs h
  obtain ⟨d, o, kvs, more, rfl, rfl, hd, ho, hne, hl, hl2, q⟩ := h
  cases rx
  obtain rfl := Vals.ref1 rxs
  obtain ⟨z, lo, vs, rel, dd⟩ := dk_of I.hok hd
  obtain ⟨z2, lo2, vs2, rel2, dd2⟩ := dk_rd I.hok ho
  refine call_meetsIn PySem.F.slot_dict_update dd.typeIs PySem.F.entry_dict_update (PySem.F.args_dict_update_2 _ _) (meets_dict_update (mixKind X.prog X.w) d o hne lo2)
    ⟨vs, vs2, dd, dd2, (by rw [← rel.length, ← rel2.length]; exact hl), fun h' hmm _ hs => ?_⟩
  have he : ∃ q, h'.get? d = some q := let ⟨q, _, _, hq, _⟩ := hmm; ⟨q, hq⟩
  refine d_write I (by rw [hd]; exact True.intro) hs he (dk_new hl2 lo (KV.merge rel2 rel) hmm) |> fun I' => ⟨.non, _, I', rfl, q⟩
/-- list(o.values()) -/
def tListVals (td : TE) : TE := fun σ H Q => td σ H fun x H1 => ∃ a kvs, x = V.ref a ∧ H1 a = some (.dK kvs) ∧ ∀ q, H1 q = none → Q (.ref q) (upd H1 q (.lst (kvs.map (·.2))))
section
variable {X : Cx} {o : Expr} {p pos apos mpos : Pos} {td : TE}
theorem pe_listVals (hc : X.calm = true) (hg : Gl X "list") (hm : X.mg "list" = none) (hd : PE X o td) (hbase : attributeBase o "values" X.env (eval o X.env) = eval o X.env := by rfl) (hline : (apos.endLine == mpos.line) = true := by rfl)
    (hse : starEach [Expr.Call (.Attribute o "values" apos) [] [] mpos] X.env = [(false, eval (Expr.Call (.Attribute o "values" apos) [] [] mpos) X.env)] := by rfl) :
    PE X (.Call (.Name "list" p) [.Call (.Attribute o "values" apos) [] [] mpos] [] pos) (tListVals td) := by
  refine ⟨fun pins s σ H Q I h => ?_⟩
  refine wpAny_Call_Name_kw (ld_blt I hg hm (u := .type "list") (by first | rfl | decide +kernel) ?_ (by first | decide +kernel | decide) (by first | decide +kernel | decide))
  rw [hse]
  refine PySem.callWith_type1 (wpAny_Call_method0_late hbase hline (thn (hd.run pins s σ H _ I h) fun v s1 ⟨x, H1, I1, r1, a, kvs, ex, ha, q⟩ => ?_))
  subst ex
  obtain rfl : v = Value.ref a := r1
  obtain ⟨z, hsys, vs, rel, dof⟩ := dk_of I1.hok ha
  obtain ⟨ep, dat⟩ := dof.dictAt
  have dat' := dat
  obtain ⟨ob, es, ho, ex, hdat, hko, hpr, hnd⟩ := dat'
  refine ⟨"dict", "dict.values", F.plainAttrs_dict, F.slot_dict_values, F.type_dict_values, ⟨ob, ho, ex.1⟩, fun b e => ?_, Calls.callWith_builtin rfl (PySem.evalArgs_none ?_)⟩
  · cases e
    exact ⟨ob, ho, ex.2.1⟩
  refine call_meetsIn F.slot_dict_values ⟨ob, ho, ex.1⟩ F.entry_dict_values (F.args_dict_values_1 _) (meets_dict_values (mixKind X.prog X.w) a hsys) ⟨⟨vs, dof⟩, ?_⟩
  have k1 : ∀ b u, s1.heap.get? b = some u → (s1.heap.push { cls := .type "dict_values", data := .fields #[.ref a] }).get? b = some u := fun b u e => Heap.get?_push_of_some _ e
  have dat1 : (s1.heap.push { cls := .type "dict_values", data := .fields #[.ref a] }).DictAt (mixKind X.prog X.w) a vs ep := dat.keep k1
  have I2 : Inv X pins σ H1 { s1 with heap := s1.heap.push { cls := .type "dict_values", data := .fields #[.ref a] } } := I1.kept (t' := s1.toks) k1
  have hl : kvs.length = vs.length := Paired.length rel
  refine PySem.W.kdl_call (PySem.W.kdl_values (knd := mixKind X.prog X.w) (r := s1.heap.objs.size) (d := a) (kvs := vs) (ep := ep)) (I1.ok.hd hc) ⟨⟨_, Heap.get?_push_size _ rfl, rfl, rfl⟩, dat1⟩ (by rw [← hl]; exact z) fun h' tk acc' c' hkeep hS hacc => ?_
  refine ⟨.ref _, upd H1 _ (.lst (kvs.map (·.2))), I2.laid hkeep (Nat.le_refl _) (show ObjOk X.prog X.w _ _ _ (.lst (kvs.map (·.2))) from ⟨?_, acc'.toList, c', ?_, ?_⟩), rfl, q _ (I2.hok.fresh (Nat.le_refl _))⟩
  · rw [List.length_map]; exact z
  · have el : acc'.toList.length = acc'.size := by simp
    refine vals_of_at (by rw [List.length_map, el, hacc.1, hl]) fun j x w h1 h2 => ?_
    obtain ⟨k, hk⟩ := hacc.2 j w (by rw [← Array.getElem?_toList]; exact h2)
    obtain ⟨x', h3, h4⟩ := KV.at' rel hk
    rw [List.getElem?_map, h3] at h1
    cases h1
    exact h4
  · rw [Array.toArray_toList]; exact hS
end
/-- d[i] = v as one of several targets -/
def rSetD : TSet := fun o i v H Q => ∃ (a : Addr) (H' : Hp), o = .ref a ∧ DPut H a i v H' ∧ Q H'
theorem set_dict {X : Cx} (hu : X.A.units + 1 < cLine) : PSet X rSetD := by
  intro pins s σ H o i v ov iv u Q I ro ri rv h
  obtain ⟨a, H', rfl, g, q⟩ := h
  cases ro
  exact d_setItem hu I g ri rv fun s' I' => ⟨H', I', q⟩
end RF

set_option Elab.async false
set_option linter.all false
set_option maxRecDepth 100000
set_option maxHeartbeats 4000000
/-! Rules that name the written part, for a comprehension's block. -/
namespace RG
open PySem PySem.Spec PyProof.Rows L2
theorem pg_tupK {X : Cx} {K : PySem.W.Frag} {es : List Expr} {k n : Nat} {pos : Pos} {t : TGs} (hc : X.calm = true) (h : PGs X es t) (hn : (assignEach es X.env).length = n := by rfl) (hst : (assignEach es X.env).findIdx? (·.1) = none := by rfl) (z : X.K = K := by rfl) :
    PG X (.Tuple es k pos) (gTup K n t) := z ▸ pg_tup hc h hn hst
end RG

set_option Elab.async false
set_option linter.all false
set_option maxRecDepth 100000
set_option maxHeartbeats 4000000
/-! What a walk by itself leans on: facts of the heap carried over changes. -/
namespace RW
open PySem PySem.Spec PyProof.Rows L2 RC
section
variable {H H1 H2 : Hp} {p q s l : Addr} {o o' u : HO}
theorem at_same (e : Same H H1) (h : H p = some o) : H1 p = some o := e _ _ h
theorem at_old (e : Old s l H H1) (h1 : p ≠ s) (h2 : p ≠ l) (h : H p = some o) : H1 p = some o := e _ _ h1 h2 h
theorem at_upd (n : q ≠ p) (h : H q = some u) : upd H p o q = some u := by rw [upd_ne n]; exact h
theorem no_upd (n : q ≠ p) (h : H q = none) : upd H p o q = none := by rw [upd_ne n]; exact h
theorem ne_new (h : H p = none) (h2 : H q = some u) : q ≠ p := ne_of_none h2 h
theorem ne_new' (h : H p = none) (h2 : H q = some u) : p ≠ q := Ne.symm (ne_of_none h2 h)
theorem ne_kind (h : H p = some o) (h' : H q = some u) (n : o ≠ u) : p ≠ q := fun z => n (by rw [z] at h; exact Option.some.inj (h.symm.trans h'))
theorem same_put_new (e : Same H H1) (h : H1 p = none) : Same H (upd H1 p o) := e.trans (same_new h o)
theorem same_put (e : Same H H1) (h : H p = none) : Same H (upd H1 p o) := fun b x hb => by rw [upd_ne (ne_of_none hb h)]; exact e _ _ hb
theorem same_then (h : Same H1 H2) (e : Same H H1) : Same H H2 := e.trans h
theorem free_same (e : Same H H1) (h : H1 p = none) : H p = none := e.free h
theorem free_upd (h : upd H p o q = none) : H q = none := (upd_none h).2
theorem ne_upd (h : upd H p o q = none) : q ≠ p := (upd_none h).1
theorem some_ref {xs : List V} {K : PySem.W.Frag} (h : H p = some (.lst xs)) : SqL K H p xs := SqL.of h
theorem rd_of (h : H p = some o) : Rd H p o := .inl h
theorem fr {R : Addr → Prop} (h : ∀ x, H x = none → x ≠ p → R x) : ∀ x, upd H p o x = none → R x := fun x hx => h x (upd_none hx).2 (upd_none hx).1
theorem fr_same {R : Addr → Prop} (e : Same H H1) (h : ∀ x, H x = none → H1 x = none → R x) : ∀ x, H1 x = none → R x := fun x hx => h x (e.free hx) hx
theorem gHp (h : H p = some o) : H p = some o := h
theorem gStm {n : Nat} (h : Stm H s l n) : Stm H s l n := h
theorem stm_upd {n : Nat} (h1 : p ≠ s) (h2 : p ≠ l) (h : Stm H s l n) : Stm (upd H p o) s l n := by
  obtain ⟨ne, ns, x, c, d, g1, g2, g3⟩ := h
  exact ⟨ne, ns, x, c, d, by rw [upd_ne (Ne.symm h1)]; exact g1, by rw [upd_ne (Ne.symm h2)]; exact g2, g3⟩
theorem stm_at {n : Nat} (h : Stm H s l n) : (∃ o, H s = some o) ∧ (∃ o, H l = some o) ∧ s ≠ l := by
  obtain ⟨ne, ns, x, c, d, g1, g2, g3⟩ := h
  exact ⟨⟨_, g1⟩, ⟨_, g2⟩, ne⟩
theorem stm_same {n : Nat} (h : Stm H s l n) (e : Same H H1) : Stm H1 s l n := h.same e
theorem old_upd (e : Old s l H H1) (h : H p = none) : Old s l H (upd H1 p o) := fun b x h1 h2 hb => by rw [upd_ne (ne_of_none hb h)]; exact e _ _ h1 h2 hb
theorem old_same (e : Old s l H H1) (h : Same H1 H2) : Old s l H H2 := fun b x h1 h2 hb => h _ _ (e _ _ h1 h2 hb)
theorem old_then (h : Old s l H1 H2) (e : Old s l H H1) : Old s l H H2 := e.trans h
theorem old_of (e : Same H H1) : Old s l H H1 := Old.of_same e
theorem gOld (h : Old s l H H1) : Old s l H H1 := h
theorem gCp {i j : Int} (h : 0 ≤ j ∧ j ≤ 1000000 ∧ i.natAbs < 2 ^ 64) : CPow i j := h
theorem gNe (h : p ≠ q) : p ≠ q := h
theorem isMut {d : Addr} {w : HO} {R : Prop} (h : H d = some w ∧ Mut (H d) ∧ R) : H d = some w ∧ Mut (H d) ∧ R := h
theorem isMut2 {d : Addr} {w : HO} {R : Prop} (h : H d = some w ∧ Mut (some w) ∧ R) : H d = some w ∧ Mut (some w) ∧ R := h
theorem gSm (h : Same H H1) : Same H H1 := h
theorem gCls {K : PySem.W.Frag} {C : Addr} (h : Cls K C) : Cls K C := h
theorem gNo {K : PySem.W.Frag} {C : Addr} {f : Str} (h : NoAttr K C f) : NoAttr K C f := h
theorem gCv {c : V} {u : Value} (h : ClsV c u) : ClsV c u := h
theorem gTy {K : PySem.W.Frag} {c : V} {u : Value} (h : TyX K H c u) : TyX K H c u := h
theorem gKit {K : PySem.W.Frag} {t c : Value} {b : Bool} (h : PySem.W.kitOne K t c = some b) : PySem.W.kitOne K t c = some b := h
theorem gKita {K : PySem.W.Frag} {t : Value} {c : List Value} {b : Bool} (h : PySem.W.kitAny K t c = some b) : PySem.W.kitAny K t c = some b := h
theorem gSl {K : PySem.W.Frag} {xs : List V} (h : SqL K H p xs) : SqL K H p xs := h
theorem gSt {K : PySem.W.Frag} {xs : List V} (h : SqT K H p xs) : SqT K H p xs := h
theorem gPr {cs : List V} {us : List Value} (h : Paired ClsV cs us) : Paired ClsV cs us := h
theorem gKi {K : PySem.W.Frag} {t : Value} {b : Bool} (h : PySem.W.kitOne K t (.type "int") = some b) : PySem.W.kitOne K t (.type "int") = some b := h
theorem gKb {K : PySem.W.Frag} {t : Value} {b : Bool} (h : PySem.W.kitOne K t (.type "bool") = some b) : PySem.W.kitOne K t (.type "bool") = some b := h
theorem gKs {K : PySem.W.Frag} {t : Value} {b : Bool} (h : PySem.W.kitOne K t (.type "str") = some b) : PySem.W.kitOne K t (.type "str") = some b := h
theorem gKl {K : PySem.W.Frag} {t : Value} {b : Bool} (h : PySem.W.kitOne K t (.type "list") = some b) : PySem.W.kitOne K t (.type "list") = some b := h
theorem gKt {K : PySem.W.Frag} {t : Value} {b : Bool} (h : PySem.W.kitOne K t (.type "tuple") = some b) : PySem.W.kitOne K t (.type "tuple") = some b := h
theorem gKd {K : PySem.W.Frag} {t : Value} {b : Bool} (h : PySem.W.kitOne K t (.type "dict") = some b) : PySem.W.kitOne K t (.type "dict") = some b := h
theorem cxK {P : Program} {w : World} {K : PySem.W.Frag} {mg : Str → Option Value} {base : Heap} {N : List Str} {qual : Str} {scope : Scope} {f : Addr} {cd : Value} {A : Around} {outer : List Env} {sh : Shared} {E : XK} :
    (cxOf CX0 P w K mg base N qual scope f cd A outer sh H E).nox.K = K := rfl
end
section
variable {H : Hp} {K : PySem.W.Frag} {a p : Addr} {kvs : List (Key × V)} {x y : Str} {i j : Int} {o : Option V} {od : Obj} {v : V} {xs : List V}
theorem dget_s (h : H a = some (.dK kvs)) (e : valV kvs (Sum.inr x) = o) : DGet H a (.str x) o := .inl ⟨kvs, Sum.inr x, .inl h, rfl, e.symm⟩
theorem dget_i (h : H a = some (.dK kvs)) (e : valV kvs (Sum.inl i) = o) : DGet H a (.int i) o := .inl ⟨kvs, Sum.inl i, .inl h, rfl, e.symm⟩
theorem dget_sF (h : H a = some (.frz od (.dK kvs))) (e : valV kvs (Sum.inr x) = o) : DGet H a (.str x) o := .inl ⟨kvs, Sum.inr x, .inr ⟨od, h⟩, rfl, e.symm⟩
theorem dget_sR (h : Rd H a (.dK kvs)) (e : valV kvs (Sum.inr x) = o) : DGet H a (.str x) o := .inl ⟨kvs, Sum.inr x, h, rfl, e.symm⟩
theorem dput_s (h : H a = some (.dK kvs)) (hl : kvs.length < sizeLine) : DPut H a (.str x) v (upd H a (.dK (putK kvs (Sum.inr x) v))) := DPut.k (k := Sum.inr x) h hl
theorem dput_i (h : H a = some (.dK kvs)) (hl : kvs.length < sizeLine) : DPut H a (.int i) v (upd H a (.dK (putK kvs (Sum.inl i) v))) := DPut.k (k := Sum.inl i) h hl
theorem sql_of (h : H p = some (.lst xs)) : ∃ ys, SqL K H p ys := ⟨xs, SqL.of h⟩
theorem sqt_of (h : H p = some (.tup xs)) : ∃ ys, SqT K H p ys := ⟨xs, SqT.of h⟩
theorem disp1 {a0 : Str} {v0 : V} {R : List (Key × V) → Prop} (h : R [((Sum.inr a0 : Key), v0)]) : ∃ kvs : List (Key × V), [(V.str a0, v0)] = kvs.map (fun kv => (kV kv.1, kv.2)) ∧ kvs.length ≤ 15 ∧ R kvs := ⟨[((Sum.inr a0 : Key), v0)], rfl, Nat.le_of_ble_eq_true rfl, h⟩
theorem disp2 {a0 a1 : Str} {v0 v1 : V} {R : List (Key × V) → Prop} (h : R [((Sum.inr a0 : Key), v0), ((Sum.inr a1 : Key), v1)]) : ∃ kvs : List (Key × V), [(V.str a0, v0), (V.str a1, v1)] = kvs.map (fun kv => (kV kv.1, kv.2)) ∧ kvs.length ≤ 15 ∧ R kvs := ⟨[((Sum.inr a0 : Key), v0), ((Sum.inr a1 : Key), v1)], rfl, Nat.le_of_ble_eq_true rfl, h⟩
theorem disp3 {a0 a1 a2 : Str} {v0 v1 v2 : V} {R : List (Key × V) → Prop} (h : R [((Sum.inr a0 : Key), v0), ((Sum.inr a1 : Key), v1), ((Sum.inr a2 : Key), v2)]) : ∃ kvs : List (Key × V), [(V.str a0, v0), (V.str a1, v1), (V.str a2, v2)] = kvs.map (fun kv => (kV kv.1, kv.2)) ∧ kvs.length ≤ 15 ∧ R kvs := ⟨[((Sum.inr a0 : Key), v0), ((Sum.inr a1 : Key), v1), ((Sum.inr a2 : Key), v2)], rfl, Nat.le_of_ble_eq_true rfl, h⟩
theorem disp4 {a0 a1 a2 a3 : Str} {v0 v1 v2 v3 : V} {R : List (Key × V) → Prop} (h : R [((Sum.inr a0 : Key), v0), ((Sum.inr a1 : Key), v1), ((Sum.inr a2 : Key), v2), ((Sum.inr a3 : Key), v3)]) : ∃ kvs : List (Key × V), [(V.str a0, v0), (V.str a1, v1), (V.str a2, v2), (V.str a3, v3)] = kvs.map (fun kv => (kV kv.1, kv.2)) ∧ kvs.length ≤ 15 ∧ R kvs := ⟨[((Sum.inr a0 : Key), v0), ((Sum.inr a1 : Key), v1), ((Sum.inr a2 : Key), v2), ((Sum.inr a3 : Key), v3)], rfl, Nat.le_of_ble_eq_true rfl, h⟩
theorem disp5 {a0 a1 a2 a3 a4 : Str} {v0 v1 v2 v3 v4 : V} {R : List (Key × V) → Prop} (h : R [((Sum.inr a0 : Key), v0), ((Sum.inr a1 : Key), v1), ((Sum.inr a2 : Key), v2), ((Sum.inr a3 : Key), v3), ((Sum.inr a4 : Key), v4)]) : ∃ kvs : List (Key × V), [(V.str a0, v0), (V.str a1, v1), (V.str a2, v2), (V.str a3, v3), (V.str a4, v4)] = kvs.map (fun kv => (kV kv.1, kv.2)) ∧ kvs.length ≤ 15 ∧ R kvs := ⟨[((Sum.inr a0 : Key), v0), ((Sum.inr a1 : Key), v1), ((Sum.inr a2 : Key), v2), ((Sum.inr a3 : Key), v3), ((Sum.inr a4 : Key), v4)], rfl, Nat.le_of_ble_eq_true rfl, h⟩
theorem disp6 {a0 a1 a2 a3 a4 a5 : Str} {v0 v1 v2 v3 v4 v5 : V} {R : List (Key × V) → Prop} (h : R [((Sum.inr a0 : Key), v0), ((Sum.inr a1 : Key), v1), ((Sum.inr a2 : Key), v2), ((Sum.inr a3 : Key), v3), ((Sum.inr a4 : Key), v4), ((Sum.inr a5 : Key), v5)]) : ∃ kvs : List (Key × V), [(V.str a0, v0), (V.str a1, v1), (V.str a2, v2), (V.str a3, v3), (V.str a4, v4), (V.str a5, v5)] = kvs.map (fun kv => (kV kv.1, kv.2)) ∧ kvs.length ≤ 15 ∧ R kvs := ⟨[((Sum.inr a0 : Key), v0), ((Sum.inr a1 : Key), v1), ((Sum.inr a2 : Key), v2), ((Sum.inr a3 : Key), v3), ((Sum.inr a4 : Key), v4), ((Sum.inr a5 : Key), v5)], rfl, Nat.le_of_ble_eq_true rfl, h⟩
theorem disp7 {a0 a1 a2 a3 a4 a5 a6 : Str} {v0 v1 v2 v3 v4 v5 v6 : V} {R : List (Key × V) → Prop} (h : R [((Sum.inr a0 : Key), v0), ((Sum.inr a1 : Key), v1), ((Sum.inr a2 : Key), v2), ((Sum.inr a3 : Key), v3), ((Sum.inr a4 : Key), v4), ((Sum.inr a5 : Key), v5), ((Sum.inr a6 : Key), v6)]) : ∃ kvs : List (Key × V), [(V.str a0, v0), (V.str a1, v1), (V.str a2, v2), (V.str a3, v3), (V.str a4, v4), (V.str a5, v5), (V.str a6, v6)] = kvs.map (fun kv => (kV kv.1, kv.2)) ∧ kvs.length ≤ 15 ∧ R kvs := ⟨[((Sum.inr a0 : Key), v0), ((Sum.inr a1 : Key), v1), ((Sum.inr a2 : Key), v2), ((Sum.inr a3 : Key), v3), ((Sum.inr a4 : Key), v4), ((Sum.inr a5 : Key), v5), ((Sum.inr a6 : Key), v6)], rfl, Nat.le_of_ble_eq_true rfl, h⟩
theorem disp8 {a0 a1 a2 a3 a4 a5 a6 a7 : Str} {v0 v1 v2 v3 v4 v5 v6 v7 : V} {R : List (Key × V) → Prop} (h : R [((Sum.inr a0 : Key), v0), ((Sum.inr a1 : Key), v1), ((Sum.inr a2 : Key), v2), ((Sum.inr a3 : Key), v3), ((Sum.inr a4 : Key), v4), ((Sum.inr a5 : Key), v5), ((Sum.inr a6 : Key), v6), ((Sum.inr a7 : Key), v7)]) : ∃ kvs : List (Key × V), [(V.str a0, v0), (V.str a1, v1), (V.str a2, v2), (V.str a3, v3), (V.str a4, v4), (V.str a5, v5), (V.str a6, v6), (V.str a7, v7)] = kvs.map (fun kv => (kV kv.1, kv.2)) ∧ kvs.length ≤ 15 ∧ R kvs := ⟨[((Sum.inr a0 : Key), v0), ((Sum.inr a1 : Key), v1), ((Sum.inr a2 : Key), v2), ((Sum.inr a3 : Key), v3), ((Sum.inr a4 : Key), v4), ((Sum.inr a5 : Key), v5), ((Sum.inr a6 : Key), v6), ((Sum.inr a7 : Key), v7)], rfl, Nat.le_of_ble_eq_true rfl, h⟩
theorem len_sl (h : SqL K H p xs) : LenV K (.ref p) H xs.length := .inl ⟨xs, h, rfl⟩
theorem len_st (h : SqT K H p xs) : LenV K (.ref p) H xs.length := .inr ⟨xs, h, rfl⟩
theorem sql_same {H' : Hp} (h : SqL K H p xs) (e : Same H H') : SqL K H' p xs := e.seq h
theorem sqt_same {H' : Hp} (h : SqT K H p xs) (e : Same H H') : SqT K H' p xs := e.seqT h
theorem ka1 {t c : Value} {b : Bool} (h : PySem.W.kitOne K t c = some b) : PySem.W.kitAny K t [c] = some (b || false) := kitAny_cons h (fun e => by rw [e]; rfl) (fun e => by rw [e]; rfl)
theorem kac {t c : Value} {cs : List Value} {b r : Bool} (h : PySem.W.kitOne K t c = some b) (h2 : PySem.W.kitAny K t cs = some r) : PySem.W.kitAny K t (c :: cs) = some (b || r) := kitAny_cons h (fun e => by rw [e]; exact h2) (fun e => by rw [e]; rfl)
theorem ka2 {t c1 c2 : Value} {b1 b2 : Bool} (h1 : PySem.W.kitOne K t c1 = some b1) (h2 : PySem.W.kitOne K t c2 = some b2) : PySem.W.kitAny K t [c1, c2] = some (b1 || (b2 || false)) := kac h1 (ka1 h2)
theorem ka3 {t c1 c2 c3 : Value} {b1 b2 b3 : Bool} (h1 : PySem.W.kitOne K t c1 = some b1) (h2 : PySem.W.kitOne K t c2 = some b2) (h3 : PySem.W.kitOne K t c3 = some b3) : PySem.W.kitAny K t [c1, c2, c3] = some (b1 || (b2 || (b3 || false))) := kac h1 (ka2 h2 h3)
theorem ka4 {t c1 c2 c3 c4 : Value} {b1 b2 b3 b4 : Bool} (h1 : PySem.W.kitOne K t c1 = some b1) (h2 : PySem.W.kitOne K t c2 = some b2) (h3 : PySem.W.kitOne K t c3 = some b3) (h4 : PySem.W.kitOne K t c4 = some b4) : PySem.W.kitAny K t [c1, c2, c3, c4] = some (b1 || (b2 || (b3 || (b4 || false)))) := kac h1 (ka3 h2 h3 h4)
theorem ka5 {t c1 c2 c3 c4 c5 : Value} {b1 b2 b3 b4 b5 : Bool} (h1 : PySem.W.kitOne K t c1 = some b1) (h2 : PySem.W.kitOne K t c2 = some b2) (h3 : PySem.W.kitOne K t c3 = some b3) (h4 : PySem.W.kitOne K t c4 = some b4) (h5 : PySem.W.kitOne K t c5 = some b5) : PySem.W.kitAny K t [c1, c2, c3, c4, c5] = some (b1 || (b2 || (b3 || (b4 || (b5 || false))))) := kac h1 (ka4 h2 h3 h4 h5)
theorem len_l (h : H p = some (.lst xs)) : LenV K (.ref p) H xs.length := .inl ⟨xs, SqL.of h, rfl⟩
theorem tyv_l (h : H p = some (.lst xs)) : tyV K "list" (.ref p) H := .inl ⟨rfl, _, SqL.of h⟩
theorem tyv_s (h : SqL K H p xs) : tyV K "list" (.ref p) H := .inl ⟨rfl, _, h⟩
theorem isd (h : H a = some (.dK kvs)) : IsD H a := .inl ⟨kvs, .inl h⟩
theorem cSsT (h : x = y) : decide (V.str x = V.str y) = true := decide_eq_true (congrArg V.str h)
theorem cSsF (h : x ≠ y) : decide (V.str x = V.str y) = false := decide_eq_false fun z => h (V.str.inj z)
theorem cNsT (h : x ≠ y) : (!decide (V.str x = V.str y)) = true := by rw [cSsF h]; rfl
theorem cNsF (h : x = y) : (!decide (V.str x = V.str y)) = false := by rw [cSsT h]; rfl
theorem cSiT (h : i = j) : decide (V.int i = V.int j) = true := decide_eq_true (congrArg V.int h)
theorem cSiF (h : i ≠ j) : decide (V.int i = V.int j) = false := decide_eq_false fun z => h (V.int.inj z)
theorem cNiT (h : i ≠ j) : (!decide (V.int i = V.int j)) = true := by rw [cSiF h]; rfl
theorem cNiF (h : i = j) : (!decide (V.int i = V.int j)) = false := by rw [cSiT h]; rfl
theorem someT (h : o = some v) : o.isSome = true := by rw [h]; rfl
theorem someF (h : o = none) : o.isSome = false := by rw [h]; rfl
theorem nsomeT (h : o = none) : (!o.isSome) = true := by rw [h]; rfl
theorem nsomeF (h : o = some v) : (!o.isSome) = false := by rw [h]; rfl
end
theorem k_int_int {K : PySem.W.Frag} : PySem.W.kitOne K (.type "int") (.type "int") = some true := kit_ty (by decide +kernel)
theorem k_int_bool {K : PySem.W.Frag} : PySem.W.kitOne K (.type "int") (.type "bool") = some false := kit_ty (by decide +kernel)
theorem k_int_str {K : PySem.W.Frag} : PySem.W.kitOne K (.type "int") (.type "str") = some false := kit_ty (by decide +kernel)
theorem k_int_list {K : PySem.W.Frag} : PySem.W.kitOne K (.type "int") (.type "list") = some false := kit_ty (by decide +kernel)
theorem k_int_tuple {K : PySem.W.Frag} : PySem.W.kitOne K (.type "int") (.type "tuple") = some false := kit_ty (by decide +kernel)
theorem k_int_dict {K : PySem.W.Frag} : PySem.W.kitOne K (.type "int") (.type "dict") = some false := kit_ty (by decide +kernel)
theorem k_bool_int {K : PySem.W.Frag} : PySem.W.kitOne K (.type "bool") (.type "int") = some true := kit_ty (by decide +kernel)
theorem k_bool_bool {K : PySem.W.Frag} : PySem.W.kitOne K (.type "bool") (.type "bool") = some true := kit_ty (by decide +kernel)
theorem k_bool_str {K : PySem.W.Frag} : PySem.W.kitOne K (.type "bool") (.type "str") = some false := kit_ty (by decide +kernel)
theorem k_bool_list {K : PySem.W.Frag} : PySem.W.kitOne K (.type "bool") (.type "list") = some false := kit_ty (by decide +kernel)
theorem k_bool_tuple {K : PySem.W.Frag} : PySem.W.kitOne K (.type "bool") (.type "tuple") = some false := kit_ty (by decide +kernel)
theorem k_bool_dict {K : PySem.W.Frag} : PySem.W.kitOne K (.type "bool") (.type "dict") = some false := kit_ty (by decide +kernel)
theorem k_str_int {K : PySem.W.Frag} : PySem.W.kitOne K (.type "str") (.type "int") = some false := kit_ty (by decide +kernel)
theorem k_str_bool {K : PySem.W.Frag} : PySem.W.kitOne K (.type "str") (.type "bool") = some false := kit_ty (by decide +kernel)
theorem k_str_str {K : PySem.W.Frag} : PySem.W.kitOne K (.type "str") (.type "str") = some true := kit_ty (by decide +kernel)
theorem k_str_list {K : PySem.W.Frag} : PySem.W.kitOne K (.type "str") (.type "list") = some false := kit_ty (by decide +kernel)
theorem k_str_tuple {K : PySem.W.Frag} : PySem.W.kitOne K (.type "str") (.type "tuple") = some false := kit_ty (by decide +kernel)
theorem k_str_dict {K : PySem.W.Frag} : PySem.W.kitOne K (.type "str") (.type "dict") = some false := kit_ty (by decide +kernel)
theorem k_NoneType_int {K : PySem.W.Frag} : PySem.W.kitOne K (.type "NoneType") (.type "int") = some false := kit_ty (by decide +kernel)
theorem k_NoneType_bool {K : PySem.W.Frag} : PySem.W.kitOne K (.type "NoneType") (.type "bool") = some false := kit_ty (by decide +kernel)
theorem k_NoneType_str {K : PySem.W.Frag} : PySem.W.kitOne K (.type "NoneType") (.type "str") = some false := kit_ty (by decide +kernel)
theorem k_NoneType_list {K : PySem.W.Frag} : PySem.W.kitOne K (.type "NoneType") (.type "list") = some false := kit_ty (by decide +kernel)
theorem k_NoneType_tuple {K : PySem.W.Frag} : PySem.W.kitOne K (.type "NoneType") (.type "tuple") = some false := kit_ty (by decide +kernel)
theorem k_NoneType_dict {K : PySem.W.Frag} : PySem.W.kitOne K (.type "NoneType") (.type "dict") = some false := kit_ty (by decide +kernel)
theorem k_list_int {K : PySem.W.Frag} : PySem.W.kitOne K (.type "list") (.type "int") = some false := kit_ty (by decide +kernel)
theorem k_list_bool {K : PySem.W.Frag} : PySem.W.kitOne K (.type "list") (.type "bool") = some false := kit_ty (by decide +kernel)
theorem k_list_str {K : PySem.W.Frag} : PySem.W.kitOne K (.type "list") (.type "str") = some false := kit_ty (by decide +kernel)
theorem k_list_list {K : PySem.W.Frag} : PySem.W.kitOne K (.type "list") (.type "list") = some true := kit_ty (by decide +kernel)
theorem k_list_tuple {K : PySem.W.Frag} : PySem.W.kitOne K (.type "list") (.type "tuple") = some false := kit_ty (by decide +kernel)
theorem k_list_dict {K : PySem.W.Frag} : PySem.W.kitOne K (.type "list") (.type "dict") = some false := kit_ty (by decide +kernel)
theorem k_tuple_int {K : PySem.W.Frag} : PySem.W.kitOne K (.type "tuple") (.type "int") = some false := kit_ty (by decide +kernel)
theorem k_tuple_bool {K : PySem.W.Frag} : PySem.W.kitOne K (.type "tuple") (.type "bool") = some false := kit_ty (by decide +kernel)
theorem k_tuple_str {K : PySem.W.Frag} : PySem.W.kitOne K (.type "tuple") (.type "str") = some false := kit_ty (by decide +kernel)
theorem k_tuple_list {K : PySem.W.Frag} : PySem.W.kitOne K (.type "tuple") (.type "list") = some false := kit_ty (by decide +kernel)
theorem k_tuple_tuple {K : PySem.W.Frag} : PySem.W.kitOne K (.type "tuple") (.type "tuple") = some true := kit_ty (by decide +kernel)
theorem k_tuple_dict {K : PySem.W.Frag} : PySem.W.kitOne K (.type "tuple") (.type "dict") = some false := kit_ty (by decide +kernel)
theorem k_dict_int {K : PySem.W.Frag} : PySem.W.kitOne K (.type "dict") (.type "int") = some false := kit_ty (by decide +kernel)
theorem k_dict_bool {K : PySem.W.Frag} : PySem.W.kitOne K (.type "dict") (.type "bool") = some false := kit_ty (by decide +kernel)
theorem k_dict_str {K : PySem.W.Frag} : PySem.W.kitOne K (.type "dict") (.type "str") = some false := kit_ty (by decide +kernel)
theorem k_dict_list {K : PySem.W.Frag} : PySem.W.kitOne K (.type "dict") (.type "list") = some false := kit_ty (by decide +kernel)
theorem k_dict_tuple {K : PySem.W.Frag} : PySem.W.kitOne K (.type "dict") (.type "tuple") = some false := kit_ty (by decide +kernel)
theorem k_dict_dict {K : PySem.W.Frag} : PySem.W.kitOne K (.type "dict") (.type "dict") = some true := kit_ty (by decide +kernel)
end RW

set_option Elab.async false
set_option linter.all false
set_option maxRecDepth 100000
set_option maxHeartbeats 0
namespace K17
open PySem PySem.Spec PyProof.Rows L2 RC
/-! ### the text -/
def top (i : Nat) : Stmt := PySem.Challenge.pw_recordyard_k02_names_of_levels.main.body.getD i (.Pass ⟨0, 0, 0, 0⟩)
abbrev s_Filterer_init : Stmt := inClass (top 17) 0
abbrev nm_Filterer_init : List Str := ["self"]
theorem sc_Filterer_init : FnScope nm_Filterer_init ["self"] (defScope s_Filterer_init) := ⟨rfl, rfl, rfl, by decide +kernel, rfl, by decide +kernel, by decide +kernel⟩
def dd_Filterer_init : He.DefD := ⟨("Filterer", some "__init__"), "__init__", "Filterer.__init__", defArgs s_Filterer_init, defBody s_Filterer_init, defScope s_Filterer_init, [], []⟩
abbrev s_copied_value : Stmt := top 10
abbrev nm_copied_value : List Str := ["thing", "part", "name"]
theorem sc_copied_value : FnScope nm_copied_value ["thing"] (defScope s_copied_value) := ⟨rfl, rfl, rfl, by decide +kernel, rfl, by decide +kernel, by decide +kernel⟩
def dd_copied_value : He.DefD := ⟨("copied_value", none), "copied_value", "copied_value", defArgs s_copied_value, defBody s_copied_value, defScope s_copied_value, [], []⟩
abbrev s_BadLevel_init : Stmt := inClass (top 3) 0
abbrev nm_BadLevel_init : List Str := ["self", "level"]
theorem sc_BadLevel_init : FnScope nm_BadLevel_init ["self", "level"] (defScope s_BadLevel_init) := ⟨rfl, rfl, rfl, by decide +kernel, rfl, by decide +kernel, by decide +kernel⟩
def dd_BadLevel_init : He.DefD := ⟨("BadLevel", some "__init__"), "__init__", "BadLevel.__init__", defArgs s_BadLevel_init, defBody s_BadLevel_init, defScope s_BadLevel_init, [], []⟩
abbrev s_LogRecord_init : Stmt := inClass (top 12) 0
abbrev nm_LogRecord_init : List Str := ["self", "name", "levelno", "levelname", "msg", "args", "created", "extra"]
theorem sc_LogRecord_init : FnScope nm_LogRecord_init ["self", "name", "levelno", "levelname", "msg", "args", "created", "extra"] (defScope s_LogRecord_init) := ⟨rfl, rfl, rfl, by decide +kernel, rfl, by decide +kernel, by decide +kernel⟩
def dd_LogRecord_init : He.DefD := ⟨("LogRecord", some "__init__"), "__init__", "LogRecord.__init__", defArgs s_LogRecord_init, defBody s_LogRecord_init, defScope s_LogRecord_init, [], []⟩
abbrev s_Handler_init : Stmt := inClass (top 19) 0
abbrev nm_Handler_init : List Str := ["self", "yard"]
theorem sc_Handler_init : FnScope nm_Handler_init ["self", "yard"] (defScope s_Handler_init) := ⟨rfl, rfl, rfl, by decide +kernel, rfl, by decide +kernel, by decide +kernel⟩
def dd_Handler_init : He.DefD := ⟨("Handler", some "__init__"), "__init__", "Handler.__init__", defArgs s_Handler_init, defBody s_Handler_init, defScope s_Handler_init, [], []⟩
def dd_NullHandler_init : He.DefD := ⟨("NullHandler", some "__init__"), "__init__", "Handler.__init__", defArgs s_Handler_init, defBody s_Handler_init, defScope s_Handler_init, [], []⟩
abbrev s_StreamHandler_init : Stmt := inClass (top 20) 0
abbrev nm_StreamHandler_init : List Str := ["self", "yard", "stream"]
theorem sc_StreamHandler_init : FnScope nm_StreamHandler_init ["self", "yard", "stream"] (defScope s_StreamHandler_init) := ⟨rfl, rfl, rfl, by decide +kernel, rfl, by decide +kernel, by decide +kernel⟩
def dd_StreamHandler_init : He.DefD := ⟨("StreamHandler", some "__init__"), "__init__", "StreamHandler.__init__", defArgs s_StreamHandler_init, defBody s_StreamHandler_init, defScope s_StreamHandler_init, [.str "stderr"], []⟩
abbrev s_is_part : Stmt := top 34
abbrev nm_is_part : List Str := ["text", "sign"]
theorem sc_is_part : FnScope nm_is_part ["text"] (defScope s_is_part) := ⟨rfl, rfl, rfl, by decide +kernel, rfl, by decide +kernel, by decide +kernel⟩
def dd_is_part : He.DefD := ⟨("is_part", none), "is_part", "is_part", defArgs s_is_part, defBody s_is_part, defScope s_is_part, [], []⟩
abbrev s_are_parts : Stmt := top 35
abbrev nm_are_parts : List Str := ["thing", "part"]
theorem sc_are_parts : FnScope nm_are_parts ["thing"] (defScope s_are_parts) := ⟨rfl, rfl, rfl, by decide +kernel, rfl, by decide +kernel, by decide +kernel⟩
def dd_are_parts : He.DefD := ⟨("are_parts", none), "are_parts", "are_parts", defArgs s_are_parts, defBody s_are_parts, defScope s_are_parts, [], []⟩
abbrev s_parent_of : Stmt := top 36
abbrev nm_parent_of : List Str := ["yard", "name", "parts", "many", "above"]
theorem sc_parent_of : FnScope nm_parent_of ["yard", "name"] (defScope s_parent_of) := ⟨rfl, rfl, rfl, by decide +kernel, rfl, by decide +kernel, by decide +kernel⟩
def dd_parent_of : He.DefD := ⟨("parent_of", none), "parent_of", "parent_of", defArgs s_parent_of, defBody s_parent_of, defScope s_parent_of, [], []⟩
abbrev s_place_loggers : Stmt := top 37
abbrev nm_place_loggers : List Str := ["yard", "name"]
theorem sc_place_loggers : FnScope nm_place_loggers ["yard"] (defScope s_place_loggers) := ⟨rfl, rfl, rfl, by decide +kernel, rfl, by decide +kernel, by decide +kernel⟩
def dd_place_loggers : He.DefD := ⟨("place_loggers", none), "place_loggers", "place_loggers", defArgs s_place_loggers, defBody s_place_loggers, defScope s_place_loggers, [], []⟩
abbrev s_Logger_setLevel : Stmt := inClass (top 38) 1
abbrev nm_Logger_setLevel : List Str := ["self", "level"]
theorem sc_Logger_setLevel : FnScope nm_Logger_setLevel ["self", "level"] (defScope s_Logger_setLevel) := ⟨rfl, rfl, rfl, by decide +kernel, rfl, by decide +kernel, by decide +kernel⟩
def dd_Logger_setLevel : He.DefD := ⟨("Logger", some "setLevel"), "setLevel", "Logger.setLevel", defArgs s_Logger_setLevel, defBody s_Logger_setLevel, defScope s_Logger_setLevel, [], []⟩
abbrev s_Handler_setLevel : Stmt := inClass (top 19) 1
abbrev nm_Handler_setLevel : List Str := ["self", "level"]
theorem sc_Handler_setLevel : FnScope nm_Handler_setLevel ["self", "level"] (defScope s_Handler_setLevel) := ⟨rfl, rfl, rfl, by decide +kernel, rfl, by decide +kernel, by decide +kernel⟩
def dd_NullHandler_setLevel : He.DefD := ⟨("NullHandler", some "setLevel"), "setLevel", "Handler.setLevel", defArgs s_Handler_setLevel, defBody s_Handler_setLevel, defScope s_Handler_setLevel, [], []⟩
abbrev s_is_integer : Stmt := top 31
abbrev nm_is_integer : List Str := ["thing"]
theorem sc_is_integer : FnScope nm_is_integer ["thing"] (defScope s_is_integer) := ⟨rfl, rfl, rfl, by decide +kernel, rfl, by decide +kernel, by decide +kernel⟩
def dd_is_integer : He.DefD := ⟨("is_integer", none), "is_integer", "is_integer", defArgs s_is_integer, defBody s_is_integer, defScope s_is_integer, [], []⟩
abbrev s_Logger_init : Stmt := inClass (top 38) 0
abbrev nm_Logger_init : List Str := ["self", "yard", "name", "level"]
theorem sc_Logger_init : FnScope nm_Logger_init ["self", "yard", "name", "level"] (defScope s_Logger_init) := ⟨rfl, rfl, rfl, by decide +kernel, rfl, by decide +kernel, by decide +kernel⟩
def dd_Logger_init : He.DefD := ⟨("Logger", some "__init__"), "__init__", "Logger.__init__", defArgs s_Logger_init, defBody s_Logger_init, defScope s_Logger_init, [], []⟩
abbrev s_Yard_init : Stmt := inClass (top 40) 0
abbrev nm_Yard_init : List Str := ["self", "now"]
theorem sc_Yard_init : FnScope nm_Yard_init ["self", "now"] (defScope s_Yard_init) := ⟨rfl, rfl, rfl, by decide +kernel, rfl, by decide +kernel, by decide +kernel⟩
def dd_Yard_init : He.DefD := ⟨("Yard", some "__init__"), "__init__", "Yard.__init__", defArgs s_Yard_init, defBody s_Yard_init, defScope s_Yard_init, [.int 0], []⟩
abbrev s_Yard_add_level_name : Stmt := inClass (top 40) 15
abbrev nm_Yard_add_level_name : List Str := ["self", "level", "name"]
theorem sc_Yard_add_level_name : FnScope nm_Yard_add_level_name ["self", "level", "name"] (defScope s_Yard_add_level_name) := ⟨rfl, rfl, rfl, by decide +kernel, rfl, by decide +kernel, by decide +kernel⟩
def dd_Yard_add_level_name : He.DefD := ⟨("Yard", some "add_level_name"), "add_level_name", "Yard.add_level_name", defArgs s_Yard_add_level_name, defBody s_Yard_add_level_name, defScope s_Yard_add_level_name, [], []⟩
abbrev s_Yard_level_names : Stmt := inClass (top 40) 17
abbrev nm_Yard_level_names : List Str := ["self"]
theorem sc_Yard_level_names : FnScope nm_Yard_level_names ["self"] (defScope s_Yard_level_names) := ⟨rfl, rfl, rfl, by decide +kernel, rfl, by decide +kernel, by decide +kernel⟩
def dd_Yard_level_names : He.DefD := ⟨("Yard", some "level_names"), "level_names", "Yard.level_names", defArgs s_Yard_level_names, defBody s_Yard_level_names, defScope s_Yard_level_names, [], []⟩
abbrev s_Yard_level_name : Stmt := inClass (top 40) 16
abbrev nm_Yard_level_name : List Str := ["self", "level"]
theorem sc_Yard_level_name : FnScope nm_Yard_level_name ["self", "level"] (defScope s_Yard_level_name) := ⟨rfl, rfl, rfl, by decide +kernel, rfl, by decide +kernel, by decide +kernel⟩
def dd_Yard_level_name : He.DefD := ⟨("Yard", some "level_name"), "level_name", "Yard.level_name", defArgs s_Yard_level_name, defBody s_Yard_level_name, defScope s_Yard_level_name, [], []⟩
abbrev s_Yard_level_of : Stmt := inClass (top 40) 18
abbrev nm_Yard_level_of : List Str := ["self", "level"]
theorem sc_Yard_level_of : FnScope nm_Yard_level_of ["self", "level"] (defScope s_Yard_level_of) := ⟨rfl, rfl, rfl, by decide +kernel, rfl, by decide +kernel, by decide +kernel⟩
def dd_Yard_level_of : He.DefD := ⟨("Yard", some "level_of"), "level_of", "Yard.level_of", defArgs s_Yard_level_of, defBody s_Yard_level_of, defScope s_Yard_level_of, [], []⟩
abbrev s_Yard_make_record : Stmt := inClass (top 40) 19
abbrev nm_Yard_make_record : List Str := ["self", "name", "level", "msg", "args", "extra", "number", "more", "bad", "key"]
theorem sc_Yard_make_record : FnScope nm_Yard_make_record ["self", "name", "level", "msg", "args", "extra"] (defScope s_Yard_make_record) := ⟨rfl, rfl, rfl, by decide +kernel, rfl, by decide +kernel, by decide +kernel⟩
def dd_Yard_make_record : He.DefD := ⟨("Yard", some "make_record"), "make_record", "Yard.make_record", defArgs s_Yard_make_record, defBody s_Yard_make_record, defScope s_Yard_make_record, [.adr (He.dflAt ("Yard", some "make_record") 0), .non], []⟩
abbrev s_Yard_enrol : Stmt := inClass (top 40) 24
abbrev nm_Yard_enrol : List Str := ["self", "handler"]
theorem sc_Yard_enrol : FnScope nm_Yard_enrol ["self", "handler"] (defScope s_Yard_enrol) := ⟨rfl, rfl, rfl, by decide +kernel, rfl, by decide +kernel, by decide +kernel⟩
def dd_Yard_enrol : He.DefD := ⟨("Yard", some "enrol"), "enrol", "Yard.enrol", defArgs s_Yard_enrol, defBody s_Yard_enrol, defScope s_Yard_enrol, [], []⟩
abbrev s_Yard_getLogger : Stmt := inClass (top 40) 20
abbrev nm_Yard_getLogger : List Str := ["self", "name"]
theorem sc_Yard_getLogger : FnScope nm_Yard_getLogger ["self", "name"] (defScope s_Yard_getLogger) := ⟨rfl, rfl, rfl, by decide +kernel, rfl, by decide +kernel, by decide +kernel⟩
def dd_Yard_getLogger : He.DefD := ⟨("Yard", some "getLogger"), "getLogger", "Yard.getLogger", defArgs s_Yard_getLogger, defBody s_Yard_getLogger, defScope s_Yard_getLogger, [.str ""], []⟩
abbrev s_Yard_disable : Stmt := inClass (top 40) 22
abbrev nm_Yard_disable : List Str := ["self", "level"]
theorem sc_Yard_disable : FnScope nm_Yard_disable ["self", "level"] (defScope s_Yard_disable) := ⟨rfl, rfl, rfl, by decide +kernel, rfl, by decide +kernel, by decide +kernel⟩
def dd_Yard_disable : He.DefD := ⟨("Yard", some "disable"), "disable", "Yard.disable", defArgs s_Yard_disable, defBody s_Yard_disable, defScope s_Yard_disable, [.int 50], []⟩
abbrev s_Yard_bar : Stmt := inClass (top 40) 23
abbrev nm_Yard_bar : List Str := ["self"]
theorem sc_Yard_bar : FnScope nm_Yard_bar ["self"] (defScope s_Yard_bar) := ⟨rfl, rfl, rfl, by decide +kernel, rfl, by decide +kernel, by decide +kernel⟩
def dd_Yard_bar : He.DefD := ⟨("Yard", some "bar"), "bar", "Yard.bar", defArgs s_Yard_bar, defBody s_Yard_bar, defScope s_Yard_bar, [], []⟩
abbrev s__law_draw : Stmt := top 42
abbrev nm__law_draw : List Str := ["_law_stream", "_law_many", "_law_digit", "_law_mixed", "_law_last"]
theorem sc__law_draw : FnScope nm__law_draw ["_law_stream", "_law_many"] (defScope s__law_draw) := ⟨rfl, rfl, rfl, by decide +kernel, rfl, by decide +kernel, by decide +kernel⟩
def dd__law_draw : He.DefD := ⟨("_law_draw", none), "_law_draw", "_law_draw", defArgs s__law_draw, defBody s__law_draw, defScope s__law_draw, [], []⟩
abbrev s__law_pick : Stmt := top 43
abbrev nm__law_pick : List Str := ["_law_stream", "_law_some"]
theorem sc__law_pick : FnScope nm__law_pick ["_law_stream", "_law_some"] (defScope s__law_pick) := ⟨rfl, rfl, rfl, by decide +kernel, rfl, by decide +kernel, by decide +kernel⟩
def dd__law_pick : He.DefD := ⟨("_law_pick", none), "_law_pick", "_law_pick", defArgs s__law_pick, defBody s__law_pick, defScope s__law_pick, [], []⟩
abbrev s__law_copied : Stmt := top 44
abbrev nm__law_copied : List Str := ["_law_thing", "_law_part", "_law_key"]
theorem sc__law_copied : FnScope nm__law_copied ["_law_thing"] (defScope s__law_copied) := ⟨rfl, rfl, rfl, by decide +kernel, rfl, by decide +kernel, by decide +kernel⟩
def dd__law_copied : He.DefD := ⟨("_law_copied", none), "_law_copied", "_law_copied", defArgs s__law_copied, defBody s__law_copied, defScope s__law_copied, [], []⟩
abbrev s__law_same : Stmt := top 45
abbrev nm__law_same : List Str := ["_law_found", "_law_due", "_law_key", "_law_one", "_law_other"]
theorem sc__law_same : FnScope nm__law_same ["_law_found", "_law_due"] (defScope s__law_same) := ⟨rfl, rfl, rfl, by decide +kernel, rfl, by decide +kernel, by decide +kernel⟩
def dd__law_same : He.DefD := ⟨("_law_same", none), "_law_same", "_law_same", defArgs s__law_same, defBody s__law_same, defScope s__law_same, [], []⟩
abbrev s__law_first_names : Stmt := top 46
abbrev nm__law_first_names : List Str := ["_law_words", "_law_numbers", "_law_number_here"]
theorem sc__law_first_names : FnScope nm__law_first_names [] (defScope s__law_first_names) := ⟨rfl, rfl, rfl, by decide +kernel, rfl, by decide +kernel, by decide +kernel⟩
def dd__law_first_names : He.DefD := ⟨("_law_first_names", none), "_law_first_names", "_law_first_names", defArgs s__law_first_names, defBody s__law_first_names, defScope s__law_first_names, [], []⟩
abbrev s__law_named_right : Stmt := top 47
abbrev nm__law_named_right : List Str := ["_law_yard", "_law_tables", "_law_words", "_law_numbers", "_law_time", "_law_found", "_law_some", "_law_number_here"]
theorem sc__law_named_right : FnScope nm__law_named_right ["_law_yard", "_law_tables"] (defScope s__law_named_right) := ⟨rfl, rfl, rfl, by decide +kernel, rfl, by decide +kernel, by decide +kernel⟩
def dd__law_named_right : He.DefD := ⟨("_law_named_right", none), "_law_named_right", "_law_named_right", defArgs s__law_named_right, defBody s__law_named_right, defScope s__law_named_right, [], []⟩
abbrev s__law_number : Stmt := top 48
abbrev nm__law_number : List Str := ["_law_thing", "_law_tables"]
theorem sc__law_number : FnScope nm__law_number ["_law_thing", "_law_tables"] (defScope s__law_number) := ⟨rfl, rfl, rfl, by decide +kernel, rfl, by decide +kernel, by decide +kernel⟩
def dd__law_number : He.DefD := ⟨("_law_number", none), "_law_number", "_law_number", defArgs s__law_number, defBody s__law_number, defScope s__law_number, [], []⟩
abbrev s__law_asked : Stmt := top 49
abbrev nm__law_asked : List Str := ["_law_way", "_law_yard", "_law_handler", "_law_thing", "_law_logger", "e"]
theorem sc__law_asked : FnScope nm__law_asked ["_law_way", "_law_yard", "_law_handler", "_law_thing"] (defScope s__law_asked) := ⟨rfl, rfl, rfl, by decide +kernel, rfl, by decide +kernel, by decide +kernel⟩
def dd__law_asked : He.DefD := ⟨("_law_asked", none), "_law_asked", "_law_asked", defArgs s__law_asked, defBody s__law_asked, defScope s__law_asked, [], []⟩
abbrev s_law : Stmt := top 50
abbrev nm_law : List Str := ["_law_script", "_law_stream", "_law_yards", "_law_tables", "_law_handlers", "_law_one", "_law_turn", "_law_at", "_law_yard", "_law_words", "_law_numbers", "_law_number_here", "_law_word", "_law_k", "_law_some", "_law_thing", "_law_due", "_law_kept", "_law_way", "_law_found"]
theorem sc_law : FnScope nm_law ["_law_script"] (defScope s_law) := ⟨rfl, rfl, rfl, by decide +kernel, rfl, by decide +kernel, by decide +kernel⟩
def dd_law : He.DefD := ⟨("law", none), "law", "law", defArgs s_law, defBody s_law, defScope s_law, [], []⟩
def kv_FIRST_NAMES : List (Key × He.Dv) := [(Sum.inl (50), .str "CRITICAL"), (Sum.inl (40), .str "ERROR"), (Sum.inl (30), .str "WARNING"), (Sum.inl (20), .str "INFO"), (Sum.inl (10), .str "DEBUG"), (Sum.inl (0), .str "NOTSET")]
def kv_FIRST_NUMBERS : List (Key × He.Dv) := [(Sum.inr "CRITICAL", .int (50)), (Sum.inr "FATAL", .int (50)), (Sum.inr "ERROR", .int (40)), (Sum.inr "WARNING", .int (30)), (Sum.inr "WARN", .int (30)), (Sum.inr "INFO", .int (20)), (Sum.inr "DEBUG", .int (10)), (Sum.inr "NOTSET", .int (0))]
def fa : List He.Fa := ([.glo "Filterer", .glo "LogRecord", .glo "Handler", .glo "StreamHandler", .glo "NullHandler", .glo "Logger", .glo "Yard", .glo "BadLevel", .glo "copied_value", .glo "is_part", .glo "are_parts", .glo "parent_of"] : List He.Fa) ++ ([.glo "place_loggers", .glo "is_integer", .glo "_law_draw", .glo "_law_pick", .glo "_law_copied", .glo "_law_same", .glo "_law_first_names", .glo "_law_named_right", .glo "_law_number", .glo "_law_asked", .glo "law", .int "WARNING" 30] : List He.Fa) ++ ([.int "NOTSET" 0, .glo "OWN_FIELDS", .glo "FIRST_NAMES", .glo "FIRST_NUMBERS", .str "SIGNS" "abcdefghijklmnopqrstuvwxyzABCDEFGHIJKLMNOPQRSTUVWXYZ0123456789_", .int "CRITICAL" 50, .free "len", .free "isinstance", .free "int", .free "str", .free "list", .free "tuple"] : List He.Fa) ++ ([.free "bool", .free "dict", .free "range", .free "sorted", .free "all", .free "zip", .cls "LogRecord", .noat "LogRecord" "name", .noat "LogRecord" "levelno", .noat "LogRecord" "levelname", .noat "LogRecord" "msg", .noat "LogRecord" "given"] : List He.Fa) ++ ([.noat "LogRecord" "created", .noat "LogRecord" "extra", .cls "StreamHandler", .noat "StreamHandler" "filters", .noat "StreamHandler" "yard", .noat "StreamHandler" "level", .noat "StreamHandler" "formatter", .noat "StreamHandler" "name", .noat "StreamHandler" "terminator", .noat "StreamHandler" "closed", .noat "StreamHandler" "stream", .cls "NullHandler"] : List He.Fa) ++ ([.noat "NullHandler" "filters", .noat "NullHandler" "yard", .noat "NullHandler" "level", .noat "NullHandler" "formatter", .noat "NullHandler" "name", .noat "NullHandler" "terminator", .noat "NullHandler" "closed", .cls "Logger", .noat "Logger" "filters", .noat "Logger" "yard", .noat "Logger" "name", .noat "Logger" "level"] : List He.Fa) ++ ([.noat "Logger" "propagate", .noat "Logger" "disabled", .noat "Logger" "handlers", .noat "Logger" "parent", .cls "Yard", .noat "Yard" "clock", .noat "Yard" "stream_texts", .noat "Yard" "file_rows", .noat "Yard" "names_of", .noat "Yard" "numbers_of", .noat "Yard" "bar_level", .noat "Yard" "logger_map"] : List He.Fa) ++ ([.noat "Yard" "made", .noat "Yard" "handler_names", .noat "Yard" "failure_rows", .noat "Yard" "root", .noat "Yard" "last_resort", .meth "Logger" "setLevel", .meth "NullHandler" "setLevel", .meth "Yard" "add_level_name", .meth "Yard" "level_names", .meth "Yard" "level_name", .meth "Yard" "level_of", .meth "Yard" "make_record"] : List He.Fa) ++ ([.meth "Yard" "enrol", .meth "Yard" "getLogger", .meth "Yard" "disable", .meth "Yard" "bar", .mkr "StreamHandler", .mkr "NullHandler", .mkr "Logger", .mkr "Yard", .mkr "LogRecord"] : List He.Fa)
def fx : List RB.Fx := ([.exc "BadLevel" "level", .exm "BadLevel" "BadLevel" true, .pl "Logger", .pl "StreamHandler", .pl "NullHandler", .sub "Logger" "Logger", .sub "StreamHandler" "StreamHandler", .sub "NullHandler" "NullHandler", .cf "Filterer" "__init__", .cf "Handler" "__init__", .dtup ("Yard", some "make_record") 0] : List RB.Fx)
def fn : List He.DefD := ([dd_Filterer_init, dd_copied_value, dd_BadLevel_init, dd_LogRecord_init, dd_Handler_init, dd_NullHandler_init, dd_StreamHandler_init, dd_is_part, dd_are_parts, dd_parent_of, dd_place_loggers, dd_Logger_setLevel] : List He.DefD) ++ ([dd_NullHandler_setLevel, dd_is_integer, dd_Logger_init, dd_Yard_init, dd_Yard_add_level_name, dd_Yard_level_names, dd_Yard_level_name, dd_Yard_level_of, dd_Yard_make_record, dd_Yard_enrol, dd_Yard_getLogger, dd_Yard_disable] : List He.DefD) ++ ([dd_Yard_bar, dd__law_draw, dd__law_pick, dd__law_copied, dd__law_same, dd__law_first_names, dd__law_named_right, dd__law_number, dd__law_asked, dd_law] : List He.DefD)
def ts : List RB.Tb := ([("FIRST_NAMES", kv_FIRST_NAMES), ("FIRST_NUMBERS", kv_FIRST_NUMBERS)] : List RB.Tb)
def names : List PySem.Str := (["_wall", "YardError", "BadLevel", "BadName", "BadExtra", "BadMessage", "BadField", "OWN_FIELDS", "copied_value", "message_of", "LogRecord", "is_below"] : List PySem.Str) ++ (["let_by", "Filter", "Filterer", "Handler", "StreamHandler", "NullHandler", "CRITICAL", "ERROR", "WARNING", "INFO", "DEBUG", "NOTSET"] : List PySem.Str) ++ (["FIRST_NAMES", "FIRST_NUMBERS", "is_integer", "SIGNS", "is_part", "are_parts", "parent_of", "place_loggers", "Logger", "Yard", "_law_draw", "_law_pick"] : List PySem.Str) ++ (["_law_copied", "_law_same", "_law_first_names", "_law_named_right", "_law_number", "_law_asked"] : List PySem.Str)
/-- what the text is, behind the top -/
structure Txt (P : Program) (w : World) (K : PySem.W.Frag) (mg : Str → Option Value) : Prop where
  g_Filterer : mg "Filterer" = some (.ref (He.ga K "Filterer"))
  g_LogRecord : mg "LogRecord" = some (.ref (He.ga K "LogRecord"))
  g_Handler : mg "Handler" = some (.ref (He.ga K "Handler"))
  g_StreamHandler : mg "StreamHandler" = some (.ref (He.ga K "StreamHandler"))
  g_NullHandler : mg "NullHandler" = some (.ref (He.ga K "NullHandler"))
  g_Logger : mg "Logger" = some (.ref (He.ga K "Logger"))
  g_Yard : mg "Yard" = some (.ref (He.ga K "Yard"))
  g_BadLevel : mg "BadLevel" = some (.ref (He.ga K "BadLevel"))
  g_copied_value : mg "copied_value" = some (.ref (He.ga K "copied_value"))
  g_is_part : mg "is_part" = some (.ref (He.ga K "is_part"))
  g_are_parts : mg "are_parts" = some (.ref (He.ga K "are_parts"))
  g_parent_of : mg "parent_of" = some (.ref (He.ga K "parent_of"))
  g_place_loggers : mg "place_loggers" = some (.ref (He.ga K "place_loggers"))
  g_is_integer : mg "is_integer" = some (.ref (He.ga K "is_integer"))
  g__law_draw : mg "_law_draw" = some (.ref (He.ga K "_law_draw"))
  g__law_pick : mg "_law_pick" = some (.ref (He.ga K "_law_pick"))
  g__law_copied : mg "_law_copied" = some (.ref (He.ga K "_law_copied"))
  g__law_same : mg "_law_same" = some (.ref (He.ga K "_law_same"))
  g__law_first_names : mg "_law_first_names" = some (.ref (He.ga K "_law_first_names"))
  g__law_named_right : mg "_law_named_right" = some (.ref (He.ga K "_law_named_right"))
  g__law_number : mg "_law_number" = some (.ref (He.ga K "_law_number"))
  g__law_asked : mg "_law_asked" = some (.ref (He.ga K "_law_asked"))
  g_law : mg "law" = some (.ref (He.ga K "law"))
  g_WARNING : ∃ t, mg "WARNING" = some (.int 30 t)
  g_NOTSET : ∃ t, mg "NOTSET" = some (.int 0 t)
  g_OWN_FIELDS : mg "OWN_FIELDS" = some (.ref (He.ga K "OWN_FIELDS"))
  g_FIRST_NAMES : mg "FIRST_NAMES" = some (.ref (He.ga K "FIRST_NAMES"))
  g_FIRST_NUMBERS : mg "FIRST_NUMBERS" = some (.ref (He.ga K "FIRST_NUMBERS"))
  g_SIGNS : ∃ t, mg "SIGNS" = some (.str "abcdefghijklmnopqrstuvwxyzABCDEFGHIJKLMNOPQRSTUVWXYZ0123456789_" t)
  g_CRITICAL : ∃ t, mg "CRITICAL" = some (.int 50 t)
  b_len : mg "len" = none
  b_isinstance : mg "isinstance" = none
  b_int : mg "int" = none
  b_str : mg "str" = none
  b_list : mg "list" = none
  b_tuple : mg "tuple" = none
  b_bool : mg "bool" = none
  b_dict : mg "dict" = none
  b_range : mg "range" = none
  b_sorted : mg "sorted" = none
  b_all : mg "all" = none
  b_zip : mg "zip" = none
  c_LogRecord : Cls K (He.ga K "LogRecord")
  n_LogRecord_name : NoAttr K (He.ga K "LogRecord") "name"
  n_LogRecord_levelno : NoAttr K (He.ga K "LogRecord") "levelno"
  n_LogRecord_levelname : NoAttr K (He.ga K "LogRecord") "levelname"
  n_LogRecord_msg : NoAttr K (He.ga K "LogRecord") "msg"
  n_LogRecord_given : NoAttr K (He.ga K "LogRecord") "given"
  n_LogRecord_created : NoAttr K (He.ga K "LogRecord") "created"
  n_LogRecord_extra : NoAttr K (He.ga K "LogRecord") "extra"
  c_StreamHandler : Cls K (He.ga K "StreamHandler")
  n_StreamHandler_filters : NoAttr K (He.ga K "StreamHandler") "filters"
  n_StreamHandler_yard : NoAttr K (He.ga K "StreamHandler") "yard"
  n_StreamHandler_level : NoAttr K (He.ga K "StreamHandler") "level"
  n_StreamHandler_formatter : NoAttr K (He.ga K "StreamHandler") "formatter"
  n_StreamHandler_name : NoAttr K (He.ga K "StreamHandler") "name"
  n_StreamHandler_terminator : NoAttr K (He.ga K "StreamHandler") "terminator"
  n_StreamHandler_closed : NoAttr K (He.ga K "StreamHandler") "closed"
  n_StreamHandler_stream : NoAttr K (He.ga K "StreamHandler") "stream"
  c_NullHandler : Cls K (He.ga K "NullHandler")
  n_NullHandler_filters : NoAttr K (He.ga K "NullHandler") "filters"
  n_NullHandler_yard : NoAttr K (He.ga K "NullHandler") "yard"
  n_NullHandler_level : NoAttr K (He.ga K "NullHandler") "level"
  n_NullHandler_formatter : NoAttr K (He.ga K "NullHandler") "formatter"
  n_NullHandler_name : NoAttr K (He.ga K "NullHandler") "name"
  n_NullHandler_terminator : NoAttr K (He.ga K "NullHandler") "terminator"
  n_NullHandler_closed : NoAttr K (He.ga K "NullHandler") "closed"
  c_Logger : Cls K (He.ga K "Logger")
  n_Logger_filters : NoAttr K (He.ga K "Logger") "filters"
  n_Logger_yard : NoAttr K (He.ga K "Logger") "yard"
  n_Logger_name : NoAttr K (He.ga K "Logger") "name"
  n_Logger_level : NoAttr K (He.ga K "Logger") "level"
  n_Logger_propagate : NoAttr K (He.ga K "Logger") "propagate"
  n_Logger_disabled : NoAttr K (He.ga K "Logger") "disabled"
  n_Logger_handlers : NoAttr K (He.ga K "Logger") "handlers"
  n_Logger_parent : NoAttr K (He.ga K "Logger") "parent"
  c_Yard : Cls K (He.ga K "Yard")
  n_Yard_clock : NoAttr K (He.ga K "Yard") "clock"
  n_Yard_stream_texts : NoAttr K (He.ga K "Yard") "stream_texts"
  n_Yard_file_rows : NoAttr K (He.ga K "Yard") "file_rows"
  n_Yard_names_of : NoAttr K (He.ga K "Yard") "names_of"
  n_Yard_numbers_of : NoAttr K (He.ga K "Yard") "numbers_of"
  n_Yard_bar_level : NoAttr K (He.ga K "Yard") "bar_level"
  n_Yard_logger_map : NoAttr K (He.ga K "Yard") "logger_map"
  n_Yard_made : NoAttr K (He.ga K "Yard") "made"
  n_Yard_handler_names : NoAttr K (He.ga K "Yard") "handler_names"
  n_Yard_failure_rows : NoAttr K (He.ga K "Yard") "failure_rows"
  n_Yard_root : NoAttr K (He.ga K "Yard") "root"
  n_Yard_last_resort : NoAttr K (He.ga K "Yard") "last_resort"
  m_Logger_setLevel : Meth K (He.ga K "Logger") "setLevel" (He.ma K (He.ga K "Logger") "setLevel")
  m_NullHandler_setLevel : Meth K (He.ga K "NullHandler") "setLevel" (He.ma K (He.ga K "NullHandler") "setLevel")
  m_Yard_add_level_name : Meth K (He.ga K "Yard") "add_level_name" (He.ma K (He.ga K "Yard") "add_level_name")
  m_Yard_level_names : Meth K (He.ga K "Yard") "level_names" (He.ma K (He.ga K "Yard") "level_names")
  m_Yard_level_name : Meth K (He.ga K "Yard") "level_name" (He.ma K (He.ga K "Yard") "level_name")
  m_Yard_level_of : Meth K (He.ga K "Yard") "level_of" (He.ma K (He.ga K "Yard") "level_of")
  m_Yard_make_record : Meth K (He.ga K "Yard") "make_record" (He.ma K (He.ga K "Yard") "make_record")
  m_Yard_enrol : Meth K (He.ga K "Yard") "enrol" (He.ma K (He.ga K "Yard") "enrol")
  m_Yard_getLogger : Meth K (He.ga K "Yard") "getLogger" (He.ma K (He.ga K "Yard") "getLogger")
  m_Yard_disable : Meth K (He.ga K "Yard") "disable" (He.ma K (He.ga K "Yard") "disable")
  m_Yard_bar : Meth K (He.ga K "Yard") "bar" (He.ma K (He.ga K "Yard") "bar")
  k_StreamHandler : Mk K (He.ga K "StreamHandler") (He.ma K (He.ga K "StreamHandler") "__init__")
  k_NullHandler : Mk K (He.ga K "NullHandler") (He.ma K (He.ga K "NullHandler") "__init__")
  k_Logger : Mk K (He.ga K "Logger") (He.ma K (He.ga K "Logger") "__init__")
  k_Yard : Mk K (He.ga K "Yard") (He.ma K (He.ga K "Yard") "__init__")
  k_LogRecord : Mk K (He.ga K "LogRecord") (He.ma K (He.ga K "LogRecord") "__init__")
  x_BadLevel : RB.ExcF K (He.ga K "BadLevel") "level"
  e_BadLevel_BadLevel : PySem.W.exmOne K (.ref (He.ga K "BadLevel")) (.ref (He.ga K "BadLevel")) = some true
  p_Logger : RA.PlainC K (He.ga K "Logger")
  p_StreamHandler : RA.PlainC K (He.ga K "StreamHandler")
  p_NullHandler : RA.PlainC K (He.ga K "NullHandler")
  sub_Logger_Logger : RA.PairC K (He.ga K "Logger") (He.ga K "Logger")
  sub_StreamHandler_StreamHandler : RA.PairC K (He.ga K "StreamHandler") (He.ga K "StreamHandler")
  sub_NullHandler_NullHandler : RA.PairC K (He.ga K "NullHandler") (He.ga K "NullHandler")
  cf_Filterer_init : RA.CFun K (He.ga K "Filterer") "__init__" (He.ma K (He.ga K "Filterer") "__init__")
  cf_Handler_init : RA.CFun K (He.ga K "Handler") "__init__" (He.ma K (He.ga K "Handler") "__init__")
  dt_Yard_make_record_0 : ∀ H : Hp, SqT K H (He.dflAt ("Yard", some "make_record") 0 K) []
  d_Filterer_init : Stands K "__init__" "Filterer.__init__" s_Filterer_init [] (He.fAd K ("Filterer", some "__init__"))
  d_copied_value : Stands K "copied_value" "copied_value" s_copied_value [] (He.fAd K ("copied_value", none))
  d_BadLevel_init : Stands K "__init__" "BadLevel.__init__" s_BadLevel_init [] (He.fAd K ("BadLevel", some "__init__"))
  d_LogRecord_init : Stands K "__init__" "LogRecord.__init__" s_LogRecord_init [] (He.fAd K ("LogRecord", some "__init__"))
  d_Handler_init : Stands K "__init__" "Handler.__init__" s_Handler_init [] (He.fAd K ("Handler", some "__init__"))
  d_NullHandler_init : Stands K "__init__" "Handler.__init__" s_Handler_init [] (He.fAd K ("NullHandler", some "__init__"))
  d_StreamHandler_init : Stands K "__init__" "StreamHandler.__init__" s_StreamHandler_init [(He.Dv.str "stderr" : He.Dv).v K] (He.fAd K ("StreamHandler", some "__init__"))
  d_is_part : Stands K "is_part" "is_part" s_is_part [] (He.fAd K ("is_part", none))
  d_are_parts : Stands K "are_parts" "are_parts" s_are_parts [] (He.fAd K ("are_parts", none))
  d_parent_of : Stands K "parent_of" "parent_of" s_parent_of [] (He.fAd K ("parent_of", none))
  d_place_loggers : Stands K "place_loggers" "place_loggers" s_place_loggers [] (He.fAd K ("place_loggers", none))
  d_Logger_setLevel : Stands K "setLevel" "Logger.setLevel" s_Logger_setLevel [] (He.fAd K ("Logger", some "setLevel"))
  d_NullHandler_setLevel : Stands K "setLevel" "Handler.setLevel" s_Handler_setLevel [] (He.fAd K ("NullHandler", some "setLevel"))
  d_is_integer : Stands K "is_integer" "is_integer" s_is_integer [] (He.fAd K ("is_integer", none))
  d_Logger_init : Stands K "__init__" "Logger.__init__" s_Logger_init [] (He.fAd K ("Logger", some "__init__"))
  d_Yard_init : Stands K "__init__" "Yard.__init__" s_Yard_init [(He.Dv.int 0 : He.Dv).v K] (He.fAd K ("Yard", some "__init__"))
  d_Yard_add_level_name : Stands K "add_level_name" "Yard.add_level_name" s_Yard_add_level_name [] (He.fAd K ("Yard", some "add_level_name"))
  d_Yard_level_names : Stands K "level_names" "Yard.level_names" s_Yard_level_names [] (He.fAd K ("Yard", some "level_names"))
  d_Yard_level_name : Stands K "level_name" "Yard.level_name" s_Yard_level_name [] (He.fAd K ("Yard", some "level_name"))
  d_Yard_level_of : Stands K "level_of" "Yard.level_of" s_Yard_level_of [] (He.fAd K ("Yard", some "level_of"))
  d_Yard_make_record : Stands K "make_record" "Yard.make_record" s_Yard_make_record [(He.Dv.adr (He.dflAt ("Yard", some "make_record") 0) : He.Dv).v K, (He.Dv.non : He.Dv).v K] (He.fAd K ("Yard", some "make_record"))
  d_Yard_enrol : Stands K "enrol" "Yard.enrol" s_Yard_enrol [] (He.fAd K ("Yard", some "enrol"))
  d_Yard_getLogger : Stands K "getLogger" "Yard.getLogger" s_Yard_getLogger [(He.Dv.str "" : He.Dv).v K] (He.fAd K ("Yard", some "getLogger"))
  d_Yard_disable : Stands K "disable" "Yard.disable" s_Yard_disable [(He.Dv.int 50 : He.Dv).v K] (He.fAd K ("Yard", some "disable"))
  d_Yard_bar : Stands K "bar" "Yard.bar" s_Yard_bar [] (He.fAd K ("Yard", some "bar"))
  d__law_draw : Stands K "_law_draw" "_law_draw" s__law_draw [] (He.fAd K ("_law_draw", none))
  d__law_pick : Stands K "_law_pick" "_law_pick" s__law_pick [] (He.fAd K ("_law_pick", none))
  d__law_copied : Stands K "_law_copied" "_law_copied" s__law_copied [] (He.fAd K ("_law_copied", none))
  d__law_same : Stands K "_law_same" "_law_same" s__law_same [] (He.fAd K ("_law_same", none))
  d__law_first_names : Stands K "_law_first_names" "_law_first_names" s__law_first_names [] (He.fAd K ("_law_first_names", none))
  d__law_named_right : Stands K "_law_named_right" "_law_named_right" s__law_named_right [] (He.fAd K ("_law_named_right", none))
  d__law_number : Stands K "_law_number" "_law_number" s__law_number [] (He.fAd K ("_law_number", none))
  d__law_asked : Stands K "_law_asked" "_law_asked" s__law_asked [] (He.fAd K ("_law_asked", none))
  d_law : Stands K "law" "law" s_law [] (He.fAd K ("law", none))
  t_FIRST_NAMES : RB.KD P w K (He.ga K "FIRST_NAMES") (kv_FIRST_NAMES.map fun q => (q.1, q.2.v K))
  t_FIRST_NUMBERS : RB.KD P w K (He.ga K "FIRST_NUMBERS") (kv_FIRST_NUMBERS.map fun q => (q.1, q.2.v K))
theorem Txt.of {P : Program} {w : World} {K : PySem.W.Frag} {h : Heap} {mg : Str → Option Value} (X : K.In h) (G : h.Ns mainGlobals mg) (c : RB.SaysB fa fx fn ts w K) : Txt P w K mg where
    g_Filterer := He.glo_ok X G (c.fact 0 (f := .glo "Filterer") (by rfl))
    g_LogRecord := He.glo_ok X G (c.fact 1 (f := .glo "LogRecord") (by rfl))
    g_Handler := He.glo_ok X G (c.fact 2 (f := .glo "Handler") (by rfl))
    g_StreamHandler := He.glo_ok X G (c.fact 3 (f := .glo "StreamHandler") (by rfl))
    g_NullHandler := He.glo_ok X G (c.fact 4 (f := .glo "NullHandler") (by rfl))
    g_Logger := He.glo_ok X G (c.fact 5 (f := .glo "Logger") (by rfl))
    g_Yard := He.glo_ok X G (c.fact 6 (f := .glo "Yard") (by rfl))
    g_BadLevel := He.glo_ok X G (c.fact 7 (f := .glo "BadLevel") (by rfl))
    g_copied_value := He.glo_ok X G (c.fact 8 (f := .glo "copied_value") (by rfl))
    g_is_part := He.glo_ok X G (c.fact 9 (f := .glo "is_part") (by rfl))
    g_are_parts := He.glo_ok X G (c.fact 10 (f := .glo "are_parts") (by rfl))
    g_parent_of := He.glo_ok X G (c.fact 11 (f := .glo "parent_of") (by rfl))
    g_place_loggers := He.glo_ok X G (c.fact 12 (f := .glo "place_loggers") (by rfl))
    g_is_integer := He.glo_ok X G (c.fact 13 (f := .glo "is_integer") (by rfl))
    g__law_draw := He.glo_ok X G (c.fact 14 (f := .glo "_law_draw") (by rfl))
    g__law_pick := He.glo_ok X G (c.fact 15 (f := .glo "_law_pick") (by rfl))
    g__law_copied := He.glo_ok X G (c.fact 16 (f := .glo "_law_copied") (by rfl))
    g__law_same := He.glo_ok X G (c.fact 17 (f := .glo "_law_same") (by rfl))
    g__law_first_names := He.glo_ok X G (c.fact 18 (f := .glo "_law_first_names") (by rfl))
    g__law_named_right := He.glo_ok X G (c.fact 19 (f := .glo "_law_named_right") (by rfl))
    g__law_number := He.glo_ok X G (c.fact 20 (f := .glo "_law_number") (by rfl))
    g__law_asked := He.glo_ok X G (c.fact 21 (f := .glo "_law_asked") (by rfl))
    g_law := He.glo_ok X G (c.fact 22 (f := .glo "law") (by rfl))
    g_WARNING := He.int_ok X G (c.fact 23 (f := .int "WARNING" 30) (by rfl))
    g_NOTSET := He.int_ok X G (c.fact 24 (f := .int "NOTSET" 0) (by rfl))
    g_OWN_FIELDS := He.glo_ok X G (c.fact 25 (f := .glo "OWN_FIELDS") (by rfl))
    g_FIRST_NAMES := He.glo_ok X G (c.fact 26 (f := .glo "FIRST_NAMES") (by rfl))
    g_FIRST_NUMBERS := He.glo_ok X G (c.fact 27 (f := .glo "FIRST_NUMBERS") (by rfl))
    g_SIGNS := He.str_ok X G (c.fact 28 (f := .str "SIGNS" "abcdefghijklmnopqrstuvwxyzABCDEFGHIJKLMNOPQRSTUVWXYZ0123456789_") (by rfl))
    g_CRITICAL := He.int_ok X G (c.fact 29 (f := .int "CRITICAL" 50) (by rfl))
    b_len := He.free_ok X G (c.fact 30 (f := .free "len") (by rfl))
    b_isinstance := He.free_ok X G (c.fact 31 (f := .free "isinstance") (by rfl))
    b_int := He.free_ok X G (c.fact 32 (f := .free "int") (by rfl))
    b_str := He.free_ok X G (c.fact 33 (f := .free "str") (by rfl))
    b_list := He.free_ok X G (c.fact 34 (f := .free "list") (by rfl))
    b_tuple := He.free_ok X G (c.fact 35 (f := .free "tuple") (by rfl))
    b_bool := He.free_ok X G (c.fact 36 (f := .free "bool") (by rfl))
    b_dict := He.free_ok X G (c.fact 37 (f := .free "dict") (by rfl))
    b_range := He.free_ok X G (c.fact 38 (f := .free "range") (by rfl))
    b_sorted := He.free_ok X G (c.fact 39 (f := .free "sorted") (by rfl))
    b_all := He.free_ok X G (c.fact 40 (f := .free "all") (by rfl))
    b_zip := He.free_ok X G (c.fact 41 (f := .free "zip") (by rfl))
    c_LogRecord := He.cls_ok (c.fact 42 (f := .cls "LogRecord") (by rfl))
    n_LogRecord_name := He.noat_ok (c.fact 43 (f := .noat "LogRecord" "name") (by rfl))
    n_LogRecord_levelno := He.noat_ok (c.fact 44 (f := .noat "LogRecord" "levelno") (by rfl))
    n_LogRecord_levelname := He.noat_ok (c.fact 45 (f := .noat "LogRecord" "levelname") (by rfl))
    n_LogRecord_msg := He.noat_ok (c.fact 46 (f := .noat "LogRecord" "msg") (by rfl))
    n_LogRecord_given := He.noat_ok (c.fact 47 (f := .noat "LogRecord" "given") (by rfl))
    n_LogRecord_created := He.noat_ok (c.fact 48 (f := .noat "LogRecord" "created") (by rfl))
    n_LogRecord_extra := He.noat_ok (c.fact 49 (f := .noat "LogRecord" "extra") (by rfl))
    c_StreamHandler := He.cls_ok (c.fact 50 (f := .cls "StreamHandler") (by rfl))
    n_StreamHandler_filters := He.noat_ok (c.fact 51 (f := .noat "StreamHandler" "filters") (by rfl))
    n_StreamHandler_yard := He.noat_ok (c.fact 52 (f := .noat "StreamHandler" "yard") (by rfl))
    n_StreamHandler_level := He.noat_ok (c.fact 53 (f := .noat "StreamHandler" "level") (by rfl))
    n_StreamHandler_formatter := He.noat_ok (c.fact 54 (f := .noat "StreamHandler" "formatter") (by rfl))
    n_StreamHandler_name := He.noat_ok (c.fact 55 (f := .noat "StreamHandler" "name") (by rfl))
    n_StreamHandler_terminator := He.noat_ok (c.fact 56 (f := .noat "StreamHandler" "terminator") (by rfl))
    n_StreamHandler_closed := He.noat_ok (c.fact 57 (f := .noat "StreamHandler" "closed") (by rfl))
    n_StreamHandler_stream := He.noat_ok (c.fact 58 (f := .noat "StreamHandler" "stream") (by rfl))
    c_NullHandler := He.cls_ok (c.fact 59 (f := .cls "NullHandler") (by rfl))
    n_NullHandler_filters := He.noat_ok (c.fact 60 (f := .noat "NullHandler" "filters") (by rfl))
    n_NullHandler_yard := He.noat_ok (c.fact 61 (f := .noat "NullHandler" "yard") (by rfl))
    n_NullHandler_level := He.noat_ok (c.fact 62 (f := .noat "NullHandler" "level") (by rfl))
    n_NullHandler_formatter := He.noat_ok (c.fact 63 (f := .noat "NullHandler" "formatter") (by rfl))
    n_NullHandler_name := He.noat_ok (c.fact 64 (f := .noat "NullHandler" "name") (by rfl))
    n_NullHandler_terminator := He.noat_ok (c.fact 65 (f := .noat "NullHandler" "terminator") (by rfl))
    n_NullHandler_closed := He.noat_ok (c.fact 66 (f := .noat "NullHandler" "closed") (by rfl))
    c_Logger := He.cls_ok (c.fact 67 (f := .cls "Logger") (by rfl))
    n_Logger_filters := He.noat_ok (c.fact 68 (f := .noat "Logger" "filters") (by rfl))
    n_Logger_yard := He.noat_ok (c.fact 69 (f := .noat "Logger" "yard") (by rfl))
    n_Logger_name := He.noat_ok (c.fact 70 (f := .noat "Logger" "name") (by rfl))
    n_Logger_level := He.noat_ok (c.fact 71 (f := .noat "Logger" "level") (by rfl))
    n_Logger_propagate := He.noat_ok (c.fact 72 (f := .noat "Logger" "propagate") (by rfl))
    n_Logger_disabled := He.noat_ok (c.fact 73 (f := .noat "Logger" "disabled") (by rfl))
    n_Logger_handlers := He.noat_ok (c.fact 74 (f := .noat "Logger" "handlers") (by rfl))
    n_Logger_parent := He.noat_ok (c.fact 75 (f := .noat "Logger" "parent") (by rfl))
    c_Yard := He.cls_ok (c.fact 76 (f := .cls "Yard") (by rfl))
    n_Yard_clock := He.noat_ok (c.fact 77 (f := .noat "Yard" "clock") (by rfl))
    n_Yard_stream_texts := He.noat_ok (c.fact 78 (f := .noat "Yard" "stream_texts") (by rfl))
    n_Yard_file_rows := He.noat_ok (c.fact 79 (f := .noat "Yard" "file_rows") (by rfl))
    n_Yard_names_of := He.noat_ok (c.fact 80 (f := .noat "Yard" "names_of") (by rfl))
    n_Yard_numbers_of := He.noat_ok (c.fact 81 (f := .noat "Yard" "numbers_of") (by rfl))
    n_Yard_bar_level := He.noat_ok (c.fact 82 (f := .noat "Yard" "bar_level") (by rfl))
    n_Yard_logger_map := He.noat_ok (c.fact 83 (f := .noat "Yard" "logger_map") (by rfl))
    n_Yard_made := He.noat_ok (c.fact 84 (f := .noat "Yard" "made") (by rfl))
    n_Yard_handler_names := He.noat_ok (c.fact 85 (f := .noat "Yard" "handler_names") (by rfl))
    n_Yard_failure_rows := He.noat_ok (c.fact 86 (f := .noat "Yard" "failure_rows") (by rfl))
    n_Yard_root := He.noat_ok (c.fact 87 (f := .noat "Yard" "root") (by rfl))
    n_Yard_last_resort := He.noat_ok (c.fact 88 (f := .noat "Yard" "last_resort") (by rfl))
    m_Logger_setLevel := He.meth_ok (c.fact 89 (f := .meth "Logger" "setLevel") (by rfl))
    m_NullHandler_setLevel := He.meth_ok (c.fact 90 (f := .meth "NullHandler" "setLevel") (by rfl))
    m_Yard_add_level_name := He.meth_ok (c.fact 91 (f := .meth "Yard" "add_level_name") (by rfl))
    m_Yard_level_names := He.meth_ok (c.fact 92 (f := .meth "Yard" "level_names") (by rfl))
    m_Yard_level_name := He.meth_ok (c.fact 93 (f := .meth "Yard" "level_name") (by rfl))
    m_Yard_level_of := He.meth_ok (c.fact 94 (f := .meth "Yard" "level_of") (by rfl))
    m_Yard_make_record := He.meth_ok (c.fact 95 (f := .meth "Yard" "make_record") (by rfl))
    m_Yard_enrol := He.meth_ok (c.fact 96 (f := .meth "Yard" "enrol") (by rfl))
    m_Yard_getLogger := He.meth_ok (c.fact 97 (f := .meth "Yard" "getLogger") (by rfl))
    m_Yard_disable := He.meth_ok (c.fact 98 (f := .meth "Yard" "disable") (by rfl))
    m_Yard_bar := He.meth_ok (c.fact 99 (f := .meth "Yard" "bar") (by rfl))
    k_StreamHandler := He.mkr_ok (c.fact 100 (f := .mkr "StreamHandler") (by rfl))
    k_NullHandler := He.mkr_ok (c.fact 101 (f := .mkr "NullHandler") (by rfl))
    k_Logger := He.mkr_ok (c.fact 102 (f := .mkr "Logger") (by rfl))
    k_Yard := He.mkr_ok (c.fact 103 (f := .mkr "Yard") (by rfl))
    k_LogRecord := He.mkr_ok (c.fact 104 (f := .mkr "LogRecord") (by rfl))
    x_BadLevel := RB.exc_ok (c.more 0 (f := .exc "BadLevel" "level") (by rfl))
    e_BadLevel_BadLevel := RB.exm_ok (c.more 1 (f := .exm "BadLevel" "BadLevel" true) (by rfl))
    p_Logger := RB.pl_ok (c.more 2 (f := .pl "Logger") (by rfl))
    p_StreamHandler := RB.pl_ok (c.more 3 (f := .pl "StreamHandler") (by rfl))
    p_NullHandler := RB.pl_ok (c.more 4 (f := .pl "NullHandler") (by rfl))
    sub_Logger_Logger := RB.sub_ok (c.more 5 (f := .sub "Logger" "Logger") (by rfl))
    sub_StreamHandler_StreamHandler := RB.sub_ok (c.more 6 (f := .sub "StreamHandler" "StreamHandler") (by rfl))
    sub_NullHandler_NullHandler := RB.sub_ok (c.more 7 (f := .sub "NullHandler" "NullHandler") (by rfl))
    cf_Filterer_init := RB.cf_ok (c.more 8 (f := .cf "Filterer" "__init__") (by rfl))
    cf_Handler_init := RB.cf_ok (c.more 9 (f := .cf "Handler" "__init__") (by rfl))
    dt_Yard_make_record_0 := RB.dtup_ok (c.more 10 (f := .dtup ("Yard", some "make_record") 0) (by rfl))
    d_Filterer_init := c.d.def_ 0 (d := dd_Filterer_init) (by rfl)
    d_copied_value := c.d.def_ 1 (d := dd_copied_value) (by rfl)
    d_BadLevel_init := c.d.def_ 2 (d := dd_BadLevel_init) (by rfl)
    d_LogRecord_init := c.d.def_ 3 (d := dd_LogRecord_init) (by rfl)
    d_Handler_init := c.d.def_ 4 (d := dd_Handler_init) (by rfl)
    d_NullHandler_init := c.d.def_ 5 (d := dd_NullHandler_init) (by rfl)
    d_StreamHandler_init := c.d.def_ 6 (d := dd_StreamHandler_init) (by rfl)
    d_is_part := c.d.def_ 7 (d := dd_is_part) (by rfl)
    d_are_parts := c.d.def_ 8 (d := dd_are_parts) (by rfl)
    d_parent_of := c.d.def_ 9 (d := dd_parent_of) (by rfl)
    d_place_loggers := c.d.def_ 10 (d := dd_place_loggers) (by rfl)
    d_Logger_setLevel := c.d.def_ 11 (d := dd_Logger_setLevel) (by rfl)
    d_NullHandler_setLevel := c.d.def_ 12 (d := dd_NullHandler_setLevel) (by rfl)
    d_is_integer := c.d.def_ 13 (d := dd_is_integer) (by rfl)
    d_Logger_init := c.d.def_ 14 (d := dd_Logger_init) (by rfl)
    d_Yard_init := c.d.def_ 15 (d := dd_Yard_init) (by rfl)
    d_Yard_add_level_name := c.d.def_ 16 (d := dd_Yard_add_level_name) (by rfl)
    d_Yard_level_names := c.d.def_ 17 (d := dd_Yard_level_names) (by rfl)
    d_Yard_level_name := c.d.def_ 18 (d := dd_Yard_level_name) (by rfl)
    d_Yard_level_of := c.d.def_ 19 (d := dd_Yard_level_of) (by rfl)
    d_Yard_make_record := c.d.def_ 20 (d := dd_Yard_make_record) (by rfl)
    d_Yard_enrol := c.d.def_ 21 (d := dd_Yard_enrol) (by rfl)
    d_Yard_getLogger := c.d.def_ 22 (d := dd_Yard_getLogger) (by rfl)
    d_Yard_disable := c.d.def_ 23 (d := dd_Yard_disable) (by rfl)
    d_Yard_bar := c.d.def_ 24 (d := dd_Yard_bar) (by rfl)
    d__law_draw := c.d.def_ 25 (d := dd__law_draw) (by rfl)
    d__law_pick := c.d.def_ 26 (d := dd__law_pick) (by rfl)
    d__law_copied := c.d.def_ 27 (d := dd__law_copied) (by rfl)
    d__law_same := c.d.def_ 28 (d := dd__law_same) (by rfl)
    d__law_first_names := c.d.def_ 29 (d := dd__law_first_names) (by rfl)
    d__law_named_right := c.d.def_ 30 (d := dd__law_named_right) (by rfl)
    d__law_number := c.d.def_ 31 (d := dd__law_number) (by rfl)
    d__law_asked := c.d.def_ 32 (d := dd__law_asked) (by rfl)
    d_law := c.d.def_ 33 (d := dd_law) (by rfl)
    t_FIRST_NAMES := c.tb 0 (t := ("FIRST_NAMES", kv_FIRST_NAMES)) (by rfl) P
    t_FIRST_NUMBERS := c.tb 1 (t := ("FIRST_NUMBERS", kv_FIRST_NUMBERS)) (by rfl) P
end K17

set_option Elab.async false
set_option linter.all false
set_option maxRecDepth 100000
set_option maxHeartbeats 4000000
/-! The head's facts over the objects that the module's names reach, level by level. -/
namespace RHd
open PySem PySem.Spec PyProof.Rows L2 He RB
/-- what the objects at a level name -/
def lvl (g : Addr → Option Obj) : Nat → List Addr → List Addr
  | 0, as => as
  | n + 1, as => as ++ lvl g n (as.flatMap fun a => match g a with
    | some o => (refsD o).filter fun b => !Nat.beq b a
    | none => [])
def asL (g : Addr → Option Obj) (n : Nat) : List Addr := lvl g n [mainGlobals]
def obsLG (n : Nat) (fa : List Fa) (fx : List Fx) (fn : List DefD) (ts : List Tb) (g : Addr → Option Obj) : AlB := obsB fa fx fn ts (frG g (extraB g fx (asL g n)))
def hookL (n : Nat) (fa : List Fa) (fx : List Fx) (fn : List DefD) (ts : List Tb) : PySem.W.Hook where
  α := AlB
  obs := fun s => obsLG n fa fx fn ts s.heap.get?
  val := fun w => valB fn ts w
  says := fun w h => ∃ K : PySem.W.Frag, K.In h ∧ SaysB fa fx fn ts w K
  of := fun _ _ e => ⟨_, frG_in, e⟩
  keeps := fun _ _ _ ⟨K, hK, c⟩ k => ⟨K, PySem.W.Frag.In.keeps hK k, c⟩
theorem obsLG_eq {n : Nat} {fa : List Fa} {fx : List Fx} {fn : List DefD} {ts : List Tb} {g : Addr → Option Obj} {s : Shared} (h : ∀ a, g a = s.heap.get? a) : obsLG n fa fx fn ts g = (hookL n fa fx fn ts).obs s := by
  have e : g = s.heap.get? := funext h
  rw [e] <;> rfl
end RHd

set_option Elab.async false
set_option linter.all false
set_option maxRecDepth 100000
set_option maxHeartbeats 0
namespace K17
open PySem PySem.Spec PyProof.Rows L2 RC
/-! ### the head -/
abbrev R : PySem.W.OpenRow := PySem.W.OpenLaw.row PySem.Challenge.rw_recordyard_k02_names_of_levels
abbrev hk : PySem.W.Hook := RHd.hookL 4 fa fx fn ts
def ob (s : PySem.W.SharedT) : RB.AlB := RHd.obsLG 4 fa fx fn ts (HandSHeadRun.getT s)
theorem ob_eq (s : PySem.W.SharedT) : ob s = hk.obs s.abs := RHd.obsLG_eq (HandSHeadRun.getT_eq s)
open HandSHeadRun PySem.W
abbrev AlR : Type := List (Option (List (Option (Key × Int)))) × Bool
noncomputable def fr (s : PySem.W.SharedT) : PySem.W.Frag := He.frG (HandSHeadRun.getT s) (RB.extraB (HandSHeadRun.getT s) fx (RHd.asL (HandSHeadRun.getT s) 4))
noncomputable def obD (s : PySem.W.SharedT) : He.AlD := He.obsD fa fn (fr s)
noncomputable def obR (s : PySem.W.SharedT) : AlR := (ts.map fun t => RB.tbRow (fr s) t.1, (fx.all fun f => f.ok (fr s)) && ts.all fun t => RB.tbVals (fr s) t)
noncomputable abbrev lk (w : World) (s : PySem.W.SharedT) : Bool := HandSHeadRun.looksF R.prog (boot_heap w.params) s.abs
noncomputable abbrev sn (s : PySem.W.SharedT) := HandSHeadRun.seenQ (PySem.W.view R.prog [50]) names (importedModules R.prog.main.body) (fun s => xlAt (PySem.W.view R.prog [50]) [] s && recOk R.toRowW.records s) s.abs
theorem hjoin3 {S A B D C : Type} {o : Option S} {a : S → A} {b : S → B} {d : S → D} {r : S → C} {x : A} {y : B} {v : D} {z : C} (h1 : o.map (fun s => (a s, b s, r s)) = some (x, y, z)) (h2 : o.map d = some v) : o.map (fun s => (a s, b s, (d s, r s))) = some (x, y, (v, z)) := by
  cases o with
  | none => cases h1
  | some s =>
    have e1 := Option.some.inj h1
    have e2 := Option.some.inj h2
    injection e1 with p1 p2
    injection p2 with p2 p3
    show some (a s, b s, (d s, r s)) = _
    rw [p1, p2, p3, e2]
theorem r1_f (w : World) (os : OsState) : (HandSHeadRun.endF (HandSHeadRun.stepQ (HandSHeadRun.denQ tabQ) R.prog (w.withFollow "special-get-raises" false)) 13000 R.prog (w.withFollow "special-get-raises" false) os).map (fun s => (lk (w.withFollow "special-get-raises" false) s, sn s, obR s)) = some (true, openGood (PySem.W.view R.prog [50]) names, (ts.map fun t => RB.tbWant (w.withFollow "special-get-raises" false).params t.2, true)) := by
  kernel_rfl
theorem r2_f (w : World) (os : OsState) : (HandSHeadRun.endF (HandSHeadRun.stepQ (HandSHeadRun.denQ tabQ) R.prog (w.withFollow "special-get-raises" false)) 13000 R.prog (w.withFollow "special-get-raises" false) os).map obD = some (He.valD fn) := by
  kernel_rfl
theorem run_f (w : World) : HandSHeadRun.RunEq R (PySem.W.view R.prog [50]) hk ob 13000 names (w.withFollow "special-get-raises" false) := fun os => hjoin3 (r1_f w os) (r2_f w os)
theorem r1_t (w : World) (os : OsState) : (HandSHeadRun.endF (HandSHeadRun.stepQ (HandSHeadRun.denQ tabQ) R.prog (w.withFollow "special-get-raises" true)) 13000 R.prog (w.withFollow "special-get-raises" true) os).map (fun s => (lk (w.withFollow "special-get-raises" true) s, sn s, obR s)) = some (true, openGood (PySem.W.view R.prog [50]) names, (ts.map fun t => RB.tbWant (w.withFollow "special-get-raises" true).params t.2, true)) := by
  kernel_rfl
theorem r2_t (w : World) (os : OsState) : (HandSHeadRun.endF (HandSHeadRun.stepQ (HandSHeadRun.denQ tabQ) R.prog (w.withFollow "special-get-raises" true)) 13000 R.prog (w.withFollow "special-get-raises" true) os).map obD = some (He.valD fn) := by
  kernel_rfl
theorem run_t (w : World) : HandSHeadRun.RunEq R (PySem.W.view R.prog [50]) hk ob 13000 names (w.withFollow "special-get-raises" true) := fun os => hjoin3 (r1_t w os) (r2_t w os)
theorem run (w : World) : HandSHeadRun.RunEq R (PySem.W.view R.prog [50]) hk ob 13000 names w := PySem.W.byRow2 "special-get-raises" (P := fun w => HandSHeadRun.RunEq R (PySem.W.view R.prog [50]) hk ob 13000 names w) run_f run_t w
end K17

set_option Elab.async false
set_option linter.all false
set_option maxRecDepth 100000
set_option maxHeartbeats 4000000
/-! Defs called in an except suite, whatever the context of the handled error is. -/
namespace RI
open PySem PySem.Spec PyProof.Rows L2 RC
variable {P : Program} {w : World} {K : PySem.W.Frag} {mg : Str → Option Value} {base : Heap} {f : Addr} {fd : FuncData} {k : Nat} {ps : List Str} {sp : Sp}
/-- what a def promises of a call there -/
structure HotOk (P : Program) (w : World) (K : PySem.W.Frag) (mg : Str → Option Value) (base : Heap)
    (k : Nat) (f : Addr) (fd : FuncData) (ps : List Str) (sp : Sp) : Prop where
  size : ∀ vs H Q, sp vs H Q L2.E0 → vs.length = ps.length
  go : ∀ (A : Around) (st : List Env) (s : Shared) (H : Hp) (us : List Value) (vs : List V) (Q : VK) (p : Addr × Obj),
    L2H.RoomH k A → L2H.PinOk st H s p → Env0 P w K mg base A st s H → BindsTo s fd ⟨us, []⟩ (ps.zip us) →
    Vals vs us → sp vs H Q L2.E0 → codeAny (model P w) A (.call (.ref f) ⟨us, []⟩) (CR L2.CX0 st P w H s Q L2.E0) s
def CallI (P : Program) (w : World) (K : PySem.W.Frag) (mg : Str → Option Value) (base : Heap)
    (k : Nat) (f : Addr) (ps : List Str) (sp : Sp) : Prop :=
  ∃ fd, HotOk P w K mg base k f fd ps sp ∧ Binds K fd ps [] ∧ PySem.W.keepIn K (.ref f) = true
theorem CallI.up {j : Nat} (c : CallI P w K mg base j f ps sp) (h : j ≤ k) : CallI P w K mg base k f ps sp :=
  let ⟨fd, o, r⟩ := c
  ⟨fd, ⟨o.size, fun A st s H us vs Q p hr => o.go A st s H us vs Q p (hr.mono h)⟩, r⟩
theorem stands_callI {x qual : Str} {N : List Str} {st : Stmt} (F : Stands K x qual st [] f) (S : FnScope N ps (defScope st))
    (size : ∀ vs H Q E, sp vs H Q E → vs.length = ps.length)
    (body : ∀ (cdv : Value) (A : Around) (outer : List Env) (s : Shared) (H : Hp) (vs : List V) (Q : VK) (p : Addr × Obj),
      L2H.RoomH k (A.deeper (envOfC qual (defScope st) s.heap.objs.size f cdv)) → sp vs H Q L2.E0 →
      ∃ t, PSs (L2H.cxH L2.CX0 P w K mg base N qual (defScope st) f cdv A outer s H L2.E0 p) (defBody st) t ∧
        t { nx := fun _ H' => Q .non H', rt := Q } (L2.start N vs) H)
    (bind : ∀ (kV doc pm : Value) (an : Option Addr) (cdv ct : Value) (us : List Value), us.length = ps.length →
      bindArgs (PySem.W.fnOf x qual (defArgs st) (defBody st) (defScope st) .none kV doc pm an cdv ct) ⟨us, []⟩ = pure (ps.zip us)) :
    CallI P w K mg base (k + 1) f ps sp := by
  obtain ⟨fd, D⟩ := F
  refine ⟨fd, ⟨fun vs H Q h => size _ _ _ _ h, fun A outer s H us vs Q p hr pin e0 bd rel h => ?_⟩, D.bindsN bind, D.kp⟩
  obtain ⟨oc, od, dV, kV, doc, pm, an, cdv, ct, osl, rfl, look, code, _, _⟩ := D.ex
  have n1 := size _ _ _ _ h
  have inK : K.In s.heap := e0.mod.kin.keeps fun b o e => (e0.bs b o e).1
  have nolim : s.heap.NoLimit := e0.mod.nolimit.keeps fun b o e => (e0.bs b o e).1
  have kinds : ∀ y ∈ ps.zip us, (defScope st).names.lookup y.1 = some .local ∨
      ((defScope st).names.lookup y.1 = some .cell ∧ ((cellsFrom (s.heap.objs.size + 1) (defScope st).names []).lookup y.1).isSome = true) := by
    rintro ⟨n, v⟩ hy
    rcases S.par n (List.of_mem_zip hy).1 with q | q
    · exact .inl q
    · exact .inr ⟨q, PySem.W.cellsFrom_some _ _ _ (.inl q)⟩
  refine codeAny_call_function hr.depth (inK _ _ look) rfl S.co S.gen rfl (PySem.W.codeRec_of inK code) (bd _ _ _ _ ?_)
  refine wpAny_newFunctionEnv_cells S.kind kinds fun env he s1 x => ?_
  subst he
  refine ⟨nolim.keeps x.toInCall.keep, codeAny_func ?_⟩
  obtain ⟨t, ht, hq⟩ := body cdv A outer s H vs Q p (hr.deeper _) h
  have I := L2H.inv_startH (E := L2.E0) (CX := L2.CX0) (w := w) S pin e0 n1 rel x
  refine wpAny_mono (ht.run [] s1 _ H _ I hq) (fun fl s' hs => ?_) fun e s' hs => hs
  rcases fl with _ | _ | _ | u
  · obtain ⟨σ', H', J, q⟩ := hs
    exact ⟨.non, H', J.os, J.bare, J.base, J.hok, rfl, q⟩
  · obtain ⟨_, _, _, q⟩ := hs
    exact q.elim
  · obtain ⟨_, _, _, q⟩ := hs
    exact q.elim
  · obtain ⟨v, σ', H', J, rv, q⟩ := hs
    exact ⟨v, H', J.os, J.bare, J.base, J.hok, rv, q⟩
section
variable {X : Cx} {C : Addr} {m : Str} {pos apos : Pos} {e o : Expr} {es : List Expr} {ta : TE} {t : TA} {pl2 : Sem Bool}
/-- some object is held in the suite -/
def Held0 (X : Cx) : Prop := ∃ p : Addr × Obj, p ∈ X.pn
def tMethI (C : Addr) (m : Str) (sp : Sp) (ta : TE) (t : TA) : TE := fun σ H Q => ta σ H fun x H1 =>
  ∃ a dx fs, x = .ref a ∧ H1 a = some (.ins C dx fs) ∧ fs.lookup m = none ∧ t σ H1 fun vs H2 => sp (x :: vs) H2 Q L2.E0
theorem run_I {pins : List (Addr × Obj)} {σ : L2.St} {H : Hp} {s : Shared} {Q : VK} {us : List Value} {vs : List V}
    (c : CallI X.prog X.w X.K X.mg X.base k f ps sp) (hr : L2H.RoomH k X.A) (hp : Held0 X)
    (I : Inv X pins σ H s) (r : Vals vs us) (h : sp vs H Q L2.E0) : wpAny (model X.prog X.w) X.A (call (.ref f) us) (EP X pins σ Q) X.xe s := by
  obtain ⟨fd, F, hb, hk⟩ := c
  obtain ⟨p, hp⟩ := hp
  have n1 : us.length = ps.length := r.length.symm.trans (F.size _ _ _ h)
  have b := hb s us I.kIn (by rw [List.append_nil]; exact n1)
  rw [List.append_nil] at b
  obtain ⟨q1, q2, q3, q4, q5⟩ := I.pin p (List.mem_append_left _ hp)
  have pin : L2H.PinOk X.stack H s p := ⟨q1, q2, fun z => (List.mem_cons.mp (I.stkSub p.1 z)).elim q3 q4, q5⟩
  refine wpAny_call (codeAny_mono (F.go X.A X.stack s H us vs Q p hr pin I.env0 b r h) fun z s' hz => ?_)
  rcases z with e | fl
  · exact hz.elim
  · rcases fl with _ | _ | _ | u
    · exact hz.elim
    · exact hz.elim
    · exact hz.elim
    · exact I.after hz
/-- o.m(e, ..) there -/
theorem pe_mtI (he : PE X o ta) (cl : Cls X.K C) (hm : Meth X.K C m f) (c : CallI X.prog X.w X.K X.mg X.base k f ps sp)
    (hr : L2H.RoomH k X.A) (hp : Held0 X) (ha : PA X (e :: es) t)
    (hst : starEach (e :: es) X.env = (false, eval e X.env) :: starEach es X.env := by rfl) (hpl : (backTo pos (starEach es X.env)).any (·.1) = false := by rfl)
    (ht : eval (.Call (.Attribute o m apos) (e :: es) [] pos) X.env = (do
      let ov ← eval o X.env
      standAt apos.atName
      let (f, first) ← holding [ov] (getMethod ov m pl2)
      callWith pos f first (backTo pos (starEach (e :: es) X.env)) (backToKw pos (keywordEach [] X.env))) := by rfl) :
    PE X (.Call (.Attribute o m apos) (e :: es) [] pos) (tMethI C m sp ta t) := by
  refine ⟨fun pins s σ H Q I h => ?_⟩
  refine PySem.W.methodCall_KW (pl := pl2) (thn (he.run pins s σ H _ I h) fun u s1 ⟨x, H1, I1, rx, a, dx, fs, ex, ea, nf, q⟩ => ?_) ht
  subst ex
  obtain rfl : u = Value.ref a := rx
  refine getmeth_ok I1 ea cl hm nf ?_
  refine PySem.W.callWith_K (first := [.ref a]) (h₀ := X.base) I.ok.mod.kin hm.kp (thn (ha.run pos pins s1 σ H1 _ I1 q) fun us s2 ⟨vs, H2, I2, r, q2⟩ => ⟨I2.kIn, ?_⟩) hst hpl
  exact run_I (us := .ref a :: us) (vs := .ref a :: vs) c hr hp I2 (.cons rfl r) q2
/-- o.m() there -/
theorem pe_mtI0 (he : PE X o ta) (cl : Cls X.K C) (hm : Meth X.K C m f) (c : CallI X.prog X.w X.K X.mg X.base k f ps sp)
    (hr : L2H.RoomH k X.A) (hp : Held0 X)
    (ht : eval (.Call (.Attribute o m apos) [] [] pos) X.env = (do
      let ov ← eval o X.env
      standAt apos.atName
      let (f, first) ← holding [ov] (getMethod ov m pl2)
      callWith pos f first (backTo pos (starEach [] X.env)) (backToKw pos (keywordEach [] X.env))) := by rfl) :
    PE X (.Call (.Attribute o m apos) [] [] pos) (tMethI C m sp ta tNil) := by
  refine ⟨fun pins s σ H Q I h => ?_⟩
  refine PySem.W.methodCall_KW (pl := pl2) (thn (he.run pins s σ H _ I h) fun u s1 ⟨x, H1, I1, rx, a, dx, fs, ex, ea, nf, q⟩ => ?_) ht
  subst ex
  obtain rfl : u = Value.ref a := rx
  refine getmeth_ok I1 ea cl hm nf ?_
  exact PySem.W.callWith_K0 (first := [.ref a]) I1.kIn hm.kp (run_I (us := [.ref a]) (vs := [.ref a]) c hr hp I1 (.cons rfl .nil) q)
theorem held_of {X : Cx} {a : Addr} {oe : Obj} {pn : List (Addr × Obj)} : Held0 (X.suite a ((a, oe) :: pn)) := ⟨(a, oe), List.mem_cons_self⟩
theorem room_suite {X : Cx} {a : Addr} {pn : List (Addr × Obj)} (hr : Room k X.A) : L2H.RoomH k (X.suite a pn).A := ⟨hr.dp, hr.un⟩
end
end RI

set_option Elab.async false
set_option linter.all false
set_option maxRecDepth 100000
set_option maxHeartbeats 4000000
/-! Further rules: two lists of the same objects are equal; a text times an int. -/
namespace RX
open PySem PySem.Spec PyProof.Rows PySem.SeqAt L2
open RD
/-- two lists of objects that are the same, or of unlike lengths -/
def rEqLL (K : PySem.W.Frag) : R2 := fun x y H Q => ∃ (a b : Addr) (as bs : List Addr), x = .ref a ∧ y = .ref b ∧ SqL K H a (as.map V.ref) ∧ SqL K H b (bs.map V.ref) ∧ (as = bs ∨ as.length ≠ bs.length) ∧ Q (.bl (decide (as = bs))) H
def rNeLL (K : PySem.W.Frag) : R2 := fun x y H Q => ∃ (a b : Addr) (as bs : List Addr), x = .ref a ∧ y = .ref b ∧ SqL K H a (as.map V.ref) ∧ SqL K H b (bs.map V.ref) ∧ (as = bs ∨ as.length ≠ bs.length) ∧ Q (.bl (!decide (as = bs))) H
section
variable {X : Cx}
theorem size_ne {as bs : List Addr} (h : as.length ≠ bs.length) : ((as.map Value.ref).toArray.size != (bs.map Value.ref).toArray.size) = true := by simpa using h
theorem op_eqLL (hu : X.A.units < cLine) : OpR X (compareOp .Eq) (rEqLL X.K) := by
  intro pins s σ H x y v u Q I rx ry h
  obtain ⟨a, b, as, bs, rfl, rfl, ha, hb, c, q⟩ := h
  cases rx
  cases ry
  obtain ⟨its, rv, hl, _⟩ := I.list ha
  obtain ⟨its2, rv2, hl2, _⟩ := I.list hb
  obtain rfl := vals_refs rv
  obtain rfl := vals_refs rv2
  rcases c with rfl | c
  · refine eq_listAt (e := fun _ => true) hl.isList hl2.isList rfl hu (fun j h1 h2 => EqAt.same _) ?_
    rw [all_true]
    rw [decide_eq_true rfl] at q
    exact fin_bl I q rfl
  · rw [decide_eq_false (fun z => c (by rw [z]))] at q
    exact eq_list_lengthsAt hl.isList hl2.isList (size_ne c) hu (fin_bl I q rfl)
theorem op_neLL (hu : X.A.units < cLine) : OpR X (compareOp .NotEq) (rNeLL X.K) := by
  intro pins s σ H x y v u Q I rx ry h
  obtain ⟨a, b, as, bs, rfl, rfl, ha, hb, c, q⟩ := h
  cases rx
  cases ry
  obtain ⟨its, rv, hl, _⟩ := I.list ha
  obtain ⟨its2, rv2, hl2, _⟩ := I.list hb
  obtain rfl := vals_refs rv
  obtain rfl := vals_refs rv2
  rcases c with rfl | c
  · refine RcNeAt.lists (e := fun _ => true) hl.isList hl2.isList rfl hu (fun j h1 h2 => EqAt.same _) X.prog X.w X.xe _ ?_
    rw [all_true]
    rw [decide_eq_true rfl] at q
    exact fin_bl I q rfl
  · rw [decide_eq_false (fun z => c (by rw [z]))] at q
    exact RcNeAt.lists_lengths hl.isList hl2.isList (size_ne c) hu X.prog X.w X.xe _ (fin_bl I q rfl)
end
end RX

set_option Elab.async false
set_option linter.all false
set_option maxRecDepth 100000
set_option maxHeartbeats 4000000
/-! How long the text of a number is. -/
namespace RN
open PySem PySem.Spec PyProof.Rows L2
theorem log2_div (n : Nat) (h : 10 ≤ n) : (n / 10).log2 + 1 ≤ n.log2 := by
  have h1 : n / 10 ≤ n / 2 := by omega
  have h2 : n / 10 ≠ 0 := by omega
  have h3 : n ≠ 0 := by omega
  have h4 := Nat.log2_self_le h2
  have h5 : 2 ^ ((n / 10).log2 + 1) ≤ n := by rw [Nat.pow_succ]; omega
  exact (Nat.le_log2 h3).mpr h5
theorem len_numL (n : Nat) : (TL.numL n).length ≤ n.log2 + 1 := by
  induction n using Nat.strongRecOn with
  | ind n ih =>
    by_cases h : n < 10
    · rw [TL.numL_lt h]; simp
    · have h : 10 ≤ n := by omega
      rw [TL.numL_step h, List.length_append]
      have := ih (n / 10) (by omega)
      have := log2_div n h
      simp only [List.length_singleton]
      omega
theorem len_toString (i : Int) : (Str.ofString (toString i)).length ≤ i.natAbs.log2 + 2 := by
  cases i with
  | ofNat n =>
    have e := TL.tl_num n
    rw [TL.len_tl]
    show (TL.tl (Str.ofString (toString ((n : Nat) : Int)))).length ≤ _
    rw [e]
    have := len_numL n
    show _ ≤ n.log2 + 2
    omega
  | negSucc n =>
    have e := TL.tl_num (n + 1)
    have e2 : toString (Int.negSucc n) = "-" ++ toString (((n + 1 : Nat)) : Int) := rfl
    rw [TL.len_tl, e2]
    have e3 : TL.tl (Str.ofString ("-" ++ toString (((n + 1 : Nat)) : Int))) = 45 :: TL.tl (Str.ofString (toString (((n + 1 : Nat)) : Int))) := by
      show (Str.ofString _).cps.toList = 45 :: (Str.ofString _).cps.toList
      rw [signs_ofString, signs_ofString, String.toList_append, List.map_append]; rfl
    rw [e3, e, List.length_cons]
    have := len_numL (n + 1)
    show _ ≤ (n + 1).log2 + 2
    omega
end RN

set_option Elab.async false
set_option linter.all false
set_option maxRecDepth 100000
set_option maxHeartbeats 4000000
/-! Further rules: a list and an empty one. -/
namespace RY
open PySem PySem.Spec PyProof.Rows PySem.SeqAt L2
open RD
def rEqE (K : PySem.W.Frag) : R2 := fun x y H Q => ∃ (a b : Addr) (xs : List V), x = .ref a ∧ y = .ref b ∧ SqL K H a xs ∧ SqL K H b [] ∧ Q (.bl (xs.isEmpty)) H
def rNeE (K : PySem.W.Frag) : R2 := fun x y H Q => ∃ (a b : Addr) (xs : List V), x = .ref a ∧ y = .ref b ∧ SqL K H a xs ∧ SqL K H b [] ∧ Q (.bl (!xs.isEmpty)) H
section
variable {X : Cx}
theorem vals_nil {us : List Value} (h : Vals [] us) : us = [] := by cases h; rfl
theorem vals_cons {x : V} {xs : List V} {us : List Value} (h : Vals (x :: xs) us) : (us.toArray.size != (([] : List Value)).toArray.size) = true := by cases h; simp
theorem op_eqE (hu : X.A.units < cLine) : OpR X (compareOp .Eq) (rEqE X.K) := by
  intro pins s σ H x y v u Q I rx ry h
  obtain ⟨a, b, xs, rfl, rfl, ha, hb, q⟩ := h
  cases rx
  cases ry
  obtain ⟨its, rv, hl, _⟩ := I.list ha
  obtain ⟨its2, rv2, hl2, _⟩ := I.list hb
  obtain rfl := vals_nil rv2
  cases xs with
  | nil =>
    obtain rfl := vals_nil rv
    refine eq_listAt (e := fun _ => true) hl.isList hl2.isList rfl hu (fun j h1 h2 => EqAt.same _) ?_
    rw [all_true]
    exact fin_bl I q rfl
  | cons x xs => exact eq_list_lengthsAt hl.isList hl2.isList (vals_cons rv) hu (fin_bl I q rfl)
theorem op_neE (hu : X.A.units < cLine) : OpR X (compareOp .NotEq) (rNeE X.K) := by
  intro pins s σ H x y v u Q I rx ry h
  obtain ⟨a, b, xs, rfl, rfl, ha, hb, q⟩ := h
  cases rx
  cases ry
  obtain ⟨its, rv, hl, _⟩ := I.list ha
  obtain ⟨its2, rv2, hl2, _⟩ := I.list hb
  obtain rfl := vals_nil rv2
  cases xs with
  | nil =>
    obtain rfl := vals_nil rv
    refine RcNeAt.lists (e := fun _ => true) hl.isList hl2.isList rfl hu (fun j h1 h2 => EqAt.same _) X.prog X.w X.xe _ ?_
    rw [all_true]
    exact fin_bl I q rfl
  | cons x xs => exact RcNeAt.lists_lengths hl.isList hl2.isList (vals_cons rv) hu X.prog X.w X.xe _ (fin_bl I q rfl)

def flatW : V → Bool
  | .int _ => true
  | .bl _ => true
  | .str _ => true
  | .non => true
  | .ref _ => true
  | _ => false
/-- two lists of the same plain values -/
def rEqV (K : PySem.W.Frag) : R2 := fun x y H Q => ∃ (a b : Addr) (xs : List V), x = .ref a ∧ y = .ref b ∧ SqL K H a xs ∧ SqL K H b xs ∧ xs.all flatW = true ∧ Q (.bl true) H
def rNeV (K : PySem.W.Frag) : R2 := fun x y H Q => ∃ (a b : Addr) (xs : List V), x = .ref a ∧ y = .ref b ∧ SqL K H a xs ∧ SqL K H b xs ∧ xs.all flatW = true ∧ Q (.bl false) H
theorem eq_same {A : Around} {s : Shared} {x : V} {u u' : Value} (h : RelV x u) (h' : RelV x u') (hf : flatW x = true) : EqAt A s u u' true := by
  cases x with
  | int i =>
    obtain ⟨t, rfl⟩ := h
    obtain ⟨t', rfl⟩ := h'
    have e := EqAt.int_int (A := A) (s := s) i t i t'
    rw [beq_self_eq_true] at e; exact e
  | str i =>
    obtain ⟨t, rfl⟩ := h
    obtain ⟨t', rfl⟩ := h'
    have e := EqAt.str_str (A := A) (s := s) i t i t'
    rw [beq_self_eq_true] at e; exact e
  | bl b => cases h; cases h'; exact EqAt.same _
  | non => cases h; cases h'; exact EqAt.same _
  | ref a => cases h; cases h'; exact EqAt.same _
  | _ => cases hf
theorem eq_all {A : Around} {s : Shared} : ∀ {xs : List V} {us us' : List Value}, Vals xs us → Vals xs us' → xs.all flatW = true → us.length = us'.length ∧ ∀ (j : Nat) (h1 : j < us.length) (h2 : j < us'.length), EqAt A s us[j] us'[j] true
  | [], _, _, .nil, .nil, _ => ⟨rfl, fun j h1 _ => absurd h1 (Nat.not_lt_zero _)⟩
  | x :: xs, _, _, .cons h t, .cons h' t', hf => by
    rw [List.all_cons, Bool.and_eq_true] at hf
    have ih := eq_all (A := A) (s := s) t t' hf.2
    refine ⟨congrArg (· + 1) ih.1, fun j h1 h2 => ?_⟩
    cases j with
    | zero => exact eq_same h h' hf.1
    | succ j => exact ih.2 j (Nat.lt_of_succ_lt_succ h1) (Nat.lt_of_succ_lt_succ h2)
theorem all_tt (n : Nat) : (List.range n).all (fun _ => true) = true := by simp
theorem op_eqV (hu : X.A.units < cLine) : OpR X (compareOp .Eq) (rEqV X.K) := by
  intro pins s σ H x y v u Q I rx ry h
  obtain ⟨a, b, xs, rfl, rfl, ha, hb, hf, q⟩ := h
  cases rx
  cases ry
  obtain ⟨its, rv, hl, _⟩ := I.list ha
  obtain ⟨its2, rv2, hl2, _⟩ := I.list hb
  have e := eq_all (A := X.A.in1) (s := s) rv rv2 hf
  refine eq_listAt (e := fun _ => true) hl.isList hl2.isList (by simpa using e.1) hu (fun j h1 h2 => by simpa using e.2 j (by simpa using h1) (by simpa using h2)) ?_
  rw [all_tt]
  exact fin_bl I q rfl
theorem op_neV (hu : X.A.units < cLine) : OpR X (compareOp .NotEq) (rNeV X.K) := by
  intro pins s σ H x y v u Q I rx ry h
  obtain ⟨a, b, xs, rfl, rfl, ha, hb, hf, q⟩ := h
  cases rx
  cases ry
  obtain ⟨its, rv, hl, _⟩ := I.list ha
  obtain ⟨its2, rv2, hl2, _⟩ := I.list hb
  have e := eq_all (A := X.A.in1) (s := s) rv rv2 hf
  refine RcNeAt.lists (e := fun _ => true) hl.isList hl2.isList (by simpa using e.1) hu (fun j h1 h2 => by simpa using e.2 j (by simpa using h1) (by simpa using h2)) X.prog X.w X.xe _ ?_
  rw [all_tt]
  exact fin_bl I q rfl
end
end RY

set_option Elab.async false
set_option linter.all false
set_option maxRecDepth 100000
set_option maxHeartbeats 4000000
/-! Calls of methods and classes by keywords alone. -/
namespace RK
open PySem PySem.Spec PyProof.Rows L2 RC
/-- the def at f may be called with n values and the keywords ks -/
def CallKw (P : Program) (w : World) (K : PySem.W.Frag) (mg : Str → Option Value) (base : Heap) (k : Nat) (f : Addr) (ps : List Str) (n : Nat) (ks : List Str) (gV : List V → List V → List V) (sp : Sp) : Prop :=
  ∃ (fd : FuncData) (g : List Value → List Value → List Value), FnOk P w K mg base CX0 k f fd ps sp ∧ KBn K fd ps n ks g gV ∧ PySem.W.keepIn K (.ref f) = true
section
variable {X : Cx} {k : Nat} {f C : Addr} {ps ks : List Str} {sp : Sp} {gV : List V → List V → List V} {x m : Str} {p pos apos : Pos} {o : Expr} {kws : List Keyword} {ta : TE} {tk : TA} {pl : Sem Bool}
/-- o.m(k = v, ..) -/
def tMethK (C : Addr) (m : Str) (n : Nat) (sp : Sp) (gV : List V → List V → List V) (ta : TE) (tk : TA) : TE := fun σ H Q => ta σ H fun x H1 => ∃ a dx fs, x = .ref a ∧ H1 a = some (.ins C dx fs) ∧ fs.lookup m = none ∧
  tk σ H1 fun zs H2 => zs.length = n ∧ sp (gV [x] zs) H2 Q E0
theorem pe_mtK (cl : Cls X.K C) (hm : Meth X.K C m f) (c : CallKw X.prog X.w X.K X.mg X.base k f ps 1 ks gV sp) (hr : Room k X.A) (he : PE X o ta) (hkw : PK X kws tk)
    (hall : (backToKw pos (keywordEach kws X.env)).all (·.1.isSome) = true := by rfl) (hks : (backToKw pos (keywordEach kws X.env)).filterMap (·.1) = ks := by rfl)
    (hpl : ((backTo pos (starEach [] X.env)).any (·.1) || (backToKw pos (keywordEach kws X.env)).any (·.1.isNone)) = false := by rfl)
    (ht : eval (.Call (.Attribute o m apos) [] kws pos) X.env = (do
      let ov ← eval o X.env
      standAt apos.atName
      let (f, first) ← holding [ov] (getMethod ov m pl)
      callWith pos f first (backTo pos (starEach [] X.env)) (backToKw pos (keywordEach kws X.env))) := by rfl) :
    PE X (.Call (.Attribute o m apos) [] kws pos) (tMethK C m ks.length sp gV ta tk) := by
  obtain ⟨fd, g, F, hb, hk⟩ := c
  refine ⟨fun pins s σ H Q I h => ?_⟩
  refine PySem.W.methodCall_KW (pl := pl) (thn (he.run pins s σ H _ I h) fun u s1 ⟨z, H1, I1, rz, a, dx, fs, ez, ea, l, q⟩ => ?_) ht
  subst ez
  obtain rfl : u = Value.ref a := rz
  refine getmeth_ok I1 ea cl hm l ?_
  refine PySem.W.callWith_KW0 (first := [.ref a]) (h₀ := X.base) I.ok.mod.kin hm.kp hall (thn (hkw.run pos pins s1 σ H1 _ I1 q) fun ws s2 ⟨zs, H2, I2, r, l2, q2⟩ => ⟨I2.kIn, ?_⟩) hpl
  rw [hks]
  exact run_fnN (us := [.ref a]) (vs := [.ref a]) F hr hb pass0 I2 (.cons rfl .nil) r rfl l2 q2
/-- C(k = v, ..) -/
def tMakeK (C : Addr) (n : Nat) (sp : Sp) (gV : List V → List V → List V) (tk : TA) : TE := fun σ H Q => tk σ H fun zs H2 => zs.length = n ∧
  ∀ x dx, H2 x = none → H2 dx = none → dx ≠ x → sp (gV [.ref x] zs) (upd (upd H2 dx (.own x)) x (.ins C dx [])) (fun v H3 => v = .non ∧ Q (.ref x) H3) E0
theorem pe_mkK (M : Mk X.K C f) (hm : X.mg x = some (.ref C)) (c : CallKw X.prog X.w X.K X.mg X.base k f ps 1 ks gV sp) (hr : Room (k + 1) X.A) (hg : Gl X x) (hkw : PK X kws tk)
    (hall : (backToKw pos (keywordEach kws X.env)).all (·.1.isSome) = true := by rfl) (hks : (backToKw pos (keywordEach kws X.env)).filterMap (·.1) = ks := by rfl)
    (hdb : (x == ("__debug__" : Str)) = false := by decide)
    (hpl : ((backTo pos (starEach [] X.env)).any (·.1) || (backToKw pos (keywordEach kws X.env)).any (·.1.isNone)) = false := by rfl) :
    PE X (.Call (.Name x p) [] kws pos) (tMakeK C ks.length sp gV tk) := by
  obtain ⟨fd, g, F, hb, hk⟩ := c
  refine ⟨fun pins s σ H Q I h => ?_⟩
  refine wpAny_Call_Name_kw (ld_glob I hg hm ?_ hdb)
  refine PySem.W.callWith_KW0 (first := []) (h₀ := X.base) I.ok.mod.kin M.kp hall (thn (hkw.run pos pins s σ H _ I h) fun ws s2 ⟨zs, H2, I2, r, l2, q2⟩ => ⟨I2.kIn, ?_⟩) hpl
  rw [hks]
  exact run_makeN (n := 0) (us := []) (vs := []) M F hr hb pass0 I2 .nil r rfl l2 q2
end
section
variable {P : Program} {w : World} {K : PySem.W.Frag} {mg : Str → Option Value} {base : Heap} {x qual : Str} {dvs : List V} {f : Addr} {k n : Nat} {N ps ks : List Str} {sp : Sp}
/-- a def without defaults -/
theorem stands_kw0 {st : Stmt} (g : {α : Type} → List α → List α → List α) (F : Stands K x qual st [] f) (S : FnScope N ps (defScope st)) (len : ∀ vs H Q E, sp vs H Q E → vs.length = ps.length)
    (hbody : ∀ (cdv : Value) (A : Around) (outer : List Env) (s : Shared) (H : Hp) (vs : List V) (Q : VK) (E : XK), Room k (A.deeper (envOfC qual (defScope st) s.heap.objs.size f cdv)) → sp vs H Q E →
      ∃ t, PSs (cxOf CX0 P w K mg base N qual (defScope st) f cdv A outer s H E).nox (defBody st) t ∧ t { nx := fun _ H' => Q .non H', rt := Q } (start N vs) H)
    (hrel : ∀ {vs zs : List V} {us ws : List Value}, Vals vs us → Vals zs ws → Vals (g vs zs) (g us ws))
    (h0 : ∀ (kV doc pm : Value) (an : Option Addr) (cdv ct : Value) (us ws : List Value), us.length = n → ws.length = ks.length → bindArgs (PySem.W.fnOf x qual (defArgs st) (defBody st) (defScope st) .none kV doc pm an cdv ct) ⟨us, ks.zip ws⟩ = pure (ps.zip (g us ws))) :
    CallKw P w K mg base (k + 1) f ps n ks g sp := by
  obtain ⟨fd, F⟩ := F
  have ok : FnOk P w K mg base CX0 (k + 1) f fd ps sp := F.ok S len fun cdv A outer s H vs Q E hr hsp => by
    obtain ⟨t, h, q⟩ := hbody cdv A outer s H vs Q E hr hsp
    exact ⟨t, h.nox, q⟩
  refine ⟨fd, g, ok, ⟨?_, fun r1 r2 => hrel r1 r2⟩, F.kp⟩
  obtain ⟨oc, od, dV, kV, doc, pm, an, cdv, ct, osl, rfl, lk, hcd, hD, hK⟩ := F.ex
  rcases hD with ⟨_, rfl⟩ | ⟨e, _⟩
  · exact fun s us ws _ l1 l2 => .of_eq (h0 kV doc pm an cdv ct us ws l1 l2)
  · exact absurd rfl e
/-- a def with defaults -/
theorem stands_kwD {st : Stmt} (g : {α : Type} → List α → List α → List α → List α) (hd : dvs ≠ []) (F : Stands K x qual st dvs f) (S : FnScope N ps (defScope st)) (len : ∀ vs H Q E, sp vs H Q E → vs.length = ps.length)
    (hbody : ∀ (cdv : Value) (A : Around) (outer : List Env) (s : Shared) (H : Hp) (vs : List V) (Q : VK) (E : XK), Room k (A.deeper (envOfC qual (defScope st) s.heap.objs.size f cdv)) → sp vs H Q E →
      ∃ t, PSs (cxOf CX0 P w K mg base N qual (defScope st) f cdv A outer s H E).nox (defBody st) t ∧ t { nx := fun _ H' => Q .non H', rt := Q } (start N vs) H)
    (hrel : ∀ {vs ds zs : List V} {us its ws : List Value}, Vals vs us → Vals ds its → Vals zs ws → Vals (g vs ds zs) (g us its ws))
    (h : ∀ (T : Addr) (kV doc pm : Value) (an : Option Addr) (cdv ct : Value) (us its ws : List Value), us.length = n → its.length = dvs.length → ws.length = ks.length →
      ∃ k, bindArgs (PySem.W.fnOf x qual (defArgs st) (defBody st) (defScope st) (.ref T) kV doc pm an cdv ct) ⟨us, ks.zip ws⟩ = seqItems? (.ref T) >>= k ∧ k (some its.toArray) = pure (ps.zip (g us its ws))) :
    CallKw P w K mg base (k + 1) f ps n ks (fun vs zs => g vs dvs zs) sp := by
  obtain ⟨fd, F⟩ := F
  have ok : FnOk P w K mg base CX0 (k + 1) f fd ps sp := F.ok S len fun cdv A outer s H vs Q E hr hsp => by
    obtain ⟨t, h, q⟩ := hbody cdv A outer s H vs Q E hr hsp
    exact ⟨t, h.nox, q⟩
  obtain ⟨its, hb⟩ := F.kbindsD n ks g hd hrel h
  exact ⟨fd, _, ok, hb, F.kp⟩
theorem CallKw.up {j : Nat} {gV : List V → List V → List V} (c : CallKw P w K mg base j f ps n ks gV sp) (h : j ≤ k) : CallKw P w K mg base k f ps n ks gV sp :=
  let ⟨fd, g, F, r⟩ := c
  ⟨fd, g, F.mono h, r⟩
end
end RK

set_option Elab.async false
set_option linter.all false
set_option maxRecDepth 100000
set_option maxHeartbeats 4000000
/-! Defs that may raise own errors, calls of them, raise, except X as e of several clauses. -/
namespace RQ
open PySem PySem.Spec PyProof.Rows L2 RC
/-- as Callable, where an error may leave the def -/
def CallX (P : Program) (w : World) (K : PySem.W.Frag) (mg : Str → Option Value) (base : Heap) (k : Nat) (f : Addr) (ps : List Str) (dvs : List V) (sp : Sp) : Prop :=
  ∃ fd ds, FnOk P w K mg base (L2.CX P w) k f fd ps sp ∧ Vals dvs ds ∧ Binds K fd ps ds ∧ PySem.W.keepIn K (.ref f) = true
section
variable {P : Program} {w : World} {K : PySem.W.Frag} {mg : Str → Option Value} {base : Heap} {x qual : Str} {dvs : List V} {f : Addr} {k : Nat} {N ps : List Str} {sp : Sp}
theorem CallX.up {j : Nat} (c : CallX P w K mg base j f ps dvs sp) (h : j ≤ k) : CallX P w K mg base k f ps dvs sp :=
  let ⟨fd, ds, F, r⟩ := c
  ⟨fd, ds, F.mono h, r⟩
theorem stands_callX {st : Stmt} (F : Stands K x qual st dvs f) (S : FnScope N ps (defScope st)) (n j : Nat) (len : ∀ vs H Q E, sp vs H Q E → vs.length = ps.length)
    (hbody : ∀ (cdv : Value) (A : Around) (outer : List Env) (s : Shared) (H : Hp) (vs : List V) (Q : VK) (E : XK), Room k (A.deeper (envOfC qual (defScope st) s.heap.objs.size f cdv)) → sp vs H Q E →
      ∃ t, PSs (cxOf (L2.CX P w) P w K mg base N qual (defScope st) f cdv A outer s H E) (defBody st) t ∧ t { nx := fun _ H' => Q .non H', rt := Q } (start N vs) H)
    (h0 : dvs = [] → n = ps.length ∧ ∀ (kV doc pm : Value) (an : Option Addr) (cdv ct : Value) (us : List Value), us.length = ps.length → bindArgs (PySem.W.fnOf x qual (defArgs st) (defBody st) (defScope st) .none kV doc pm an cdv ct) ⟨us, []⟩ = pure (ps.zip us))
    (h1 : dvs ≠ [] → n + (dvs.length - j) = ps.length ∧ ∀ (T : Addr) (kV doc pm : Value) (an : Option Addr) (cdv ct : Value) (us its : List Value), us.length = n → its.length = dvs.length →
      ∃ k, bindArgs (PySem.W.fnOf x qual (defArgs st) (defBody st) (defScope st) (.ref T) kV doc pm an cdv ct) ⟨us, []⟩ = seqItems? (.ref T) >>= k ∧ k (some its.toArray) = pure (ps.zip (us ++ its.drop j))) :
    CallX P w K mg base (k + 1) f ps (dvs.drop j) sp := by
  obtain ⟨fd, F⟩ := F
  have ok : FnOk P w K mg base (L2.CX P w) (k + 1) f fd ps sp := F.ok S len fun cdv A outer s H vs Q E hr hsp => hbody cdv A outer s H vs Q E hr hsp
  by_cases hd : dvs = []
  · subst hd
    exact ⟨fd, [], ok, by rw [List.drop_nil]; exact .nil, F.bindsN (h0 rfl).2, F.kp⟩
  · obtain ⟨ds, hv, hb⟩ := F.binds1 n j hd (h1 hd).1 (h1 hd).2
    exact ⟨fd, ds, ok, hv, hb, F.kp⟩
theorem stands_callX0 {st : Stmt} (F : Stands K x qual st [] f) (S : FnScope N ps (defScope st)) (len : ∀ vs H Q E, sp vs H Q E → vs.length = ps.length)
    (hbody : ∀ (cdv : Value) (A : Around) (outer : List Env) (s : Shared) (H : Hp) (vs : List V) (Q : VK) (E : XK), Room k (A.deeper (envOfC qual (defScope st) s.heap.objs.size f cdv)) → sp vs H Q E →
      ∃ t, PSs (cxOf (L2.CX P w) P w K mg base N qual (defScope st) f cdv A outer s H E) (defBody st) t ∧ t { nx := fun _ H' => Q .non H', rt := Q } (start N vs) H)
    (h0 : ∀ (kV doc pm : Value) (an : Option Addr) (cdv ct : Value) (us : List Value), us.length = ps.length → bindArgs (PySem.W.fnOf x qual (defArgs st) (defBody st) (defScope st) .none kV doc pm an cdv ct) ⟨us, []⟩ = pure (ps.zip us)) :
    CallX P w K mg base (k + 1) f ps [] sp := by
  obtain ⟨fd, F⟩ := F
  have ok : FnOk P w K mg base (L2.CX P w) (k + 1) f fd ps sp := F.ok S len fun cdv A outer s H vs Q E hr hsp => hbody cdv A outer s H vs Q E hr hsp
  exact ⟨fd, [], ok, .nil, F.bindsN h0, F.kp⟩
end
section
variable {X : Cx} {k : Nat} {f C : Addr} {ps : List Str} {sp : Sp} {dvs : List V} {x m : Str} {p pos apos : Pos} {e o : Expr} {es : List Expr} {ta : TE} {t : TA} {pl : Sem Bool} {W : WX}
/-- f(e, ..), where f may raise -/
theorem pe_fnX (tk : Takes X W) (hm : X.mg x = some (.ref f)) (c : CallX X.prog X.w X.K X.mg X.base k f ps dvs sp) (hr : Room k X.A) (hg : Gl X x) (ha : PA X (e :: es) t) (hdb : (x == ("__debug__" : Str)) = false := by decide)
    (he : starEach (e :: es) X.env = (false, eval e X.env) :: starEach es X.env := by rfl) (hpl : (backTo pos (starEach es X.env)).any (·.1) = false := by rfl) : PE X (.Call (.Name x p) (e :: es) [] pos) (tCallSD sp dvs (WE W) t) := by
  obtain ⟨fd, ds, F, hd, hb, hk⟩ := c
  exact pe_callSD F hr hg hm hk hb hd (fun σ => passAt tk σ) ha hdb he hpl
/-- o.m(e, ..), where m may raise -/
def tMethX (C : Addr) (m : Str) (sp : Sp) (dvs : List V) (E : L2.St → XK) (ta : TE) (t : TA) : TE := fun σ H Q => ta σ H fun x H1 => ∃ a dx fs, x = .ref a ∧ H1 a = some (.ins C dx fs) ∧ fs.lookup m = none ∧ t σ H1 fun vs H2 => sp (x :: (vs ++ dvs)) H2 Q (E σ)
theorem pe_mtX (tk : Takes X W) (cl : Cls X.K C) (hm : Meth X.K C m f) (c : CallX X.prog X.w X.K X.mg X.base k f ps dvs sp) (hr : Room k X.A) (he : PE X o ta) (ha : PA X (e :: es) t)
    (hst : starEach (e :: es) X.env = (false, eval e X.env) :: starEach es X.env := by rfl) (hpl : (backTo pos (starEach es X.env)).any (·.1) = false := by rfl)
    (ht : eval (.Call (.Attribute o m apos) (e :: es) [] pos) X.env = (do
      let ov ← eval o X.env
      standAt apos.atName
      let (f, first) ← holding [ov] (getMethod ov m pl)
      callWith pos f first (backTo pos (starEach (e :: es) X.env)) (backToKw pos (keywordEach [] X.env))) := by rfl) :
    PE X (.Call (.Attribute o m apos) (e :: es) [] pos) (tMethX C m sp dvs (WE W) ta t) := by
  obtain ⟨fd, ds, F, hd, hb, hk⟩ := c
  refine ⟨fun pins s σ H Q I h => ?_⟩
  refine PySem.W.methodCall_KW (pl := pl) (thn (he.run pins s σ H _ I h) fun u s1 ⟨z, H1, I1, rz, a, dx, fs, ez, ea, l, q⟩ => ?_) ht
  subst ez
  obtain rfl : u = Value.ref a := rz
  refine getmeth_ok I1 ea cl hm l ?_
  refine PySem.W.callWith_K (first := [.ref a]) (h₀ := X.base) I.ok.mod.kin hm.kp (thn (ha.run pos pins s1 σ H1 _ I1 q) fun us s2 ⟨ws, H2, I2, r, q2⟩ => ⟨I2.kIn, ?_⟩) hst hpl
  exact run_fnSD (us := .ref a :: us) (vs := .ref a :: ws) F hr hb hd (passAt tk σ) I2 (.cons rfl r) q2
/-- C(e, ..), where __init__ may raise -/
def tMakeX (C : Addr) (sp : Sp) (dvs : List V) (E : L2.St → XK) (t : TA) : TE := fun σ H Q => t σ H fun vs H1 => ∀ x dx, H1 x = none → H1 dx = none → dx ≠ x →
  sp (.ref x :: (vs ++ dvs)) (upd (upd H1 dx (.own x)) x (.ins C dx [])) (fun v H2 => v = .non ∧ Q (.ref x) H2) (E σ)
theorem pe_mkX (tk : Takes X W) (M : Mk X.K C f) (hm : X.mg x = some (.ref C)) (c : CallX X.prog X.w X.K X.mg X.base k f ps dvs sp) (hr : Room (k + 1) X.A) (hg : Gl X x) (ha : PA X (e :: es) t) (hdb : (x == ("__debug__" : Str)) = false := by decide)
    (he : starEach (e :: es) X.env = (false, eval e X.env) :: starEach es X.env := by rfl) (hpl : (backTo pos (starEach es X.env)).any (·.1) = false := by rfl) : PE X (.Call (.Name x p) (e :: es) [] pos) (tMakeX C sp dvs (WE W) t) := by
  obtain ⟨fd, ds, F, hd, hb, hk⟩ := c
  refine ⟨fun pins s σ H Q I h => ?_⟩
  refine wpAny_Call_Name_kw (ld_glob I hg hm ?_ hdb)
  refine PySem.W.callWith_K (h₀ := X.base) I.ok.mod.kin M.kp (thn (ha.run pos pins s σ H _ I h) fun us s1 ⟨ws, H1, I1, r, q⟩ => ⟨I1.kIn, ?_⟩) he hpl
  have big := Nat.le_succ s1.heap.objs.size
  have spx := q (s1.heap.objs.size + 1) s1.heap.objs.size (I1.hok.fresh big) (I1.hok.fresh (Nat.le_refl _)) (Nat.ne_of_lt (Nat.lt_succ_self _))
  have made := Inv.made (C := C) I1
  have rel : Vals (V.ref (s1.heap.objs.size + 1) :: (ws ++ dvs)) (Value.ref (s1.heap.objs.size + 1) :: (us ++ ds)) := .cons rfl (r.append hd)
  have len : (Value.ref (s1.heap.objs.size + 1) :: us ++ ds).length = ps.length := rel.length.symm.trans (F.len _ _ _ _ spx)
  have bind := hb _ (Value.ref (s1.heap.objs.size + 1) :: us) made.kIn len
  have env := made.env0.make C us []
  have room := hr.make C us []
  refine wpAny_call (make_map (f := f) I1.kIn M.makes M.init (beq_iff_eq.mp M.fn) (codeAny_mono (F.run _ X.stack _ _ ⟨Value.ref (s1.heap.objs.size + 1) :: us, []⟩ _ _ _ (WE W σ) room env bind rel spx) fun z s' hz => ?_))
  cases z with
  | error er => exact passAt tk σ pins _ _ er s' made hz
  | ok fl =>
    cases fl with
    | ret u =>
      obtain ⟨v, H', I3, rv, ev, q3⟩ := made.after hz
      subst ev
      exact ⟨rv, V.ref (s1.heap.objs.size + 1), H', I3, rfl, q3⟩
    | next => exact hz.elim
    | brk => exact hz.elim
    | cont => exact hz.elim
end
/-! ### raise X(e) -/
/-- __init__ of an own error: one field kept -/
def spExcInit (K : PySem.W.Frag) (f : Str) : Sp := fun vs H Q _ => ∃ (a C : Addr) (v : V), vs = [.ref a, v] ∧ RB.ExcF K C f ∧ H a = some (exo a C none) ∧ ∀ dx, H dx = none → dx ≠ a → Q .non (upd (upd H dx (exd dx [(f, v)])) a (exo a C (some dx)))
section
variable {X : Cx} {C : Addr} {f x : Str} {k : Nat} {ps : List Str} {e : Expr} {p pos pos2 : Pos} {ta : TA} {W : WX}
def tMkE (C : Addr) (f : Str) (ta : TA) : L2.St → Hp → XK → Prop := fun σ H Q => ta σ H fun vs H1 => ∃ v, vs = [v] ∧ ∀ d, H1 d = none → Q (.ref C) (some d) (upd H1 d (.xd [(f, v)]))
theorem mkE_of {K : PySem.W.Frag} {Q : XK} {vs : List V} {H1 : Hp} (T : RB.ExcF K C f) (h : ∃ v, vs = [v] ∧ ∀ d, H1 d = none → Q (.ref C) (some d) (upd H1 d (.xd [(f, v)]))) :
    vs.length ≤ 1000 ∧ ∀ a, H1 a = none → spExcInit K f (.ref a :: (vs ++ [])) (upd H1 a (exo a C none))
      (fun v H2 => v = .non ∧ ∃ (d : Addr) (fs : List (Str × V)), H2 a = some (exo a C (some d)) ∧ H2 d = some (exd d fs) ∧ H1 d = none ∧ Q (.ref C) (some d) (upd (del H2 a) d (.xd fs))) (fun _ _ _ => False) := by
  obtain ⟨v, rfl, h⟩ := h
  refine ⟨by show 1 ≤ 1000; decide, fun a ha => ⟨a, C, v, rfl, T, upd_same, fun dx hdx nd => ⟨rfl, dx, [(f, v)], upd_same, by rw [upd_ne nd, upd_same], ?_, ?_⟩⟩⟩
  · have := hdx
    rw [upd_ne nd] at this
    exact this
  · have hd : H1 dx = none := by have := hdx; rw [upd_ne nd] at this; exact this
    have e : upd (del (upd (upd (upd H1 a (exo a C none)) dx (exd dx [(f, v)])) a (exo a C (some dx))) a) dx (.xd [(f, v)]) = upd H1 dx (.xd [(f, v)]) := by
      funext b
      by_cases c : b = dx
      · rw [c, upd_same, upd_same]
      · rw [upd_ne c, upd_ne c]
        by_cases z : b = a
        · rw [z, del_same, ha]
        · rw [del_ne z, upd_ne z, upd_ne c, upd_ne z]
    rw [e]
    exact h dx hd
theorem pmk_exc (T : RB.ExcF X.K C f) (c : Callable X.prog X.w X.K X.mg X.base k (He.ma X.K C "__init__") ps [] (spExcInit X.K f)) (hr : Room (k + 1) X.A) (hm : X.mg x = some (.ref C)) (hg : Gl X x) (ha : PA X [e] ta)
    (hdb : (x == ("__debug__" : Str)) = false := by decide) (he : starEach (e :: []) X.env = (false, eval e X.env) :: starEach [] X.env := by rfl) (hpl : (backTo pos (starEach [] X.env)).any (·.1) = false := by rfl) :
    PMk X (.Call (.Name x p) [e] [] pos) (tMkE C f ta) := by
  obtain ⟨fd, ds, F, hd, hb, hk⟩ := c
  have m := pmk_oex (dvs := []) (x := x) (p := p) (pos := pos) T.ox T.ini T.ty F hr hb hd pass0 hg hm ha hdb he hpl
  intro pins s σ H Q I h
  have ha2 : PA X [e] (fun σ0 H0 K0 => ta σ0 H0 (fun vs H1 => ∃ v, vs = [v] ∧ ∀ d, H1 d = none → Q (.ref C) (some d) (upd H1 d (.xd [(f, v)]))) ∧
      ∀ vs H1, (∃ v, vs = [v] ∧ ∀ d, H1 d = none → Q (.ref C) (some d) (upd H1 d (.xd [(f, v)]))) → K0 vs H1) := ⟨fun pos0 pins0 s0 σ0 H0 K0 I0 h0 =>
    wpAny_mono (ha.run pos0 pins0 s0 σ0 H0 _ I0 h0.1) (fun us s1 hz => by
      obtain ⟨vs, H1, I1, r1, q1⟩ := hz
      exact ⟨vs, H1, I1, r1, h0.2 vs H1 q1⟩) (fun _ _ z => z)⟩
  exact pmk_oex (dvs := []) (x := x) (p := p) (pos := pos) T.ox T.ini T.ty F hr hb hd pass0 hg hm ha2 hdb he hpl pins s σ H Q I ⟨h, fun vs H1 q => mkE_of T q⟩
/-- raise X(e) -/
def tExc (C : Addr) (f : Str) (W : WX) (ta : TA) : TS := fun _ σ H => tMkE C f ta σ H fun cls d H' => W cls d σ H'
theorem ps_exc (hc : X.calm = true) (tk : Takes X W) (T : RB.ExcF X.K C f) (c : Callable X.prog X.w X.K X.mg X.base k (He.ma X.K C "__init__") ps [] (spExcInit X.K f)) (hr : Room (k + 1) X.A) (hm : X.mg x = some (.ref C)) (hg : Gl X x) (ha : PA X [e] ta)
    (hdb : (x == ("__debug__" : Str)) = false := by decide) (he : starEach (e :: []) X.env = (false, eval e X.env) :: starEach [] X.env := by rfl) (hpl : (backTo pos (starEach [] X.env)).any (·.1) = false := by rfl) :
    PS X (.Raise (some (.Call (.Name x p) [e] [] pos)) none pos2) (tExc C f W ta) := ps_raise hc tk (pmk_exc T c hr hm hg ha hdb he hpl)
/-- self.f = e in an own error's __init__, the first field -/
theorem init_rd {K : PySem.W.Frag} {D : Ends} {σ : L2.St} {H : Hp} {a C : Addr} {v : V} {to te : TE} (T : RB.ExcF K C f) (h : ∀ (Q : V → Hp → Prop), Q v H → te σ H Q) (h2 : ∀ (Q : V → Hp → Prop), Q (.ref a) H → to σ H Q) (ea : H a = some (exo a C none))
    (q : ∀ dx, H dx = none → dx ≠ a → D.nx σ (upd (upd H dx (exd dx [(f, v)])) a (exo a C (some dx)))) : tOst K f to te D σ H :=
  h _ (h2 _ ⟨a, C, rfl, T.ox, T.no, .inl ⟨ea, q⟩⟩)
end
/-! ### except X as e, several clauses -/
abbrev HdT : Type := Value × Option Nat × (Addr → Value → Option Addr → TS)
/-- the ends of a suite whose slot i goes -/
def Ends.un (D : Ends) (i : Nat) : Ends := { nx := fun σ' H' => D.nx (σ'.set i none) H', rt := D.rt, bk := fun σ' H' => D.bk (σ'.set i none) H', ct := fun σ' H' => D.ct (σ'.set i none) H' }
def wAny (K : PySem.W.Frag) (Wout : WX) (D : Ends) : List HdT → WX
  | [] => Wout
  | (c, none, ts) :: r => fun cls d σ H => ∃ b, PySem.W.exmOne K cls c = some b ∧ (b = true → ∀ a, H a = none → ts a cls d D σ H) ∧ (b = false → wAny K Wout D r cls d σ H)
  | (c, some i, ts) :: r => fun cls d σ H => ∃ b, PySem.W.exmOne K cls c = some b ∧ (b = true → ∀ a, H a = none → ts a cls d (Ends.un D i) (σ.set i (some (.ref a))) H) ∧ (b = false → wAny K Wout D r cls d σ H)
inductive HdA (X : Cx) : List ExceptHandler → List HdT → Prop
  | nil : HdA X [] []
  | plain {x : Str} {c : Value} {ts : Addr → Value → Option Addr → TS} {b : Stmt} {bs : List Stmt} {np pe : Pos} {hds : List ExceptHandler} {l : List HdT} (hc : Names X x c)
      (su : ∀ (a : Addr) (oe : Obj) (cls : Value) (d : Option Addr) (pn : List (Addr × Obj)), Zc cls d oe → (∃ vs, oe.data = .fields vs) → PSs (X.suite a ((a, oe) :: pn)) (b :: bs) (ts a cls d)) (r : HdA X hds l) :
      HdA X (.ExceptHandler (some (.Name x np)) none (b :: bs) pe :: hds) ((c, none, ts) :: l)
  | named {x n : Str} {c : Value} {i : Nat} {ts : Addr → Value → Option Addr → TS} {b : Stmt} {bs : List Stmt} {np pe : Pos} {hds : List ExceptHandler} {l : List HdT} (hN : X.N.Nodup) (hi : X.N[i]? = some n) (hl : X.env.kindOf n = some .local) (hc : Names X x c)
      (su : ∀ (a : Addr) (oe : Obj) (cls : Value) (d : Option Addr) (pn : List (Addr × Obj)), Zc cls d oe → (∃ vs, oe.data = .fields vs) → PSs (X.suite a ((a, oe) :: pn)) (b :: bs) (ts a cls d)) (r : HdA X hds l) :
      HdA X (.ExceptHandler (some (.Name x np)) (some n) (b :: bs) pe :: hds) ((c, some i, ts) :: l)
section
variable {X : Cx} {body : List Stmt} {hd0 : ExceptHandler} {hds : List ExceptHandler} {l : List HdT} {pos : Pos} {tb : WX → TS} {Wout : WX}
/-- what a caught error leaves: looked at by clause after clause -/
theorem hd_go {pins : List (Addr × Obj)} {σq : L2.St} {Hq : Hp} {B : Heap} {a : Addr} {cls : Value} {d : Option Addr} {sq : Shared} {st : Shared} {D : Ends} (ok : X.Ok) (hs : X.stack = X.env :: X.outer) (hf : X.env.frame = some X.env.locals) (tk : Takes X Wout)
    (J : Inv X pins σq Hq sq) (grd : ∀ b o, sq.heap.get? b = some o → b ∉ frs X.stack → B.get? b = some o) (up : sq.heap.UpToSlots st.heap) (free : Hq a = none) (os : st.os = sq.os) (bare : AllBare st.gens)
    (fly : PySem.HandSPX.FlyingZ B (X.env :: X.outer) a (Zc cls d) st.heap) : ∀ {hds : List ExceptHandler} {l : List HdT}, HdA X hds l → wAny X.K Wout D l cls d σq Hq → wpAny (model X.prog X.w) X.A (handleBy (.ref a) X.env hds) (SP X pins D) X.xe st := by
  have J3 : Inv X pins σq Hq st := J.landed grd fly.1 up os bare
  obtain ⟨oA, vA, eA, zA, dA⟩ := fly.there
  have out : a ∉ frs (X.env :: X.outer) := fun hm => by
    obtain ⟨_, o2, e2, nf⟩ := fly.2.2.1.mem hm
    rw [eA] at e2
    cases e2
    exact nf _ dA
  have aL : a ≠ X.env.locals := fun z => out (List.mem_filterMap.mpr ⟨X.env, List.mem_cons_self, hf.trans (congrArg some z.symm)⟩)
  have aF : a ∉ X.fs := fun hm => by
    obtain ⟨v, hv, q⟩ := List.mem_filterMap.mp hm
    exact out (List.mem_filterMap.mpr ⟨v, List.mem_cons_of_mem _ hv, q⟩)
  have S3 := J3.suite eA dA free aL aF
  have ty : PySem.W.Looks (model X.prog X.w) st.heap (typeOf (.ref a)) cls := fun A Q E s kp q => wpAny_typeOf_ref (kp _ _ eA) (by rw [zA.1]; exact q)
  have named : ∀ {x : Str} {c : Value} {np : Pos} {Q : Value → Shared → Prop} {E : Value → Shared → Prop}, Names X x c → Q c st → wpAny (model X.prog X.w) (X.A.mark (some (.ref a))) (eval (.Name x np) X.env) Q E st := fun {x c np Q E} hc q => by
    obtain ⟨g1, g2, g3 | ⟨g3, g4, g5⟩⟩ := hc
    · exact ld_glob (X := X.suite a ((a, oA) :: (X.pn ++ pins))) S3 g1 g3 q g2
    · exact ld_blt (X := X.suite a ((a, oA) :: (X.pn ++ pins))) S3 g1 g3 g4 q g5 g2
  intro hds l hk
  induction hk with
  | nil =>
    intro w
    refine wpAny_handleBy_nil ?_
    obtain ⟨k1, k2, k3, oe, vs, T, oT, ts', he, hz, hd, h1, hr⟩ := id fly
    unfold PySem.passOn
    refine wpAny_bind (wpAny_field he hd h1 ?_)
    rw [if_neg (show ¬((Value.ref T == Value.none) = true) by simp)]
    have last : wpAny (model X.prog X.w) X.A (setFlight (.ref a) X.env.frame) (fun _ s4 => wpAny (model X.prog X.w) X.A (throw (.ref a) : Sem Flow) (SP X pins D) X.xe s4) X.xe st := by
      rw [hf]
      refine PySem.HandSPX.setFlight_upZ fly fun hW held upW => wpAny_throw (tk _ _ ?_)
      exact ⟨a, B, sq, pins, σq, Hq, cls, d, rfl, J, grd, up.trans upW, .inr (.inr (by rw [hs]; exact held)), free, os, bare, w⟩
    first
      | exact wpAny_bind (wpAny_pure (wpAny_bind last))
      | exact wpAny_bind last
  | @plain x c ts b bs np pe hds2 l2 hc su r ih =>
    rintro ⟨z, hz, hyes, hno⟩
    refine wpAny_handleBy_cons (codeAny_handlers_test ?_) (by intro q; cases q)
    refine named hc ((PySem.W.exm_one (M := model X.prog X.w) J3.kIn ty hz).here ?_)
    cases z with
    | false => exact ih (hno rfl)
    | true =>
      refine codeAny_handlers_suite (PySem.HandSPX.lands_againZ fly fun h4 fl4 up4 => ?_)
      have J4 : Inv X pins σq Hq { st with heap := h4 } := J.landed grd fl4.1 (up.trans up4) os bare
      obtain ⟨o4, v4, e4, z4, d4⟩ := fl4.there
      refine wpAny_mono ((su a o4 cls d (X.pn ++ pins) z4 ⟨_, d4⟩).run [] _ _ Hq _ (J4.suite e4 d4 free aL aF) (hyes rfl a free)) (fun fl s6 hsp => ?_) (fun _ _ z => z.elim)
      cases fl with
      | ret u =>
        obtain ⟨v6, σ6, H6, S6, r6, q6⟩ := hsp
        exact ⟨v6, σ6, H6, S6.unsuite ok, r6, q6⟩
      | next =>
        obtain ⟨σ6, H6, S6, q6⟩ := hsp
        exact ⟨σ6, H6, S6.unsuite ok, q6⟩
      | brk =>
        obtain ⟨σ6, H6, S6, q6⟩ := hsp
        exact ⟨σ6, H6, S6.unsuite ok, q6⟩
      | cont =>
        obtain ⟨σ6, H6, S6, q6⟩ := hsp
        exact ⟨σ6, H6, S6.unsuite ok, q6⟩
  | @named x n c i ts b bs np pe hds2 l2 hN hi hl hc su r ih =>
    rintro ⟨z, hz, hyes, hno⟩
    refine wpAny_handleBy_cons (codeAny_handlers_test ?_) (by intro q; cases q)
    refine named hc ((PySem.W.exm_one (M := model X.prog X.w) J3.kIn ty hz).here ?_)
    cases z with
    | false => exact ih (hno rfl)
    | true =>
      refine codeAny_handlers_suite_as (PySem.HandSPX.lands_againZ fly fun h4 fl4 up4 => ?_)
      have J4 : Inv X pins σq Hq { st with heap := h4 } := J.landed grd fl4.1 (up.trans up4) os bare
      obtain ⟨o4, v4, e4, z4, d4⟩ := fl4.there
      refine store_ok (X := X.suite a ((a, o4) :: (X.pn ++ pins))) (v := .ref a) (J4.suite e4 d4 free aL aF) hN hi (.inl hl) rfl (fun s5 S5 => ?_) (.inr hl)
      refine wpAny_mono ((su a o4 cls d (X.pn ++ pins) z4 ⟨_, d4⟩).run [] s5 _ Hq _ S5 (hyes rfl a free)) (fun fl s6 hsp => ?_) (fun _ _ z => z.elim)
      have gone : ∀ {σ6 : L2.St} {H6 : Hp} {Q : Shared → Prop}, Inv (X.suite a ((a, o4) :: (X.pn ++ pins))) [] σ6 H6 s6 → (∀ s7, Inv X pins (σ6.set i none) H6 s7 → Q s7) →
          wpAny (model X.prog X.w) X.A (do bindName X.env n .none; unbindBehindTheSuite X.env n pe) (fun _ s7 => Q s7) X.xe s6 := fun {σ6 H6 Q} S6 hq => gone_ok (S6.unsuite ok) hN hi hl hq
      cases fl with
      | ret u =>
        obtain ⟨v6, σ6, H6, S6, r6, q6⟩ := hsp
        exact gone S6 fun s7 J7 => ⟨v6, _, H6, J7, r6, q6⟩
      | next =>
        obtain ⟨σ6, H6, S6, q6⟩ := hsp
        exact gone S6 fun s7 J7 => ⟨_, H6, J7, q6⟩
      | brk =>
        obtain ⟨σ6, H6, S6, q6⟩ := hsp
        exact gone S6 fun s7 J7 => ⟨_, H6, J7, q6⟩
      | cont =>
        obtain ⟨σ6, H6, S6, q6⟩ := hsp
        exact gone S6 fun s7 J7 => ⟨_, H6, J7, q6⟩
theorem ps_tryA (hs : X.stack = X.env :: X.outer) (hf : X.env.frame = some X.env.locals) (tk : Takes X Wout)
    (hb : ∀ (W : WX) (pn : List (Addr × Obj)) (xe : Value → Shared → Prop), Takes (X.tr pn xe) W → PassesOwn (model X.prog X.w) X.A X.env xe → PSs (X.tr pn xe) body (tb W))
    (hh : HdA X (hd0 :: hds) l) : PS X (.Try body (hd0 :: hds) [] [] pos) (fun D σ H => tb (wAny X.K Wout D l) D σ H) := by
  refine ⟨fun pins s σ H D I h => ?_⟩
  have ok := I.ok
  have fr : X.A.frames = some (X.env :: X.outer) := ok.frames.trans (congrArg some hs)
  refine wpAny_Try_except ?_
  have air : Takes (X.tr (X.pn ++ pins) (fun e s₁ => wpAny (model X.prog X.w) X.A (noteFrame e X.env) (fun _ s₂ => wpAny (model X.prog X.w) X.A (setFlight e none) (fun _ s₃ =>
      wpAny (model X.prog X.w) X.A (handleBy e X.env (hd0 :: hds)) (SP X pins D) X.xe s₃) X.xe s₂) X.xe s₁)) (wAny X.K Wout D l) := fun u s' xx => by
    obtain ⟨a, B, sq, pq, σq, Hq, cls, d, rfl, Jq, grd, up, sky, free, os, bare, w⟩ := xx
    have J : Inv X pins σq Hq sq := Jq.ofTry ok
    have sky2 : Sky B (X.env :: X.outer) a (Zc cls d) X.env.locals s'.heap := hs ▸ sky
    show wpAny (model X.prog X.w) X.A (noteFrame (.ref a) X.env) _ _ _
    refine Sky.land Zc.steady fr hf sky2 fun h3 fly up3 => ?_
    exact hd_go (st := { s' with heap := h3 }) ok hs hf tk J grd (up.trans up3) free os bare fly hh w
  refine wpAny_mono ((hb (wAny X.K Wout D l) (X.pn ++ pins) _ air PassesOwn.looking).run [] s σ H D (I.toTry _) h) (fun fl s1 hsp => ?_) (fun e s1 he => he)
  cases fl with
  | ret u =>
    obtain ⟨v, σ', H', J', r, q⟩ := hsp
    exact ⟨v, σ', H', J'.ofTry ok, r, q⟩
  | next =>
    obtain ⟨σ', H', J', q⟩ := hsp
    exact wpAny_execs_nil ⟨σ', H', J'.ofTry ok, q⟩
  | brk =>
    obtain ⟨σ', H', J', q⟩ := hsp
    exact ⟨σ', H', J'.ofTry ok, q⟩
  | cont =>
    obtain ⟨σ', H', J', q⟩ := hsp
    exact ⟨σ', H', J'.ofTry ok, q⟩
end
end RQ

set_option Elab.async false
set_option linter.all false
set_option maxRecDepth 100000
set_option maxHeartbeats 4000000
/-! Own errors raised where nothing is handled (their context is None), and raised anew in an except suite. -/
namespace RH
open PySem PySem.Spec PyProof.Rows L2 RC
/-- as RQ.CallX; an error that leaves has no context -/
def CallN (P : Program) (w : World) (K : PySem.W.Frag) (mg : Str → Option Value) (base : Heap) (k : Nat) (f : Addr) (ps : List Str) (dvs : List V) (sp : Sp) : Prop :=
  ∃ fd ds, FnOk P w K mg base (L2N.CX P w) k f fd ps sp ∧ Vals dvs ds ∧ Binds K fd ps ds ∧ PySem.W.keepIn K (.ref f) = true
theorem cx_weak {P : Program} {w : World} {o : List Env} {H : Hp} {s : Shared} {E : XK} {u : Value} {s' : Shared} (h : L2N.CX P w o H s E u s') : L2.CX P w o H s E u s' := by
  obtain ⟨a, B, H', cls, d, e, fl, r⟩ := h
  exact ⟨a, B, H', cls, d, e, L2H.flyingZ_imp (fun _ z => L2N.Zn.zc z) fl, r⟩
section
variable {P : Program} {w : World} {K : PySem.W.Frag} {mg : Str → Option Value} {base : Heap} {x qual : Str} {dvs : List V} {f : Addr} {k : Nat} {N ps : List Str} {sp : Sp}
theorem CallN.up {j : Nat} (c : CallN P w K mg base j f ps dvs sp) (h : j ≤ k) : CallN P w K mg base k f ps dvs sp :=
  let ⟨fd, ds, F, r⟩ := c
  ⟨fd, ds, F.mono h, r⟩
theorem fn_weak {fd : FuncData} (F : FnOk P w K mg base (L2N.CX P w) k f fd ps sp) : FnOk P w K mg base (L2.CX P w) k f fd ps sp := by
  refine ⟨F.len, fun A outer s H args us vs Q E hr e0 hb r h => codeAny_mono (F.run A outer s H args us vs Q E hr e0 hb r h) fun z s' hz => ?_⟩
  cases z with
  | error e => exact cx_weak hz
  | ok fl => cases fl <;> exact hz
theorem CallN.toX (c : CallN P w K mg base k f ps dvs sp) : RQ.CallX P w K mg base k f ps dvs sp :=
  let ⟨fd, ds, F, r⟩ := c
  ⟨fd, ds, fn_weak F, r⟩
theorem stands_callN0 {st : Stmt} (F : Stands K x qual st [] f) (S : FnScope N ps (defScope st)) (len : ∀ vs H Q E, sp vs H Q E → vs.length = ps.length)
    (body : ∀ (cdv : Value) (A : Around) (outer : List Env) (s : Shared) (H : Hp) (vs : List V) (Q : VK) (E : XK), Room k (A.deeper (envOfC qual (defScope st) s.heap.objs.size f cdv)) → sp vs H Q E →
      ∃ t, PSs (cxOf (L2N.CX P w) P w K mg base N qual (defScope st) f cdv A outer s H E) (defBody st) t ∧ t { nx := fun _ H' => Q .non H', rt := Q } (start N vs) H)
    (bind : ∀ (kV doc pm : Value) (an : Option Addr) (cdv ct : Value) (us : List Value), us.length = ps.length → bindArgs (PySem.W.fnOf x qual (defArgs st) (defBody st) (defScope st) .none kV doc pm an cdv ct) ⟨us, []⟩ = pure (ps.zip us)) :
    CallN P w K mg base (k + 1) f ps [] sp := by
  obtain ⟨fd, F⟩ := F
  have ok : FnOk P w K mg base (L2N.CX P w) (k + 1) f fd ps sp := F.ok S len fun cdv A outer s H vs Q E hr h => body cdv A outer s H vs Q E hr h
  exact ⟨fd, [], ok, .nil, F.bindsN bind, F.kp⟩
end
section
variable {X : Cx} {k : Nat} {f C : Addr} {ps : List Str} {sp : Sp} {dvs : List V} {x m fl : Str} {p pos pos2 apos : Pos} {e o : Expr} {es : List Expr} {ta : TE} {t : TA} {pl : Sem Bool} {W : WX}
/-- f(e, ..), where f may raise an error without context -/
theorem pe_fnN (tk : L2N.Takes X W) (hm : X.mg x = some (.ref f)) (c : CallN X.prog X.w X.K X.mg X.base k f ps dvs sp) (hr : Room k X.A) (hg : Gl X x) (ha : PA X (e :: es) t) (hdb : (x == ("__debug__" : Str)) = false := by decide)
    (he : starEach (e :: es) X.env = (false, eval e X.env) :: starEach es X.env := by rfl) (hpl : (backTo pos (starEach es X.env)).any (·.1) = false := by rfl) : PE X (.Call (.Name x p) (e :: es) [] pos) (tCallSD sp dvs (WE W) t) := by
  obtain ⟨fd, ds, F, hd, hb, hk⟩ := c
  exact pe_callSD F hr hg hm hk hb hd (fun σ => L2N.passAt tk σ) ha hdb he hpl
theorem pe_mtN (tk : L2N.Takes X W) (cl : Cls X.K C) (hm : Meth X.K C m f) (c : CallN X.prog X.w X.K X.mg X.base k f ps dvs sp) (hr : Room k X.A) (he : PE X o ta) (ha : PA X (e :: es) t)
    (hst : starEach (e :: es) X.env = (false, eval e X.env) :: starEach es X.env := by rfl) (hpl : (backTo pos (starEach es X.env)).any (·.1) = false := by rfl)
    (ht : eval (.Call (.Attribute o m apos) (e :: es) [] pos) X.env = (do
      let ov ← eval o X.env
      standAt apos.atName
      let (f, first) ← holding [ov] (getMethod ov m pl)
      callWith pos f first (backTo pos (starEach (e :: es) X.env)) (backToKw pos (keywordEach [] X.env))) := by rfl) :
    PE X (.Call (.Attribute o m apos) (e :: es) [] pos) (RQ.tMethX C m sp dvs (WE W) ta t) := by
  obtain ⟨fd, ds, F, hd, hb, hk⟩ := c
  refine ⟨fun pins s σ H Q I h => ?_⟩
  refine PySem.W.methodCall_KW (pl := pl) (thn (he.run pins s σ H _ I h) fun u s1 ⟨z, H1, I1, rz, a, dx, fs, ez, ea, l, q⟩ => ?_) ht
  subst ez
  obtain rfl : u = Value.ref a := rz
  refine getmeth_ok I1 ea cl hm l ?_
  refine PySem.W.callWith_K (first := [.ref a]) (h₀ := X.base) I.ok.mod.kin hm.kp (thn (ha.run pos pins s1 σ H1 _ I1 q) fun us s2 ⟨ws, H2, I2, r, q2⟩ => ⟨I2.kIn, ?_⟩) hst hpl
  exact run_fnSD (us := .ref a :: us) (vs := .ref a :: ws) F hr hb hd (L2N.passAt tk σ) I2 (.cons rfl r) q2
theorem pe_mtN0 (tk : L2N.Takes X W) (cl : Cls X.K C) (hm : Meth X.K C m f) (c : CallN X.prog X.w X.K X.mg X.base k f ps dvs sp) (hr : Room k X.A) (he : PE X o ta)
    (ht : eval (.Call (.Attribute o m apos) [] [] pos) X.env = (do
      let ov ← eval o X.env
      standAt apos.atName
      let (f, first) ← holding [ov] (getMethod ov m pl)
      callWith pos f first (backTo pos (starEach [] X.env)) (backToKw pos (keywordEach [] X.env))) := by rfl) :
    PE X (.Call (.Attribute o m apos) [] [] pos) (RQ.tMethX C m sp dvs (WE W) ta tNil) := by
  obtain ⟨fd, ds, F, hd, hb, hk⟩ := c
  refine ⟨fun pins s σ H Q I h => ?_⟩
  refine PySem.W.methodCall_KW (pl := pl) (thn (he.run pins s σ H _ I h) fun u s1 ⟨z, H1, I1, rz, a, dx, fs, ez, ea, l, q⟩ => ?_) ht
  subst ez
  obtain rfl : u = Value.ref a := rz
  refine getmeth_ok I1 ea cl hm l ?_
  exact PySem.W.callWith_K0 (first := [.ref a]) I1.kIn hm.kp (run_fnSD (us := [.ref a]) (vs := [.ref a]) F hr hb hd (L2N.passAt tk σ) I1 (.cons rfl .nil) q)
theorem pe_mtX0 (tk : Takes X W) (cl : Cls X.K C) (hm : Meth X.K C m f) (c : RQ.CallX X.prog X.w X.K X.mg X.base k f ps dvs sp) (hr : Room k X.A) (he : PE X o ta)
    (ht : eval (.Call (.Attribute o m apos) [] [] pos) X.env = (do
      let ov ← eval o X.env
      standAt apos.atName
      let (f, first) ← holding [ov] (getMethod ov m pl)
      callWith pos f first (backTo pos (starEach [] X.env)) (backToKw pos (keywordEach [] X.env))) := by rfl) :
    PE X (.Call (.Attribute o m apos) [] [] pos) (RQ.tMethX C m sp dvs (WE W) ta tNil) := by
  obtain ⟨fd, ds, F, hd, hb, hk⟩ := c
  refine ⟨fun pins s σ H Q I h => ?_⟩
  refine PySem.W.methodCall_KW (pl := pl) (thn (he.run pins s σ H _ I h) fun u s1 ⟨z, H1, I1, rz, a, dx, fs, ez, ea, l, q⟩ => ?_) ht
  subst ez
  obtain rfl : u = Value.ref a := rz
  refine getmeth_ok I1 ea cl hm l ?_
  exact PySem.W.callWith_K0 (first := [.ref a]) I1.kIn hm.kp (run_fnSD (us := [.ref a]) (vs := [.ref a]) F hr hb hd (passAt tk σ) I1 (.cons rfl .nil) q)
/-- C(e) of an own error, made where nothing is handled: no context -/
theorem pmk_excN (T : RB.ExcF X.K C fl) (c : Callable X.prog X.w X.K X.mg X.base k (He.ma X.K C "__init__") ps [] (RQ.spExcInit X.K fl)) (hr : Room (k + 1) X.A) (hm : X.mg x = some (.ref C)) (hg : Gl X x) (ha : PA X [e] t)
    (hdb : (x == ("__debug__" : Str)) = false := by decide) (he : starEach (e :: []) X.env = (false, eval e X.env) :: starEach [] X.env := by rfl) (hpl : (backTo pos (starEach [] X.env)).any (·.1) = false := by rfl) :
    L2N.PMk X (.Call (.Name x p) [e] [] pos) (RQ.tMkE C fl t) := by
  obtain ⟨fd, ds, Fi, hd, hb, hk⟩ := c
  cases hd
  intro pins s0 σ0 H0 Q0 I0 h0
  have ox := T.ox
  obtain ⟨nm, qn, N, bs, bm, sn, sub, ab, col, dd, j0, j1, j2, j3, j5, jC, jB⟩ := ox.cls
  refine wpAny_Call_Name_kw (ld_glob I0 hg hm ?_ hdb)
  refine PySem.W.callWith_K (h₀ := X.base) I0.ok.mod.kin ox.kC (thn (ha.run pos pins s0 σ0 H0 _ I0 h0) fun us sA ⟨vs, HA, IA, rA, qA⟩ => ⟨IA.kIn, ?_⟩) he hpl
  show wpAny _ _ (call (.ref C) us) _ _ _
  obtain ⟨big, first⟩ := RQ.mkE_of T qA
  obtain ⟨hp, gs, dr, tks, os⟩ := sA
  generalize eN : hp.objs.size + 1 = nw
  have up : hp.objs.size ≤ nw := eN ▸ Nat.le_succ _
  have free : HA nw = none := IA.hok.fresh up
  have wish := first nw free
  have keep : ∀ b u, hp.get? b = some u → ((hp.push (PySem.W.kdv_tup us)).push (PySem.HandSPX.excO C hp.objs.size)).get? b = some u := fun b u z => Heap.get?_push_of_some _ (Heap.get?_push_of_some _ z)
  have there : ((hp.push (PySem.W.kdv_tup us)).push (PySem.HandSPX.excO C hp.objs.size)).get? nw = some (PySem.HandSPX.excO C hp.objs.size) := by rw [← eN]; heap_get
  have IB : Inv X pins σ0 (upd HA nw (exo nw C none)) ⟨(hp.push (PySem.W.kdv_tup us)).push (PySem.HandSPX.excO C hp.objs.size), gs, dr, tks, os⟩ := IA.laid keep up (exo_ok there)
  have relB : Vals (V.ref nw :: (vs ++ [])) (Value.ref nw :: us) := .cons rfl (by rw [List.append_nil]; exact rA)
  have lenB : (Value.ref nw :: us).length = ps.length := relB.length.symm.trans (Fi.len _ _ _ _ wish)
  have few : us.length ≤ sizeLine := by rw [← Paired.length rA, sizeLine_eq]; omega
  have bindB := hb _ (Value.ref nw :: us) IB.kIn (by rw [List.append_nil]; exact lenB)
  rw [List.append_nil] at bindB
  have call : wpAny (model X.prog X.w) X.A (call (.ref C) us) (L2N.MkP X pins σ0 Q0) X.xe ⟨hp, gs, dr, tks, os⟩ := by
    refine wpAny_call (PySem.HandSPX.call_own F.excBase_ValueError (fun Y => PySem.HandSPX.refsVE_contains Y bm jB) (IA.kIn _ _ jC) (PySem.W.looks_findIn IA.kIn T.ini) (fun self => PySem.W.bind_fn IA.kIn self T.ty) few ?_)
    rw [eN]
    refine codeAny_mono (Fi.run _ X.stack _ _ ⟨Value.ref nw :: us, []⟩ _ _ _ (fun _ _ _ => False) (hr.make C us []) (IB.env0.make C us []) bindB relB wish) fun z sZ hz => ?_
    cases z with
    | error er => exact pass0 pins σ0 _ _ er sZ IB hz
    | ok flw =>
      cases flw with
      | next => exact hz.elim
      | brk => exact hz.elim
      | cont => exact hz.elim
      | ret u =>
        obtain ⟨v, HB, osB, bareB, unB, hokB, rv, ev, d, fs, ea, ed, hd1, qB⟩ := hz
        subst ev
        obtain ⟨hB, gB, dB, tB, osZ⟩ := sZ
        obtain ⟨t0, G, J, kG, ge, hoe, na⟩ := mk_end0 (d2 := dB) (t2 := tB) IA up keep unB hokB osB bareB ea ed hd1
        exact ⟨rv, nw, _, _, ⟨G, gB, dB, tB, osZ⟩, _, .ref C, some d, rfl, J, kG, ge, hoe, ⟨rfl, rfl, fun ws hw => by cases hw; rfl⟩, rfl, rfl, na, rfl, bareB, raises_own ox.exC ox.tyC, qB⟩
  exact call
theorem ps_excN (hc : X.calm = true) (tk : L2N.Takes X W) (T : RB.ExcF X.K C fl) (c : Callable X.prog X.w X.K X.mg X.base k (He.ma X.K C "__init__") ps [] (RQ.spExcInit X.K fl)) (hr : Room (k + 1) X.A) (hm : X.mg x = some (.ref C)) (hg : Gl X x) (ha : PA X [e] t)
    (hdb : (x == ("__debug__" : Str)) = false := by decide) (he : starEach (e :: []) X.env = (false, eval e X.env) :: starEach [] X.env := by rfl) (hpl : (backTo pos (starEach [] X.env)).any (·.1) = false := by rfl) :
    PS X (.Raise (some (.Call (.Name x p) [e] [] pos)) none pos2) (RQ.tExc C fl W t) := L2N.ps_raise hc tk (pmk_excN T c hr hm hg ha hdb he hpl)
end
section
variable {P : Program} {w : World} {K : PySem.W.Frag} {mg : Str → Option Value} {base : Heap} {nm qual : Str} {f : Addr} {k : Nat} {N ps : List Str} {sp : Sp}
/-- an error's __init__, called while another error is handled -/
def InitH (P : Program) (w : World) (K : PySem.W.Frag) (mg : Str → Option Value) (base : Heap) (k : Nat) (f : Addr) (ps : List Str) (sp : Sp) : Prop :=
  ∃ fd, L2H.FnH P w K mg base CX0 k f fd ps sp ∧ Binds K fd ps [] ∧ PySem.W.keepIn K (.ref f) = true
theorem stands_initH {st : Stmt} (F : Stands K nm qual st [] f) (S : FnScope N ps (defScope st)) (size : ∀ vs H Q E, sp vs H Q E → vs.length = ps.length)
    (body : ∀ (cdv : Value) (A : Around) (outer : List Env) (s : Shared) (H : Hp) (vs : List V) (Q : VK) (E : XK) (p : Addr × Obj), L2H.RoomH k (A.deeper (envOfC qual (defScope st) s.heap.objs.size f cdv)) → sp vs H Q E →
      ∃ t, PSs (L2H.cxH CX0 P w K mg base N qual (defScope st) f cdv A outer s H E p) (defBody st) t ∧ t { nx := fun _ H' => Q .non H', rt := Q } (L2.start N vs) H)
    (bind : ∀ (kV doc pm : Value) (an : Option Addr) (cdv ct : Value) (us : List Value), us.length = ps.length → bindArgs (PySem.W.fnOf nm qual (defArgs st) (defBody st) (defScope st) .none kV doc pm an cdv ct) ⟨us, []⟩ = pure (ps.zip us)) :
    InitH P w K mg base (k + 1) f ps sp := by
  obtain ⟨fd, D⟩ := F
  obtain ⟨oc, od, dV, kV, doc, pm, an, cdv, ct, osl, rfl, look, code, _, _⟩ := D.ex
  exact ⟨_, L2H.fn_ofH look code S size fun A outer s H vs Q E p _ hr h => body cdv A outer s H vs Q E p hr h, D.bindsN bind, D.kp⟩
end
section
variable {X : Cx} {k : Nat} {C : Addr} {ps : List Str} {x fl : Str} {p pos pos2 : Pos} {e : Expr} {t : TA} {W : WX}
theorem pmk_excH (T : RB.ExcF X.K C fl) (c : InitH X.prog X.w X.K X.mg X.base k (He.ma X.K C "__init__") ps (RQ.spExcInit X.K fl)) (hr : L2H.RoomH (k + 1) X.A) (hot : L2H.HotC X) (hm : X.mg x = some (.ref C)) (hg : Gl X x) (ha : PA X [e] t)
    (hdb : (x == ("__debug__" : Str)) = false := by decide) (he : starEach (e :: []) X.env = (false, eval e X.env) :: starEach [] X.env := by rfl) (hpl : (backTo pos (starEach [] X.env)).any (·.1) = false := by rfl) :
    L2N.PMk X (.Call (.Name x p) [e] [] pos) (RQ.tMkE C fl t) := by
  obtain ⟨fd, Fi, hb, hk⟩ := c
  intro pins s σ H Q I h
  have both : PA X [e] (fun σ0 H0 K0 => t σ0 H0 (fun vs H1 => ∃ v, vs = [v] ∧ ∀ d, H1 d = none → Q (.ref C) (some d) (upd H1 d (.xd [(fl, v)]))) ∧
      ∀ vs H1, (∃ v, vs = [v] ∧ ∀ d, H1 d = none → Q (.ref C) (some d) (upd H1 d (.xd [(fl, v)]))) → K0 vs H1) := ⟨fun pos0 pins0 s0 σ0 H0 K0 I0 h0 =>
    wpAny_mono (ha.run pos0 pins0 s0 σ0 H0 _ I0 h0.1) (fun us s1 ⟨vs, H1, I1, r1, q1⟩ => ⟨vs, H1, I1, r1, h0.2 vs H1 q1⟩) (fun _ _ z => z)⟩
  exact (L2H.pmk5_oexH (x := x) (p := p) (pos := pos) T.ox T.ini T.ty Fi hr hot hb pass0 hg hm both hdb he hpl).pmk pins s σ H Q I ⟨h, fun vs H1 q => RQ.mkE_of T q⟩
/-- raise C(e) in an except suite -/
theorem ps_excH (hot : L2H.HotC X) (tk : L2.Takes X W) (T : RB.ExcF X.K C fl) (c : InitH X.prog X.w X.K X.mg X.base k (He.ma X.K C "__init__") ps (RQ.spExcInit X.K fl)) (hr : L2H.RoomH (k + 1) X.A) (hm : X.mg x = some (.ref C)) (hg : Gl X x) (ha : PA X [e] t)
    (hdb : (x == ("__debug__" : Str)) = false := by decide) (he : starEach (e :: []) X.env = (false, eval e X.env) :: starEach [] X.env := by rfl) (hpl : (backTo pos (starEach [] X.env)).any (·.1) = false := by rfl) :
    PS X (.Raise (some (.Call (.Name x p) [e] [] pos)) none pos2) (RQ.tExc C fl W t) := L2H.ps_raiseH hot tk (pmk_excH T c hr hot hm hg ha hdb he hpl)
end
end RH

set_option Elab.async false
set_option linter.all false
set_option maxRecDepth 100000
set_option maxHeartbeats 4000000
/-! None as a key: d.get(x, z) where x may be None. -/
namespace RZN
open PySem PySem.Spec PyProof.Rows L2 RC
section
variable {X : Cx} {pins : List (Addr × Obj)} {σ : L2.St} {H : Hp} {s : Shared} {a : Addr} {kvs : List (Key × V)} {A : Around} {E : Value → Shared → Prop} {r : Value}
theorem none_get2 {Q : Value → Shared → Prop} (I : Inv X pins σ H s) (e : Rd H a (.dK kvs)) (h : ∀ s', Inv X pins σ H s' → Q r s') :
    wpAny (model X.prog X.w) A (call (.builtin "dict.get") [.ref a, .none, r]) Q E s := by
  obtain ⟨_, hd, vs, rel, dd⟩ := dk_rd I.hok e
  obtain ⟨g, mp, g0⟩ := none_map dd
  refine call_meetsIn PySem.F.slot_dict_get dd.typeIs PySem.F.entry_dict_get (PySem.F.args_dict_get_3 _ _ _) (meets_dict_get_default (noneKind X.prog X.w) a (show (noneKind X.prog X.w).is none .none = true from rfl) hd r) ⟨g, mp, ?_⟩
  rw [g0]
  exact h _ (I.tok _)
end
def tDGetN2 (td ty tx : TE) : TE := fun σ H Q => td σ H fun x H1 => ∃ a, x = .ref a ∧ IsD H1 a ∧ ty σ H1 fun y H2 => tx σ H2 fun z H3 => (∃ o, DGet H3 a y o ∧ Q (o.getD z) H3) ∨ ∃ kvs, y = .non ∧ Rd H3 a (.dK kvs) ∧ Q z H3
section
variable {X : Cx} {o e f : Expr} {td ty tx : TE} {apos cpos : Pos}
theorem pe_dgetN2 (hu : X.A.units + 1 < cLine) (ho : PE X o td) (he : PE X e ty) (hf : PE X f tx) (m : M2 X o "get" apos e f cpos) : PE X (.Call (.Attribute o "get" apos) [e, f] [] cpos) (tDGetN2 td ty tx) := by
  refine ⟨fun pins s σ H Q I h => ?_⟩
  refine wpAny_Call_method m.base m.few m.line PySem.F.plainAttrs_dict PySem.F.slot_dict_get PySem.F.type_dict_get (thn (ho.run pins s σ H _ I h) fun du sA ⟨x, HA, IA, rx, a, ex, isd, qA⟩ => ?_)
  subst ex
  obtain rfl : du = Value.ref a := rx
  obtain ⟨k1, k2, _⟩ := isD_at IA isd
  refine ⟨k1, k2, ?_⟩
  rw [m.trees]
  refine Calls.callWith_builtin rfl (Calls.evalArgs_plain (Calls.spliced_cons (thn (he.run pins sA σ HA _ IA qA) fun ku sB ⟨y, HB, IB, ry, qB⟩ =>
    Calls.spliced_cons (thn (hf.run pins sB σ HB _ IB qB) fun zu sC ⟨z, HC, IC, rz, qC⟩ => Calls.spliced_nil ?_))))
  rcases qC with ⟨ov, g, q⟩ | ⟨kvs, ey, g, q⟩
  · exact d_get2 hu IC g ry rz fun w' sD ID rw' => ⟨_, HC, ID, rw', q⟩
  · subst ey
    obtain rfl : ku = Value.none := ry
    exact none_get2 IC g fun sD ID => ⟨z, HC, ID, rz, q⟩
end
end RZN

set_option Elab.async false
set_option linter.all false
set_option maxRecDepth 100000
set_option maxHeartbeats 4000000
/-! a, b = a list of that length. -/
namespace RUl
open PySem PySem.Spec PyProof.Rows L2
section
variable {prog : Program} {w : World} {A : Around} {E : Value → Shared → Prop}
theorem pullL {it l : Addr} {us : Array Value} (ne : l ≠ it) (m : Nat) : ∀ (j : Nat) (st : Shared) (R : List Value → Shared → Prop), st.heap.IsListIter it l j → st.heap.IsList l us → j + m ≤ us.size →
    (∀ g, g.IsListIter it l (j + m) → Heap.SameBut it st.heap g → R ((us.toList.drop j).take m) { st with heap := g }) → wpAny (model prog w) A (draw (.ref it) m) R E st := by
  induction m with
  | zero =>
    intro j st R hi hl hle q
    show wpAny _ _ (pure []) _ _ _
    refine wpAny_pure ?_
    have := q st.heap hi (Heap.SameBut.refl ..)
    simpa using this
  | succ m ih =>
    intro j st R hi hl hle q
    have lt : j < us.size := by omega
    show wpAny _ _ (pyNext (.ref it) >>= _) _ _ _
    refine wpAny_bind (wpAny_pyNext_list_item hi hl (x := us[j]) (by simp [lt]) fun g1 i1 b1 => ?_)
    refine wpAny_bind (wpAny_holding (ih (j + 1) _ _ i1 (hl.extBut b1.extBut ne) (by omega) fun g2 i2 b2 => wpAny_pure ?_))
    have ed : us.toList.drop j = us[j] :: us.toList.drop (j + 1) := by simp [List.drop_eq_getElem_cons, lt]
    have z := q g2 (by rw [show j + (m + 1) = j + 1 + m by omega]; exact i2) (b1.trans b2)
    rwa [ed, List.take_succ_cons] at z
theorem unpL {l : Addr} {us : Array Value} {st : Shared} {R : List Value → Shared → Prop} (calm : A.handled = none) (hl : st.heap.IsList l us)
    (q : ∀ g, Heap.ExtBut st.heap.objs.size st.heap g → R us.toList { st with heap := g }) : wpAny (model prog w) A (unpackItems (.ref l) us.size none) R E st := by
  have ne : l ≠ st.heap.objs.size := by
    obtain ⟨o, ho, _⟩ := hl
    exact Nat.ne_of_lt (Heap.lt_size ho)
  unfold unpackItems
  refine wpAny_bind ?_
  unfold notIterableAtAll
  refine wpAny_bind (wpAny_specialOf hl.typeIs slot_list_iter.lookup (wpAny_pure ?_))
  simp only [Bool.false_eq_true, if_false]
  refine wpAny_bind (wpAny_holding (wpAny_pyIter_list hl ?_))
  refine wpAny_bind (wpAny_holding (pullL ne us.size 0 _ _ ⟨_, Heap.get?_push_size _ rfl, rfl, rfl⟩ (hl.push _) (by omega) fun g1 i1 b1 => ?_))
  rw [List.drop_zero, List.take_of_length_le (show us.toList.length ≤ us.size by simp), if_neg (by simp)]
  refine wpAny_bind (wpAny_holding (wpAny_pyNext_list_end calm i1 ((hl.push _).extBut b1.extBut ne) (by simp) fun g2 e2 => ?_))
  simp only [Option.isSome_none, Bool.false_eq_true, if_false]
  exact wpAny_pure (q g2 fun b o hb e => e2 b o hb (b1.extBut b o hb (Heap.get?_push_of_some _ e)))
end
/-- (a, b, ..) = a list of that length -/
def gUnL (K : PySem.W.Frag) (n : Nat) (t : TGs) : TG := fun v σ H Q => ∃ a xs, v = .ref a ∧ SqL K H a xs ∧ xs.length = n ∧ t xs σ H Q
theorem pg_unL {X : Cx} {K : PySem.W.Frag} {es : List Expr} {k n : Nat} {pos : Pos} {t : TGs} (hc : X.calm = true) (h : PGs X es t) (hn : (assignEach es X.env).length = n := by rfl) (hst : (assignEach es X.env).findIdx? (·.1) = none := by rfl) (z : X.K = K := by rfl) :
    PG X (.Tuple es k pos) (gUnL K n t) := by
  subst z
  refine ⟨fun pins s σ H v u Q I r q => ?_⟩
  obtain ⟨l, xs, rfl, hq, hlen, q⟩ := q
  obtain rfl : u = Value.ref l := r
  obtain ⟨us, rv, pl, _⟩ := I.list hq
  have e : (assignEach es X.env).length = us.toArray.size := by rw [hn, List.size_toArray, ← rv.length]; exact hlen.symm
  rw [assign_Tuple]
  refine wpAny_bind (wpAny_standAt ?_)
  unfold unpack
  rw [e, hst]
  refine wpAny_bind (wpAny_holding (unpL (I.ok.hd hc) pl.isList fun g hx => ?_))
  exact h.run pins _ σ H xs _ Q (I.kept (t' := s.toks) fun b o eb => hx b o (Nat.ne_of_lt (Heap.lt_size eb)) eb) (by simpa using rv) q
/-- a for's list, in a comprehension's block -/
theorem pi_listK {X : Cx} {K : PySem.W.Frag} {tg l : Expr} {tl : TE} (hl : PE X l tl) (z : X.K = K := by rfl) : PI X tg l (iList K tl) := z ▸ pi_list hl
end RUl

set_option Elab.async false
set_option linter.all false
set_option maxRecDepth 100000
set_option maxHeartbeats 4000000
/-! A model M of what stands at the places ad: what is changed at one model leaves the others. -/
namespace RR
open PySem PySem.Spec PyProof.Rows L2 RC
section
variable {R S : Type} {M M' M'' : R → Option HO} {N N' : S → Option HO} {ad ad' ad'' : R → Addr} {bd bd' : S → Addr} {H H' H'' : Hp} {b p s l : Addr} {o o0 o1 : HO}
structure Rep (M : R → Option HO) (ad : R → Addr) (H : Hp) : Prop where
  at_ : ∀ r o, M r = some o → H (ad r) = some o
  inj : ∀ r r' o o', M r = some o → M r' = some o' → ad r = ad r' → r = r'
def Out (M : R → Option HO) (ad : R → Addr) (b : Addr) : Prop := ∀ r u, M r = some u → ad r ≠ b
structure Mv {R S : Type} (M : R → Option HO) (ad : R → Addr) (H : Hp) (M' : S → Option HO) (ad' : S → Addr) (H' : Hp) : Prop where
  keep : ∀ b o, Out M ad b → H b = some o → H' b = some o
  img : ∀ r u, M' r = some u → (∃ r' u', M r' = some u' ∧ ad r' = ad' r) ∨ H (ad' r) = none
theorem Rep.out (h : Rep M ad H) (hp : H p = none) : Out M ad p := fun r u e z => by rw [← z, h.at_ _ _ e] at hp; cases hp
theorem Mv.refl (H : Hp) : Mv M ad H M ad H := ⟨fun _ _ _ e => e, fun r u e => .inl ⟨r, u, e, rfl⟩⟩
theorem Mv.out {R S : Type} {M : R → Option HO} {ad : R → Addr} {M' : S → Option HO} {ad' : S → Addr} (m : Mv M ad H M' ad' H') (h : Out M ad b) (e : H b = some o) : Out M' ad' b := fun r u er z => by
  rcases m.img r u er with ⟨r', u', e', z'⟩ | hn
  · exact h r' u' e' (z'.trans z)
  · rw [z, e] at hn; cases hn
theorem Mv.trans {R S U : Type} {M : R → Option HO} {ad : R → Addr} {M' : S → Option HO} {ad' : S → Addr} {M'' : U → Option HO} {ad'' : U → Addr} (a : Mv M ad H M' ad' H') (c : Mv M' ad' H' M'' ad'' H'') : Mv M ad H M'' ad'' H'' where
  keep := fun b o h e => c.keep b o (a.out h e) (a.keep b o h e)
  img := fun r u e => by
    rcases c.img r u e with ⟨r', u', e', z⟩ | hn
    · rcases a.img r' u' e' with ⟨r2, u2, e2, z2⟩ | h
      · exact .inl ⟨r2, u2, e2, z2.trans z⟩
      · exact .inr (by rw [← z]; exact h)
    · cases hH : H (ad'' r) with
      | none => exact .inr rfl
      | some o =>
        by_cases ho : Out M ad (ad'' r)
        · rw [a.keep _ _ ho hH] at hn; cases hn
        · refine .inl ?_
          apply Classical.byContradiction
          intro z
          exact ho fun r' u' e' q => z ⟨r', u', e', q⟩
theorem Rep.same (h : Rep M ad H) (e : Same H H') : Rep M ad H' := ⟨fun r o q => e _ _ (h.at_ r o q), h.inj⟩
theorem Mv.same (e : Same H H') : Mv M ad H M ad H' := ⟨fun b o _ q => e b o q, fun r u q => .inl ⟨r, u, q, rfl⟩⟩
theorem Mv.sameR {R S : Type} {M : R → Option HO} {ad : R → Addr} {M' : S → Option HO} {ad' : S → Addr} (a : Mv M ad H M' ad' H') (e : Same H' H'') : Mv M ad H M' ad' H'' := a.trans (Mv.same e)
theorem Mv.sameL {R S : Type} {M : R → Option HO} {ad : R → Addr} {M' : S → Option HO} {ad' : S → Addr} (a : Mv M ad H' M' ad' H'') (e : Same H H') : Mv M ad H M' ad' H'' := (Mv.same e).trans a
def Dj (M : R → Option HO) (ad : R → Addr) (N : S → Option HO) (bd : S → Addr) : Prop := ∀ r u, N r = some u → Out M ad (bd r)
theorem Dj.symm (d : Dj M ad N bd) : Dj N bd M ad := fun r u e r' u' e' z => d r' u' e' r u e z.symm
theorem Mv.rep {R S U : Type} {M : R → Option HO} {ad : R → Addr} {M' : S → Option HO} {ad' : S → Addr} {N : U → Option HO} {bd : U → Addr} (a : Mv M ad H M' ad' H') (d : Dj M ad N bd) (n : Rep N bd H) : Rep N bd H' := ⟨fun r o q => a.keep _ _ (d r o q) (n.at_ r o q), n.inj⟩
theorem Mv.dj {R S U : Type} {M : R → Option HO} {ad : R → Addr} {M' : S → Option HO} {ad' : S → Addr} {N : U → Option HO} {bd : U → Addr} (a : Mv M ad H M' ad' H') (d : Dj M ad N bd) (n : Rep N bd H) : Dj M' ad' N bd := fun r u q => a.out (d r u q) (n.at_ r u q)
theorem Rep.set (h : Rep M ad H) (r : R) (h0 : M r = some o0) (h1 : M' r = some o) (h2 : ∀ r', r' ≠ r → M' r' = M r') : Rep M' ad (upd H (ad r) o) ∧ Mv M ad H M' ad (upd H (ad r) o) := by
  have k : ∀ r' u, M' r' = some u → ∃ u', M r' = some u' := fun r' u e => by
    by_cases c : r' = r
    · rw [c]; exact ⟨_, h0⟩
    · rw [h2 r' c] at e; exact ⟨_, e⟩
  refine ⟨⟨fun r' u e => ?_, fun r1 r2 u1 u2 e1 e2 z => ?_⟩, fun b u hb e => ?_, fun r' u e => ?_⟩
  · by_cases c : r' = r
    · rw [c, upd_same]; rw [c, h1] at e; exact e
    · rw [h2 r' c] at e
      rw [upd_ne (fun z => c (h.inj _ _ _ _ e h0 z))]; exact h.at_ _ _ e
  · obtain ⟨v1, q1⟩ := k _ _ e1
    obtain ⟨v2, q2⟩ := k _ _ e2
    exact h.inj _ _ _ _ q1 q2 z
  · rw [upd_ne (fun z => hb r _ h0 z.symm)]; exact e
  · obtain ⟨u', q⟩ := k _ _ e
    exact .inl ⟨r', u', q, rfl⟩
theorem Rep.new (h : Rep M ad H) (hp : H p = none) (r : R) (h1 : M' r = some o) (h2 : ∀ r', r' ≠ r → M' r' = M r') (a1 : ad' r = p) (a2 : ∀ r', r' ≠ r → ad' r' = ad r') : Rep M' ad' (upd H p o) ∧ Mv M ad H M' ad' (upd H p o) := by
  refine ⟨⟨fun r' u e => ?_, fun r1 r2 u1 u2 e1 e2 z => ?_⟩, fun b u hb e => ?_, fun r' u e => ?_⟩
  · by_cases c : r' = r
    · rw [c, a1, upd_same]; rw [c, h1] at e; exact e
    · rw [h2 r' c] at e
      have g := h.at_ _ _ e
      rw [a2 r' c, upd_ne (fun z => by rw [z, hp] at g; cases g)]; exact g
  · by_cases c1 : r1 = r
    · by_cases c2 : r2 = r
      · rw [c1, c2]
      · rw [h2 r2 c2] at e2
        have g := h.at_ _ _ e2
        rw [c1, a1, a2 r2 c2] at z
        rw [← z, hp] at g; cases g
    · by_cases c2 : r2 = r
      · rw [h2 r1 c1] at e1
        have g := h.at_ _ _ e1
        rw [c2, a1, a2 r1 c1] at z
        rw [z, hp] at g; cases g
      · rw [h2 r1 c1] at e1
        rw [h2 r2 c2] at e2
        rw [a2 r1 c1, a2 r2 c2] at z
        exact h.inj _ _ _ _ e1 e2 z
  · rw [upd_ne (fun z => by rw [z, hp] at e; cases e)]; exact e
  · by_cases c : r' = r
    · rw [c, a1]; exact .inr hp
    · rw [h2 r' c] at e
      exact .inl ⟨r', u, e, (a2 r' c).symm⟩
/-- a new thing at one place, and a place that tells of it -/
theorem Rep.newset (h : Rep M ad H) (hp : H p = none) (r r0 : R) (hr : r0 ≠ r) (h0 : M r0 = some o0) (h1 : M' r = some o) (h3 : M' r0 = some o1) (h2 : ∀ r', r' ≠ r → r' ≠ r0 → M' r' = M r') (a1 : ad' r = p) (a2 : ∀ r', r' ≠ r → ad' r' = ad r') :
    Rep M' ad' (upd (upd H p o) (ad r0) o1) ∧ Mv M ad H M' ad' (upd (upd H p o) (ad r0) o1) := by
  classical
  obtain ⟨g1, g2⟩ := h.new (M' := fun r' => if r' = r then some o else M r') hp r (if_pos rfl) (fun r' c => if_neg c) a1 a2
  have e0 : (fun r' => if r' = r then some o else M r') r0 = some o0 := (if_neg hr).trans h0
  obtain ⟨g3, g4⟩ := g1.set (M' := M') r0 e0 h3 (fun r' c => by
    by_cases d : r' = r
    · rw [d, h1]; exact (if_pos rfl).symm
    · rw [h2 r' d c]; exact (if_neg d).symm)
  rw [a2 r0 hr] at g3 g4
  exact ⟨g3, g2.trans g4⟩
theorem Rep.old (h : Rep M ad H) (e : Old s l H H') (hs : Out M ad s) (hl : Out M ad l) : Rep M ad H' := ⟨fun r o q => e _ _ (fun z => hs r o q z) (fun z => hl r o q z) (h.at_ r o q), h.inj⟩
theorem Stm.mv {R S : Type} {M : R → Option HO} {ad : R → Addr} {M' : S → Option HO} {ad' : S → Addr} {n : Nat} (st : Stm H s l n) (a : Mv M ad H M' ad' H') (hs : Out M ad s) (hl : Out M ad l) : Stm H' s l n := by
  obtain ⟨ne, ns, x, c, d, g1, g2, g3⟩ := st
  exact ⟨ne, ns, x, c, d, a.keep _ _ hs g1, a.keep _ _ hl g2, g3⟩
end
end RR

set_option Elab.async false
set_option linter.all false
set_option maxRecDepth 100000
set_option maxHeartbeats 4000000
/-! A world: a stream of draws and several models apart from one another; what is done at one leaves the others. -/
namespace RS
open PySem PySem.Spec PyProof.Rows L2 RC RR
structure Comp where
  R : Type
  M : R → Option HO
  ad : R → Addr
def cell (p : Addr) (o : HO) : Comp := ⟨Unit, fun _ => some o, fun _ => p⟩
abbrev Comp.rep (c : Comp) (H : Hp) : Prop := Rep c.M c.ad H
abbrev Comp.out (c : Comp) (b : Addr) : Prop := Out c.M c.ad b
abbrev Comp.dj (a b : Comp) : Prop := Dj a.M a.ad b.M b.ad
abbrev CMv (c : Comp) (H : Hp) (c' : Comp) (H' : Hp) : Prop := Mv c.M c.ad H c'.M c'.ad H'
structure Wd (H : Hp) (s l : Addr) (n : Nat) (cs : List Comp) : Prop where
  stm : Stm H s l n
  rep : ∀ c ∈ cs, c.rep H
  pw : cs.Pairwise Comp.dj
  os : ∀ c ∈ cs, c.out s ∧ c.out l
section
variable {H H' : Hp} {s l p b : Addr} {n k : Nat} {cs ds : List Comp} {c c' d e f g : Comp} {o o' : HO}
theorem Wd.same (W : Wd H s l n cs) (e : Same H H') : Wd H' s l n cs := ⟨W.stm.same e, fun c h => (W.rep c h).same e, W.pw, W.os⟩
theorem Wd.old (W : Wd H s l n cs) (e : Old s l H H') (st : Stm H' s l k) : Wd H' s l k cs := ⟨st, fun c h => (W.rep c h).old e (W.os c h).1 (W.os c h).2, W.pw, W.os⟩
theorem Wd.mono (W : Wd H s l n cs) (h : n ≤ k) : Wd H s l k cs := ⟨W.stm.mono h, W.rep, W.pw, W.os⟩
theorem Wd.perm (W : Wd H s l n cs) (h : ds.Perm cs) : Wd H s l n ds :=
  ⟨W.stm, fun c hc => W.rep c (h.mem_iff.mp hc), (h.pairwise_iff (fun {a b} hab => Dj.symm hab)).mpr W.pw, fun c hc => W.os c (h.mem_iff.mp hc)⟩
theorem Wd.hd (W : Wd H s l n (c :: cs)) : c.rep H := W.rep c List.mem_cons_self
theorem Wd.tl (W : Wd H s l n (c :: cs)) : Wd H s l n cs := ⟨W.stm, fun d h => W.rep d (List.mem_cons_of_mem _ h), (List.pairwise_cons.mp W.pw).2, fun d h => W.os d (List.mem_cons_of_mem _ h)⟩
theorem Wd.mv (W : Wd H s l n (c :: cs)) (R : c'.rep H') (m : CMv c H c' H') : Wd H' s l n (c' :: cs) := by
  have hp := List.pairwise_cons.mp W.pw
  have hs := W.os c List.mem_cons_self
  obtain ⟨ne, ns, x, cc, dd, g1, g2, g3⟩ := id W.stm
  refine ⟨Stm.mv W.stm m hs.1 hs.2, fun d hd => ?_, List.pairwise_cons.mpr ⟨fun d hd => ?_, hp.2⟩, fun d hd => ?_⟩
  · rcases List.mem_cons.mp hd with rfl | hd
    · exact R
    · exact m.rep (hp.1 d hd) (W.rep d (List.mem_cons_of_mem _ hd))
  · exact m.dj (hp.1 d hd) (W.rep d (List.mem_cons_of_mem _ hd))
  · rcases List.mem_cons.mp hd with rfl | hd
    · exact ⟨m.out hs.1 g1, m.out hs.2 g2⟩
    · exact W.os d (List.mem_cons_of_mem _ hd)
theorem cell_rep (h : H p = some o) : (cell p o).rep H := ⟨fun _ u e => by cases e; exact h, fun _ _ _ _ _ _ _ => rfl⟩
theorem cell_out (h : b ≠ p) : (cell p o).out b := fun _ _ _ z => h z.symm
theorem Wd.new (W : Wd H s l n cs) (hp : H p = none) : Wd (upd H p o) s l n (cell p o :: cs) := by
  have W' := W.same (same_new hp o)
  obtain ⟨ne, ns, x, cc, dd, g1, g2, g3⟩ := W.stm
  refine ⟨W'.stm, fun d hd => ?_, List.pairwise_cons.mpr ⟨fun d hd => ?_, W'.pw⟩, fun d hd => ?_⟩
  · rcases List.mem_cons.mp hd with rfl | hd
    · exact cell_rep upd_same
    · exact W'.rep d hd
  · intro r u er _ _ _ z
    have z : p = d.ad r := z
    exact (W.rep d hd).out hp r u er z.symm
  · rcases List.mem_cons.mp hd with rfl | hd
    · exact ⟨cell_out (fun z => (by rw [← z, g1] at hp; cases hp)), cell_out (fun z => (by rw [← z, g2] at hp; cases hp))⟩
    · exact W'.os d hd
/-- what was laid since -/
theorem Wd.fresh (W : Wd H s l n cs) (e : Same H H') (hp : H p = none) (h : H' p = some o) : Wd H' s l n (cell p o :: cs) := by
  have W' := W.same e
  obtain ⟨ne, ns, x, cc, dd, g1, g2, g3⟩ := W.stm
  refine ⟨W'.stm, fun d hd => ?_, List.pairwise_cons.mpr ⟨fun d hd => ?_, W'.pw⟩, fun d hd => ?_⟩
  · rcases List.mem_cons.mp hd with rfl | hd
    · exact cell_rep h
    · exact W'.rep d hd
  · intro r u er _ _ _ z
    have z : p = d.ad r := z
    exact (W.rep d hd).out hp r u er z.symm
  · rcases List.mem_cons.mp hd with rfl | hd
    · exact ⟨cell_out (fun z => (by rw [← z, g1] at hp; cases hp)), cell_out (fun z => (by rw [← z, g2] at hp; cases hp))⟩
    · exact W'.os d hd
/-- a model was laid since, at places that were free -/
theorem Wd.add (W : Wd H s l n cs) (e : Same H H') (R : c.rep H') (hf : ∀ r u, c.M r = some u → H (c.ad r) = none) : Wd H' s l n (c :: cs) := by
  have W' := W.same e
  obtain ⟨ne, ns, x, cc, dd, g1, g2, g3⟩ := W.stm
  refine ⟨W'.stm, fun d hd => ?_, List.pairwise_cons.mpr ⟨fun d hd => ?_, W'.pw⟩, fun d hd => ?_⟩
  · rcases List.mem_cons.mp hd with rfl | hd
    · exact R
    · exact W'.rep d hd
  · intro r u er r' u' er' z
    have h := (W.rep d hd).at_ r u er
    rw [← z, hf r' u' er'] at h; cases h
  · rcases List.mem_cons.mp hd with rfl | hd
    · exact ⟨fun r u er z => (by rw [← z, hf r u er] at g1; cases g1), fun r u er z => (by rw [← z, hf r u er] at g2; cases g2)⟩
    · exact W'.os d hd
theorem Wd.c0 (W : Wd H s l n (cell p o :: cs)) : H p = some o := W.hd.at_ () o rfl
theorem cell_mv : CMv (cell p o) H (cell p o') (upd H p o') := ⟨fun b u hb e => (upd_ne (show b ≠ p from fun z => hb () o rfl z.symm)).trans e, fun _ _ _ => .inl ⟨(), _, rfl, rfl⟩⟩
theorem Wd.set (W : Wd H s l n (cell p o :: cs)) : Wd (upd H p o') s l n (cell p o' :: cs) := W.mv (cell_rep upd_same) cell_mv
theorem Wd.up1 (W : Wd H s l n (c :: d :: cs)) : Wd H s l n (d :: c :: cs) := W.perm (.swap _ _ _)
theorem Wd.up2 (W : Wd H s l n (c :: d :: e :: cs)) : Wd H s l n (e :: c :: d :: cs) := W.perm ((List.Perm.swap _ _ _).trans (.cons _ (.swap _ _ _)))
theorem Wd.dn2 (W : Wd H s l n (e :: c :: d :: cs)) : Wd H s l n (c :: d :: e :: cs) := W.perm (((List.Perm.swap _ _ _).trans (.cons _ (.swap _ _ _))).symm)
theorem Wd.up3 (W : Wd H s l n (c :: d :: e :: f :: cs)) : Wd H s l n (f :: c :: d :: e :: cs) := W.perm ((List.Perm.swap _ _ _).trans (.cons _ ((List.Perm.swap _ _ _).trans (.cons _ (.swap _ _ _)))))
theorem Wd.dn3 (W : Wd H s l n (f :: c :: d :: e :: cs)) : Wd H s l n (c :: d :: e :: f :: cs) := W.perm (((List.Perm.swap _ _ _).trans (.cons _ ((List.Perm.swap _ _ _).trans (.cons _ (.swap _ _ _))))).symm)
theorem Wd.up4 (W : Wd H s l n (c :: d :: e :: f :: g :: cs)) : Wd H s l n (g :: c :: d :: e :: f :: cs) := W.perm ((List.Perm.swap _ _ _).trans (.cons _ ((List.Perm.swap _ _ _).trans (.cons _ ((List.Perm.swap _ _ _).trans (.cons _ (.swap _ _ _)))))))
theorem Wd.dn4 (W : Wd H s l n (g :: c :: d :: e :: f :: cs)) : Wd H s l n (c :: d :: e :: f :: g :: cs) := W.perm (((List.Perm.swap _ _ _).trans (.cons _ ((List.Perm.swap _ _ _).trans (.cons _ ((List.Perm.swap _ _ _).trans (.cons _ (.swap _ _ _))))))).symm)
theorem Wd.sw1 (W : Wd H s l n (c :: d :: e :: cs)) : Wd H s l n (c :: e :: d :: cs) := W.perm (.cons _ (.swap _ _ _))
theorem Wd.dj (W : Wd H s l n (c :: d :: cs)) : c.dj d := (List.pairwise_cons.mp W.pw).1 d List.mem_cons_self
theorem Wd.stmNe (W : Wd H s l n (cell p o :: cs)) : p ≠ s ∧ p ≠ l := ⟨fun z => (W.os _ List.mem_cons_self).1 () o rfl z, fun z => (W.os _ List.mem_cons_self).2 () o rfl z⟩
/-- a place outside of a model -/
theorem rep_out {R : Type} {M : R → Option HO} {ad : R → Addr} (h : Rep M ad H) (ho : Out M ad b) : Rep M ad (upd H b o) := ⟨fun r u e => by rw [upd_ne (ho r u e)]; exact h.at_ r u e, h.inj⟩
end
theorem mv_put {R S : Type} {M : R → Option HO} {M' : S → Option HO} {ad : R → Addr} {ad' : S → Addr} {H H' : Hp} {p : Addr} {o : HO} (a : Mv M ad H M' ad' H') (hp : H p = none) : Mv M ad H M' ad' (upd H' p o) :=
  ⟨fun b u hb e => by rw [upd_ne (ne_of_none e hp)]; exact a.keep b u hb e, a.img⟩
/-- a model becomes another one: what is new lies at places that were free -/
theorem rep_extS {R S : Type} {M : R → Option HO} {M' : S → Option HO} {ad : R → Addr} {ad' : S → Addr} {H H' : Hp} (φ : S → R) (φi : ∀ r r', φ r = φ r' → r = r') (N : List S) (h : Rep M ad H) (at' : ∀ r o, M' r = some o → H' (ad' r) = some o)
    (cls : ∀ r o, M' r = some o → ((∃ o', M (φ r) = some o') ∧ ad' r = ad (φ r)) ∨ (r ∈ N ∧ H (ad' r) = none)) (nj : ∀ r ∈ N, ∀ r' ∈ N, ad' r = ad' r' → r = r') (keep : ∀ b o, Out M ad b → H b = some o → H' b = some o) : Rep M' ad' H' ∧ Mv M ad H M' ad' H' := by
  refine ⟨⟨at', fun r r' o o' e e' z => ?_⟩, keep, fun r u e => ?_⟩
  · rcases cls r o e with ⟨⟨u, g⟩, a⟩ | ⟨n, a⟩
    · rcases cls r' o' e' with ⟨⟨u', g'⟩, a'⟩ | ⟨n', a'⟩
      · rw [a, a'] at z; exact φi _ _ (h.inj _ _ _ _ g g' z)
      · rw [← z, a, h.at_ _ _ g] at a'; cases a'
    · rcases cls r' o' e' with ⟨⟨u', g'⟩, a'⟩ | ⟨n', a'⟩
      · rw [z, a', h.at_ _ _ g'] at a; cases a
      · exact nj r n r' n' z
  · rcases cls r u e with ⟨⟨u', g⟩, a⟩ | ⟨n, a⟩
    · exact .inl ⟨φ r, u', g, a.symm⟩
    · exact .inr a
theorem rep_ext {R : Type} {M M' : R → Option HO} {ad ad' : R → Addr} {H H' : Hp} (N : List R) (h : Rep M ad H) (at' : ∀ r o, M' r = some o → H' (ad' r) = some o)
    (cls : ∀ r o, M' r = some o → ((∃ o', M r = some o') ∧ ad' r = ad r) ∨ (r ∈ N ∧ H (ad' r) = none)) (nj : ∀ r ∈ N, ∀ r' ∈ N, ad' r = ad' r' → r = r') (keep : ∀ b o, Out M ad b → H b = some o → H' b = some o) : Rep M' ad' H' ∧ Mv M ad H M' ad' H' :=
  rep_extS id (fun _ _ z => z) N h at' cls nj keep
/-- two models as one -/
def Comp.sum (c d : Comp) : Comp := ⟨Sum c.R d.R, Sum.elim c.M d.M, Sum.elim c.ad d.ad⟩
theorem rep_sum {c d : Comp} {H : Hp} (hc : c.rep H) (hd : d.rep H) (dj : c.dj d) : (c.sum d).rep H := by
  refine ⟨fun r o e => ?_, fun r r' o o' e e' z => ?_⟩
  · cases r with
    | inl r => exact hc.at_ r o e
    | inr r => exact hd.at_ r o e
  · cases r with
    | inl r =>
      cases r' with
      | inl r' => exact congrArg Sum.inl (hc.inj _ _ _ _ e e' z)
      | inr r' => exact absurd z (dj r' o' e' r o e)
    | inr r =>
      cases r' with
      | inl r' => exact absurd z.symm (dj r o e r' o' e')
      | inr r' => exact congrArg Sum.inr (hd.inj _ _ _ _ e e' z)
theorem sum_out {c d : Comp} {b : Addr} (h : c.out b) (k : d.out b) : (c.sum d).out b := fun r u e => by
  cases r with
  | inl r => exact h r u e
  | inr r => exact k r u e
theorem Wd.join {H : Hp} {s l : Addr} {n : Nat} {c d : Comp} {cs : List Comp} (W : Wd H s l n (c :: d :: cs)) : Wd H s l n (c.sum d :: cs) := by
  have h1 := List.pairwise_cons.mp W.pw
  have h2 := List.pairwise_cons.mp h1.2
  refine ⟨W.stm, fun e he => ?_, List.pairwise_cons.mpr ⟨fun e he => ?_, h2.2⟩, fun e he => ?_⟩
  · rcases List.mem_cons.mp he with rfl | he
    · exact rep_sum W.hd W.tl.hd W.dj
    · exact W.rep e (List.mem_cons_of_mem _ (List.mem_cons_of_mem _ he))
  · intro r u er
    exact sum_out (h1.1 e (List.mem_cons_of_mem _ he) r u er) (h2.1 e he r u er)
  · rcases List.mem_cons.mp he with rfl | he
    · have a := W.os c List.mem_cons_self
      have b := W.os d (List.mem_cons_of_mem _ List.mem_cons_self)
      exact ⟨sum_out a.1 b.1, sum_out a.2 b.2⟩
    · exact W.os e (List.mem_cons_of_mem _ (List.mem_cons_of_mem _ he))
/-- a model out of a list of what lies where -/
theorem rep_list {R : Type} {M : R → Option HO} {ad : R → Addr} {H0 H : Hp} (L : List (R × Addr × HO)) (hM : ∀ r o, M r = some o → (r, ad r, o) ∈ L) (nd : (L.map (·.2.1)).Nodup) (hh : ∀ x ∈ L, H0 x.2.1 = none ∧ H x.2.1 = some x.2.2) :
    Rep M ad H ∧ ∀ r u, M r = some u → H0 (ad r) = none := by
  refine ⟨⟨fun r o e => (hh _ (hM r o e)).2, fun r r' o o' e e' z => ?_⟩, fun r u e => (hh _ (hM r u e)).1⟩
  obtain ⟨i, hi⟩ := List.getElem?_of_mem (hM r o e)
  obtain ⟨j, hj⟩ := List.getElem?_of_mem (hM r' o' e')
  have n1 : (L.map (·.2.1))[i]? = some (ad r) := by rw [List.getElem?_map, hi]; rfl
  have n2 : (L.map (·.2.1))[j]? = some (ad r) := by rw [List.getElem?_map, hj, z]; rfl
  have l := (List.getElem?_eq_some_iff.mp n1).1
  have ij := (List.getElem?_inj l nd).mp (n1.trans n2.symm)
  rw [ij, hj] at hi
  exact (congrArg Prod.fst (Option.some.inj hi)).symm
end RS

set_option Elab.async false
set_option linter.all false
set_option maxRecDepth 100000
set_option linter.all false
set_option maxRecDepth 100000
set_option maxHeartbeats 4000000
/-! Worlds of single cells: cells laid, cells set, a model gathered out of cells. -/
namespace RS
open PySem PySem.Spec PyProof.Rows L2 RC RR
section
variable {H H' : Hp} {s l p m q b : Addr} {n k : Nat} {cs xs ys : List Comp} {c : Comp} {o o' o1 o1' o2 : HO}
abbrev cl (x : Addr × HO) : Comp := cell x.1 x.2
theorem cell_dj (h : p ≠ q) : (cell p o).dj (cell q o1) := fun _ _ _ _ _ _ z => h z
theorem Wd.addL (W : Wd H s l n cs) (e : Same H H') : ∀ L : List (Addr × HO), (L.map (·.1)).Nodup → (∀ x ∈ L, H x.1 = none ∧ H' x.1 = some x.2) → Wd H' s l n (L.map cl ++ cs)
  | [], _, _ => W.same e
  | x :: L, nd, h => by
    obtain ⟨n1, n2⟩ := List.nodup_cons.mp nd
    have W' := Wd.addL W e L n2 fun y hy => h y (List.mem_cons_of_mem _ hy)
    obtain ⟨h1, h2⟩ := h x List.mem_cons_self
    obtain ⟨ne, ns, y, cc, dd, g1, g2, g3⟩ := W.stm
    refine ⟨W'.stm, fun d hd => ?_, List.pairwise_cons.mpr ⟨fun d hd => ?_, W'.pw⟩, fun d hd => ?_⟩
    · rcases List.mem_cons.mp hd with rfl | hd
      · exact cell_rep h2
      · exact W'.rep d hd
    · rcases List.mem_append.mp hd with hd | hd
      · obtain ⟨y, hy, rfl⟩ := List.mem_map.mp hd
        exact cell_dj fun z => n1 (by show x.1 ∈ _; rw [z]; exact List.mem_map_of_mem hy)
      · intro r u er _ _ _ z
        have z : x.1 = d.ad r := z
        exact (W.rep d hd).out h1 r u er z.symm
    · rcases List.mem_cons.mp hd with rfl | hd
      · exact ⟨cell_out (fun z => (by rw [← z, g1] at h1; cases h1)), cell_out (fun z => (by rw [← z, g2] at h1; cases h1))⟩
      · exact W'.os d hd
theorem Wd.mid (W : Wd H s l n (xs ++ c :: ys)) : Wd H s l n (c :: (xs ++ ys)) := W.perm List.perm_middle.symm
theorem Wd.unmid (W : Wd H s l n (c :: (xs ++ ys))) : Wd H s l n (xs ++ c :: ys) := W.perm List.perm_middle
theorem Wd.at_ (W : Wd H s l n (xs ++ cell p o :: ys)) : H p = some o := W.mid.c0
theorem Wd.setM (W : Wd H s l n (xs ++ cell p o :: ys)) : Wd (upd H p o') s l n (xs ++ cell p o' :: ys) := Wd.unmid (Wd.set W.mid)
theorem Wd.neM (W : Wd H s l n (cell p o :: (xs ++ cell m o1 :: ys))) : p ≠ m := fun z => by
  have h := (List.pairwise_cons.mp W.pw).1 (cell m o1) (by simp)
  exact h () o1 rfl () o rfl z
/-- a call that writes the cells p and m and lays q -/
theorem Wd.hand (W : Wd H s l n (cell p o :: (xs ++ cell m o1 :: ys))) (kp : ∀ b u, b ≠ p → b ≠ m → H b = some u → H' b = some u) (hq : H q = none) (hp : H' p = some o') (hm : H' m = some o1') (hq' : H' q = some o2) : Wd H' s l n (cell q o2 :: cell p o' :: (xs ++ cell m o1' :: ys)) := by
  have npm : p ≠ m := W.neM
  have W1 : Wd (upd H p o') s l n (cell p o' :: (xs ++ cell m o1 :: ys)) := W.set
  have W2 : Wd (upd (upd H p o') m o1') s l n ((cell p o' :: xs) ++ cell m o1' :: ys) := Wd.setM (xs := cell p o' :: xs) W1
  have hp0 : H p = some o := W.c0
  have hm0 : H m = some o1 := Wd.at_ (xs := cell p o :: xs) W
  have nqp : q ≠ p := fun z => by rw [z, hp0] at hq; cases hq
  have nqm : q ≠ m := fun z => by rw [z, hm0] at hq; cases hq
  refine Wd.fresh W2 (fun b u e => ?_) (by rw [upd_ne nqm, upd_ne nqp]; exact hq) hq'
  by_cases c1 : b = m
  · subst c1; rw [upd_same] at e; cases e; exact hm
  · rw [upd_ne c1] at e
    by_cases c2 : b = p
    · subst c2; rw [upd_same] at e; cases e; exact hp
    · rw [upd_ne c2] at e; exact kp b u c2 c1 e
/-- a model out of cells -/
theorem Wd.gather {R : Type} {M : R → Option HO} {ad : R → Addr} (L : List (R × Addr × HO)) (W : Wd H s l n (L.map (fun x => cell x.2.1 x.2.2) ++ cs)) (hM : ∀ r o, M r = some o → (r, ad r, o) ∈ L) : Wd H s l n (⟨R, M, ad⟩ :: cs) := by
  have mem : ∀ x ∈ L, cell x.2.1 x.2.2 ∈ L.map (fun x => cell x.2.1 x.2.2) ++ cs := fun x hx => List.mem_append_left _ (List.mem_map_of_mem hx)
  have pw := List.pairwise_append.mp W.pw
  have nd : (L.map (·.2.1)).Nodup := by
    have h1 := List.pairwise_map.mp pw.1
    refine List.pairwise_map.mpr (h1.imp fun {a b} h z => ?_)
    exact h () b.2.2 rfl () a.2.2 rfl z
  have hh : ∀ x ∈ L, (fun _ : Addr => (none : Option HO)) x.2.1 = none ∧ H x.2.1 = some x.2.2 := fun x hx => ⟨rfl, (W.rep _ (mem x hx)).at_ () _ rfl⟩
  have rp := (RS.rep_list (H0 := fun _ => none) L hM nd hh).1
  refine ⟨W.stm, fun d hd => ?_, List.pairwise_cons.mpr ⟨fun d hd => ?_, pw.2.1⟩, fun d hd => ?_⟩
  · rcases List.mem_cons.mp hd with rfl | hd
    · exact rp
    · exact W.rep d (List.mem_append_right _ hd)
  · intro r u er r' u' er' z
    exact pw.2.2 _ (List.mem_map_of_mem (hM r' u' er')) d hd r u er () u' rfl z
  · rcases List.mem_cons.mp hd with rfl | hd
    · exact ⟨fun r u er z => (W.os _ (mem _ (hM r u er))).1 () u rfl z, fun r u er z => (W.os _ (mem _ (hM r u er))).2 () u rfl z⟩
    · exact W.os d (List.mem_append_right _ hd)
theorem pw_at {ds : List Comp} (pw : ds.Pairwise Comp.dj) {i j : Nat} {a b : Comp} (hij : i ≠ j) (ha : ds[i]? = some a) (hb : ds[j]? = some b) : a.dj b := by
  obtain ⟨li, rfl⟩ := List.getElem?_eq_some_iff.mp ha
  obtain ⟨lj, rfl⟩ := List.getElem?_eq_some_iff.mp hb
  rcases Nat.lt_or_ge i j with h | h
  · exact List.pairwise_iff_getElem.mp pw i j li lj h
  · exact Dj.symm (List.pairwise_iff_getElem.mp pw j i lj li (by omega))
/-- some of the models, in another order -/
theorem Wd.pickL (is : List Nat) {ds : List Comp} (W : Wd H s l n (ds ++ cs)) (nd : is.Nodup) : Wd H s l n (is.filterMap (fun i => ds[i]?) ++ cs) := by
  have pw := List.pairwise_append.mp W.pw
  have mem : ∀ c ∈ is.filterMap (fun i => ds[i]?), c ∈ ds := fun c hc => by
    obtain ⟨i, _, hi⟩ := List.mem_filterMap.mp hc
    exact List.mem_of_getElem? hi
  have mm : ∀ c ∈ is.filterMap (fun i => ds[i]?) ++ cs, c ∈ ds ++ cs := fun c hc => by
    rcases List.mem_append.mp hc with h | h
    · exact List.mem_append_left _ (mem c h)
    · exact List.mem_append_right _ h
  refine ⟨W.stm, fun c hc => W.rep c (mm c hc), List.pairwise_append.mpr ⟨?_, pw.2.1, fun a ha b hb => pw.2.2 a (mem a ha) b hb⟩, fun c hc => W.os c (mm c hc)⟩
  refine List.pairwise_filterMap.mpr (nd.imp fun {i j} hij a ha b hb => ?_)
  exact pw_at pw.1 hij ha hb
end
end RS

set_option Elab.async false
set_option linter.all false
set_option maxRecDepth 100000
set_option maxHeartbeats 4000000
/-! What never changes, as one component of a world. -/
namespace RS
open PySem PySem.Spec PyProof.Rows L2 RC RR
def cG (G : Hp) : Comp := ⟨Addr, G, id⟩
section
variable {G H H' : Hp} {s l p : Addr} {n k : Nat} {cs ds : List Comp} {c d : Comp} {o u : HO}
theorem Wd.st (W : Wd H s l n cs) (m : cG G ∈ cs) : Same G H := fun b u e => (W.rep _ m).at_ b u e
theorem Wd.g0 (W : Wd H s l n (cG G :: cs)) : Same G H := W.st List.mem_cons_self
theorem Wd.g1 (W : Wd H s l n (c :: cG G :: cs)) : Same G H := W.st (by simp)
theorem Wd.g2 (W : Wd H s l n (c :: d :: cG G :: cs)) : Same G H := W.st (by simp)
/-- a cell that will not change any more -/
theorem Wd.take (W : Wd H s l n (cG G :: cell p o :: cs)) : Wd H s l n (cG (upd G p o) :: cs) ∧ G p = none := by
  have h1 := List.pairwise_cons.mp W.pw
  have h2 := List.pairwise_cons.mp h1.2
  have key : ∀ (r : Addr) (u : HO), upd G p o r = some u → (r = p ∧ u = o) ∨ (r ≠ p ∧ G r = some u) := fun r u e => by
    by_cases z : r = p
    · subst z; rw [upd_same] at e; exact .inl ⟨rfl, (Option.some.inj e).symm⟩
    · rw [upd_ne z] at e; exact .inr ⟨z, e⟩
  refine ⟨⟨W.stm, fun e he => ?_, List.pairwise_cons.mpr ⟨fun e he => ?_, h2.2⟩, fun e he => ?_⟩, ?_⟩
  · rcases List.mem_cons.mp he with he | he
    · rw [he]
      refine ⟨fun r u e => ?_, fun _ _ _ _ _ _ z => z⟩
      rcases key r u e with ⟨e1, e2⟩ | ⟨_, e⟩
      · rw [e2]
        show H r = _
        rw [e1]; exact W.tl.c0
      · exact W.g0 r u e
    · exact W.rep e (List.mem_cons_of_mem _ (List.mem_cons_of_mem _ he))
  · intro r u er r' u' er' z
    rcases key r' u' er' with ⟨e1, e2⟩ | ⟨_, e'⟩
    · exact h2.1 e he r u er () _ rfl (e1.symm.trans z)
    · exact h1.1 e (List.mem_cons_of_mem _ he) r u er r' u' e' z
  · rcases List.mem_cons.mp he with he | he
    · rw [he]
      have a := W.os _ List.mem_cons_self
      have b := W.os _ (List.mem_cons_of_mem _ List.mem_cons_self)
      refine ⟨fun r u e z => ?_, fun r u e z => ?_⟩
      · rcases key r u e with ⟨e1, e2⟩ | ⟨_, e⟩
        · exact b.1 () _ rfl (e1.symm.trans z)
        · exact a.1 r u e z
      · rcases key r u e with ⟨e1, e2⟩ | ⟨_, e⟩
        · exact b.2 () _ rfl (e1.symm.trans z)
        · exact a.2 r u e z
    · exact W.os e (List.mem_cons_of_mem _ (List.mem_cons_of_mem _ he))
  · cases e : G p with
    | none => rfl
    | some u => exact absurd rfl (h1.1 (cell p o) List.mem_cons_self () o rfl p u e)
/-- a new thing that will not change -/
theorem Wd.lay (W : Wd H s l n (cG G :: cs)) (hp : H p = none) : Wd (upd H p o) s l n (cG (upd G p o) :: cs) ∧ Same G (upd G p o) := by
  have h := (Wd.up1 (W.new (o := o) hp)).take
  exact ⟨h.1, RC.same_new h.2 o⟩
/-- .. what was laid since -/
theorem Wd.layS (W : Wd H s l n (cG G :: cs)) (e : Same H H') (hp : H p = none) (h : H' p = some o) : Wd H' s l n (cG (upd G p o) :: cs) ∧ Same G (upd G p o) := by
  have h := (Wd.up1 (W.fresh e hp h)).take
  exact ⟨h.1, RC.same_new h.2 o⟩
theorem Wd.g0' (W : Wd H s l n cs) : Wd H s l n (cG (fun _ => none) :: cs) :=
  ⟨W.stm, fun e he => by
    rcases List.mem_cons.mp he with rfl | he
    · exact ⟨fun r u e => (nomatch e), fun _ _ _ _ e => (nomatch e)⟩
    · exact W.rep e he, List.pairwise_cons.mpr ⟨fun e he r u er r' u' er' => (nomatch er'), W.pw⟩, fun e he => by
    rcases List.mem_cons.mp he with rfl | he
    · exact ⟨fun r u e => (nomatch e), fun r u e => (nomatch e)⟩
    · exact W.os e he⟩
end
end RS

set_option Elab.async false
set_option linter.all false
set_option maxRecDepth 100000
set_option maxHeartbeats 0
namespace K17
open PySem PySem.Spec PyProof.Rows L2 RC
section
variable {P : Program} {w : World} {K : PySem.W.Frag} {mg : Str → Option Value} {base : Heap}
theorem dp_ints {K : PySem.W.Frag} {H : Hp} : ∀ ns : List Int, DpAll K H (ns.map V.int) (ns.map PyData.int)
  | [] => .nil
  | n :: r => .cons (.int n) (dp_ints r)
theorem can_ints : ∀ ns : List Int, PyData.canLayAll0 (ns.map PyData.int) = true
  | [] => by simp [PyData.canLayAll0]
  | n :: r => by simp [PyData.canLayAll0, PyData.canLay0, can_ints r]
theorem dep_ints : ∀ ns : List Int, PyData.depthAll (ns.map PyData.int) = 0
  | [] => by simp [PyData.depthAll]
  | n :: r => by simp [PyData.depthAll, PyData.depth, dep_ints r]
theorem sh_ints (ns : List Int) : SeqAt.shaped (.list (ns.map PyData.int)) = true := by
  unfold SeqAt.shaped
  simp [PyData.canLay0, PyData.depth, can_ints, dep_ints]
theorem seq0 (v : Int) (r : List Int) : seqIndex? 0 ((v :: r).map V.int).length = some 0 := by
  unfold seqIndex?
  simp
def spDraw : Sp := fun vs H Q _ => ∃ (s l : Addr) (n : Nat) (many : Int), vs = [.ref s, .int many] ∧ Stm H s l n ∧ n ≤ 1000000 ∧ 1 ≤ many ∧ many < 1073741824 ∧
  ∀ (H' : Hp) (d : Int), Old s l H H' → Stm H' s l (n + 1) → 0 ≤ d → d < many → Q (.int d) H'
theorem old_upd {s l : Addr} {H H' : Hp} {a : Addr} {o : HO} (h : Old s l H H') (ha : a = s ∨ a = l ∨ H' a = none) : Old s l H (upd H' a o) := fun b u h1 h2 e => by
  have e2 := h b u h1 h2 e
  have hb : b ≠ a := by
    rintro rfl
    rcases ha with z | z | z
    · exact h1 z
    · exact h2 z
    · rw [z] at e2; cases e2
  rw [upd_ne hb]; exact e2
theorem stm_small {d c : Int} (h : 0 ≤ d) (h1 : d < 2147483647) (h2 : 0 ≤ c) (h3 : c ≤ 1000001) : (d + 104729 * c + 17).natAbs < 2 ^ 64 := by omega
theorem stm_small2 {m c : Int} (h : 0 ≤ m) (h1 : m < 2147483629) (h2 : 0 ≤ c) (h3 : c ≤ 1000001) : (m * 48271 + 40503 * c * c + 13).natAbs < 2 ^ 64 := by
  have q1 : 0 ≤ 40503 * c * c := Int.mul_nonneg (by omega) h2
  have q2 : 40503 * c * c ≤ 40503 * c * 1000001 := Int.mul_le_mul_of_nonneg_left h3 (by omega)
  omega
theorem ok_draw {f : Addr} (T : Txt P w K mg) (F : Stands K "_law_draw" "_law_draw" s__law_draw [] f) : Callable P w K mg base 1 f ["_law_stream", "_law_many"] [] spDraw := by
  refine F.call0 sc__law_draw (fun vs H Q E h => ?_) (fun cdv A outer s H vs Q E hr h => ?_) (fun _ _ _ _ _ _ us hl => match us, hl with | [_, _], _ => rfl)
  · obtain ⟨s, l, n, m, rfl, _⟩ := h
    rfl
  obtain ⟨p, l, n, many, rfl, hS, hn, hm1, hm2, hQ⟩ := h
  refine ⟨_, (pss_cons (ps_while PassesOwn.never (PW.pt (pw_and (pt_cmpR op_eq (pe_ix ix_list (pv 0) pe_int (fun _ _ => rfl)) pe_int (nomark _)) (pw_and1 (pt_cmpR (op_neD hr.units) (pe_ix ix_list (pv 0) pe_int (fun _ _ => rfl)) (pe_lst pa_nil) (nomark _))))) (pss_cons (ps_asg (pe_bm PySem.F.plainAttrs_list PySem.F.slot_list_pop PySem.F.type_list_pop mt_popAt (pe_ix ix_list (pv 0) pe_int (fun _ _ => rfl)) (pa_cons pe_int pa_nil)) (pg_sub (pv 0) pe_int set_list))
      (pss_one (ps_if (pt_cmpR op_lt (pe_ix ix_list (pv 0) pe_int (fun _ _ => rfl)) (pe_op op_pow pe_int pe_int) (nomark _)) (pss_cons (ps_asg (pe_op op_mod (pe_callTy call_int1 (by rfl) T.b_int (by decide +kernel) (pa_cons (pe_op op_add (pe_op op_add (pe_op op_mul (pe_ix ix_list (pv 0) pe_int (fun _ _ => rfl)) pe_int) (pe_ix ix_list (pv 0) pe_int (fun _ _ => rfl))) pe_int) pa_nil)) pe_int) (pg_sub (pv 0) pe_int set_list))
      (pss_one (ps_asg pe_int (pg_sub (pv 0) pe_int set_list)))) pss_nil))))
      (pss_cons (ps_if (pt_cmpR op_gt (pe_ix ix_list (pv 0) pe_int (fun _ _ => rfl)) pe_int (nomark _)) (pss_cons (ps_set (i := 2) sc__law_draw.nd rfl (by first | exact Or.inl rfl | exact Or.inr rfl) (pe_op op_mod (pe_callTy call_int1 (by rfl) T.b_int (by decide +kernel) (pa_cons (pe_ix ix_list (pv 0) pe_int (fun _ _ => rfl)) pa_nil)) (pv 1)))
      (pss_cons (ps_asg (pe_op op_fdiv (pe_ix ix_list (pv 0) pe_int (fun _ _ => rfl)) (pv 1)) (pg_sub (pv 0) pe_int set_list))
      (pss_one (ps_ret (pv 2))))) pss_nil)
      (pss_cons (ps_asg (pe_op op_add (pe_ix ix_list (pv 0) pe_int (fun _ _ => rfl)) pe_int) (pg_sub (pv 0) pe_int set_list))
      (pss_cons (ps_set (i := 3) sc__law_draw.nd rfl (by first | exact Or.inl rfl | exact Or.inr rfl) (pe_op op_mod (pe_callTy call_int1 (by rfl) T.b_int (by decide +kernel) (pa_cons (pe_op op_pow (pe_op op_add (pe_op op_add (pe_ix ix_list (pv 0) pe_int (fun _ _ => rfl)) (pe_op op_mul pe_int (pe_ix ix_list (pv 0) pe_int (fun _ _ => rfl)))) pe_int) pe_int) pa_nil)) pe_int))
      (pss_cons (ps_set (i := 4) sc__law_draw.nd rfl (by first | exact Or.inl rfl | exact Or.inr rfl) (pe_op op_mod (pe_callTy call_int1 (by rfl) T.b_int (by decide +kernel) (pa_cons (pe_op op_pow (pe_op op_add (pe_op op_add (pe_op op_mul (pv 3) pe_int) (pe_op op_mul (pe_op op_mul pe_int (pe_ix ix_list (pv 0) pe_int (fun _ _ => rfl))) (pe_ix ix_list (pv 0) pe_int (fun _ _ => rfl)))) pe_int) pe_int) pa_nil)) pe_int))
      (pss_one (ps_ret (pe_op op_mod (pe_callTy call_int1 (by rfl) T.b_int (by decide +kernel) (pa_cons (pv 4) pa_nil)) (pv 1))))))))), ?_⟩
  obtain ⟨hne, ns, x, c, d, h1, h2, h3, h4, h5, h6, h7, h8⟩ := hS
  refine ⟨fun m σ H' => σ = [some (.ref p), some (.int many), none, none, none] ∧ Old p l H H' ∧ ∃ (ns : List Int) (x c d : Int), m = ns.length ∧ H' p = some (.lst [.ref l, .int x, .int c, .int d]) ∧ H' l = some (.lst (ns.map V.int)) ∧ ns.length ≤ 63 ∧ 0 ≤ x ∧ 0 ≤ c ∧ c ≤ n ∧ 0 ≤ d ∧ d < 2147483647,
    ⟨_, rfl, Old.refl _, ns, x, c, d, rfl, h1, h2, h3, h4, h5, h6, h7, h8⟩, ?_⟩
  clear h1 h2 h3 h4 h5 h6 h7 h8 ns x c d
  rintro m σ H1 ⟨rfl, hO, ns, x, c, d, rfl, h1, h2, h3, h4, h5, h6, h7, h8⟩
  refine ⟨_, rfl, p, _, _, _, rfl, rfl, SqL.of h1, rfl, rfl, _, rfl, ?_⟩
  by_cases hx : x = 0
  · subst hx
    refine iteT' (decide_eq_true rfl) ?_
    refine ⟨_, rfl, p, _, _, _, rfl, rfl, SqL.of h1, rfl, (by show 0 ≤ sizeLine; decide), fun q hq => ?_⟩
    have g1 : upd H1 q (.lst []) p = some (.lst [.ref l, .int 0, .int c, .int d]) := by rw [upd_ne (ne_of_none h1 hq)]; exact h1
    have g2 : upd H1 q (.lst []) l = some (.lst (ns.map V.int)) := by rw [upd_ne (ne_of_none h2 hq)]; exact h2
    have gO : Old p l H (upd H1 q (.lst [])) := old_upd hO (.inr (.inr hq))
    refine ⟨_, _, Dp.lst (SqL.of g2) (dp_ints ns), Dp.lst (SqL.of upd_same) .nil, sh_ints ns, by decide +kernel, _, rfl, ?_⟩
    generalize upd H1 q (.lst []) = H2 at g1 g2 gO
    cases ns with
    | cons v r =>
      refine iteT' (by rfl) ?_
      refine ⟨fun σ' H' => ∃ m', m' < (v :: r).length ∧ (σ' = [some (.ref p), some (.int many), none, none, none] ∧ Old p l H H' ∧ ∃ (ns : List Int) (x c d : Int), m' = ns.length ∧ H' p = some (.lst [.ref l, .int x, .int c, .int d]) ∧ H' l = some (.lst (ns.map V.int)) ∧ ns.length ≤ 63 ∧ 0 ≤ x ∧ 0 ≤ c ∧ c ≤ n ∧ 0 ≤ d ∧ d < 2147483647), fun σ' H' z => z, ?_⟩
      -- s[1] = s[0].pop(0)
      refine ⟨_, rfl, p, _, _, _, rfl, rfl, SqL.of g1, rfl, .inl ⟨rfl, _, SqL.of g2⟩, l, (v :: r).map V.int, 0, 0, .int v, rfl, rfl, g2, by decide, by decide, seq0 _ _, rfl, ?_⟩
      generalize e3 : upd H2 l _ = H3
      have k1 : H3 p = some (.lst [.ref l, .int 0, .int c, .int d]) := by rw [← e3, upd_ne hne]; exact g1
      have kO : Old p l H H3 := by rw [← e3]; exact old_upd gO (.inr (.inl rfl))
      have k2 : H3 l = some (.lst (r.map V.int)) := by rw [← e3]; exact upd_same
      clear e3
      refine ⟨_, rfl, p, _, 1, 1, rfl, rfl, k1, rfl, ?_⟩
      generalize e4 : upd H3 p _ = H4
      have j1 : H4 p = some (.lst [.ref l, .int v, .int c, .int d]) := by rw [← e4]; exact upd_same
      have j2 : H4 l = some (.lst (r.map V.int)) := by rw [← e4, upd_ne (Ne.symm hne)]; exact k2
      have jO : Old p l H H4 := by rw [← e4]; exact old_upd kO (.inl rfl)
      clear e4
      have hl : r.length ≤ 63 := Nat.le_of_succ_le h3
      refine ⟨_, rfl, p, _, _, _, rfl, rfl, SqL.of j1, rfl, _, _, rfl, rfl, ⟨by decide, by decide, by decide⟩, _, _, rfl, rfl, _, rfl, ?_⟩
      refine ite2 (fun hv => ?_) (fun hv => ?_)
      · -- s[3] = int(..) % 2147483647
        refine ⟨_, rfl, p, _, _, _, rfl, rfl, SqL.of j1, rfl, _, _, rfl, rfl, .inr ⟨by decide, by decide⟩, _, rfl, p, _, _, _, rfl, rfl, SqL.of j1, rfl, _, _, rfl, rfl, _, _, rfl, rfl, .inl ⟨_, rfl, _, _, rfl, rfl, (by show (0 : Int) < 2147483647; decide), _, rfl, p, _, 3, 3, rfl, rfl, j1, rfl, ?_⟩⟩
        have m1 := Int.emod_nonneg (d * 31 + v + 7) (show (2147483647 : Int) ≠ 0 by decide)
        have m2 := Int.emod_lt_of_pos (d * 31 + v + 7) (show (0 : Int) < 2147483647 by decide)
        refine ⟨_, rfl, p, _, 1, 1, rfl, rfl, upd_same, rfl, r.length, Nat.lt_succ_self _, rfl, old_upd (old_upd jO (.inl rfl)) (.inl rfl), r, 0, c, (d * 31 + v + 7) % 2147483647, rfl, upd_same, ?_, hl, Int.le_refl 0, h5, h6, m1, m2⟩
        rw [upd_ne (Ne.symm hne), upd_ne (Ne.symm hne)]; exact j2
      · have hv : 10 ^ 18 ≤ v := by
          have z : ¬ v < 10 ^ (18 : Int).toNat := fun z => hv (decide_eq_true z)
          have e : (18 : Int).toNat = 18 := rfl
          rw [e] at z; omega
        exact ⟨r.length, Nat.lt_succ_self _, rfl, jO, r, v, c, d, rfl, j1, j2, hl, by omega, h5, h6, h7, h8⟩
    | nil =>
      refine iteF' (by rfl) ?_
      refine ⟨_, rfl, p, _, _, _, rfl, rfl, SqL.of g1, rfl, _, _, rfl, rfl, _, rfl, ?_⟩
      refine iteF' (by rfl) ?_
      -- s[2] = s[2] + 1
      refine ⟨_, rfl, p, _, _, _, rfl, rfl, SqL.of g1, rfl, _, _, rfl, rfl, _, rfl, p, _, 2, 2, rfl, rfl, g1, rfl, ?_⟩
      generalize e3 : upd H2 p _ = H3
      have a1 : H3 p = some (.lst [.ref l, .int 0, .int (c + 1), .int d]) := by rw [← e3]; exact upd_same
      have a2 : H3 l = some (.lst (([] : List Int).map V.int)) := by rw [← e3, upd_ne (Ne.symm hne)]; exact g2
      have aO : Old p l H H3 := by rw [← e3]; exact old_upd gO (.inl rfl)
      have hc : c + 1 ≤ 1000001 := by omega
      clear e3
      refine ⟨_, rfl, p, _, _, _, rfl, rfl, SqL.of a1, rfl, _, rfl, p, _, _, _, rfl, rfl, SqL.of a1, rfl, _, _, rfl, rfl, .inl ⟨by decide, by decide⟩, _, _, rfl, rfl, _, _, rfl, rfl, _, _, rfl, rfl, ⟨by decide, by decide, stm_small h7 h8 (by omega) hc⟩, .inl ⟨_, rfl, _, _, rfl, rfl, (by show (0 : Int) < 2147483629; decide), ?_⟩⟩
      have m1 := Int.emod_nonneg ((d + 104729 * (c + 1) + 17) ^ (5 : Int).toNat) (show (2147483629 : Int) ≠ 0 by decide)
      have m2 := Int.emod_lt_of_pos ((d + 104729 * (c + 1) + 17) ^ (5 : Int).toNat) (show (0 : Int) < 2147483629 by decide)
      refine ⟨_, rfl, _, _, rfl, rfl, .inr ⟨by decide, by decide⟩, _, rfl, p, _, _, _, rfl, rfl, SqL.of a1, rfl, _, _, rfl, rfl, .inl ⟨by decide, by decide⟩, _, rfl, p, _, _, _, rfl, rfl, SqL.of a1, rfl, _, _, rfl, rfl, .inr ⟨by omega, by omega⟩, _, _, rfl, rfl, _, _, rfl, rfl, _, _, rfl, rfl, ⟨by decide, by decide, stm_small2 m1 m2 (by omega) hc⟩, .inl ⟨_, rfl, _, _, rfl, rfl, (by show (0 : Int) < 1000000007; decide), ?_⟩⟩
      refine ⟨_, rfl, .inl ⟨_, rfl, _, rfl, _, _, rfl, rfl, (by show (0 : Int) < many; omega), ?_⟩⟩
      exact hQ _ _ aO ⟨hne, [], 0, c + 1, d, a1, a2, Nat.zero_le _, Int.le_refl 0, by omega, by omega, h7, h8⟩ (Int.emod_nonneg _ (by omega)) (Int.emod_lt_of_pos _ (by omega))
  · refine iteF' (decide_eq_false fun z => hx (V.int.inj z)) ?_
    have hx1 : 0 < x := by omega
    refine ⟨_, rfl, p, _, _, _, rfl, rfl, SqL.of h1, rfl, _, _, rfl, rfl, _, rfl, ?_⟩
    refine iteT' (decide_eq_true hx1) ?_
    refine ⟨_, rfl, p, _, _, _, rfl, rfl, SqL.of h1, rfl, .inl ⟨_, rfl, _, rfl, _, _, rfl, rfl, (by show (0 : Int) < many; omega), ?_⟩⟩
    refine ⟨_, rfl, p, _, _, _, rfl, rfl, SqL.of h1, rfl, _, rfl, _, _, rfl, rfl, ⟨by omega, by omega⟩, _, rfl, p, _, 1, 1, rfl, rfl, h1, rfl, _, rfl, ?_⟩
    refine hQ _ _ (old_upd hO (.inl rfl)) ⟨hne, ns, x / many, c, d, upd_same, by rw [upd_ne (Ne.symm hne)]; exact h2, h3, Int.ediv_nonneg h4 (by omega), h5, by omega, h7, h8⟩ (Int.emod_nonneg _ (by omega)) (Int.emod_lt_of_pos _ (by omega))
end
end K17

set_option Elab.async false
set_option linter.all false
set_option maxRecDepth 100000
set_option maxHeartbeats 0
namespace K17
open PySem PySem.Spec PyProof.Rows L2 RC
section
variable {P : Program} {w : World} {K : PySem.W.Frag} {mg : Str → Option Value} {base : Heap}
/-- all but p is as it was -/
def SameBut (p : Addr) (H H' : Hp) : Prop := ∀ b o, b ≠ p → H b = some o → H' b = some o
theorem SameBut.trans {p : Addr} {H H1 H2 : Hp} (a : SameBut p H H1) (b : SameBut p H1 H2) : SameBut p H H2 := fun c o h e => b c o h (a c o h e)
theorem SameBut.of {p : Addr} {H H' : Hp} (a : Same H H') : SameBut p H H' := fun c o _ e => a c o e
theorem SameBut.put {p : Addr} {H : Hp} {o : HO} : SameBut p H (upd H p o) := fun c u h e => by rw [upd_ne h]; exact e
theorem made_same {H H' : Hp} {x dx C : Addr} {o : HO} {fs : List (Str × V)} (hx : H x = none) (hd : H dx = none) (b : SameBut x (upd (upd H dx o) x (.ins C dx fs)) H') : Same H H' := fun c u e => by
  have h1 : c ≠ x := ne_of_none e hx
  have h2 : c ≠ dx := ne_of_none e hd
  exact b c u h1 (by rw [upd_ne h1, upd_ne h2]; exact e)
def spFiltererInit (K : PySem.W.Frag) : Sp := fun vs H Q _ => ∃ (C p dx : Addr) (fs : List (Str × V)), vs = [.ref p] ∧ H p = some (.ins C dx fs) ∧ Cls K C ∧ NoAttr K C "filters" ∧ fs.length < 100 ∧ ∀ l, H l = none → Q .non (upd (upd H l (.lst [])) p (.ins C dx (putF "filters" (.ref l) fs)))
theorem ok_filterer_init {f : Addr} (T : Txt P w K mg) (F : Stands K "__init__" "Filterer.__init__" s_Filterer_init [] f) : Callable P w K mg base 1 f ["self"] [] (spFiltererInit K) := by
  refine F.call0 sc_Filterer_init (fun vs H Q E h => ?_) (fun cdv A outer s H vs Q E hr h => ?_) (fun _ _ _ _ _ _ us hl => match us, hl with | [_], _ => rfl)
  · obtain ⟨C, p, dx, fs, rfl, _⟩ := h; rfl
  obtain ⟨C, p, dx, fs, rfl, hp, c, n, hl, hQ⟩ := h
  refine ⟨_, (pss_one (ps_fld (pv 0) (pe_lst pa_nil) rfl)), ?_⟩
  refine ⟨(by show 0 ≤ sizeLine; decide), fun l hl' => ?_⟩
  exact ⟨_, rfl, p, C, dx, fs, rfl, (by rw [upd_ne (ne_of_none hp hl')]; exact hp), c, n, (by omega), hQ l hl'⟩
end
end K17

set_option Elab.async false
set_option linter.all false
set_option maxRecDepth 100000
set_option maxHeartbeats 0
namespace K17
open PySem PySem.Spec PyProof.Rows L2 RC
section
variable {P : Program} {w : World} {K : PySem.W.Frag} {mg : Str → Option Value} {base : Heap}
/-! ### what is made -/
abbrev CY (K : PySem.W.Frag) : Addr := He.ga K "Yard"
abbrev CL (K : PySem.W.Frag) : Addr := He.ga K "Logger"
def spEnrol (K : PySem.W.Frag) : Sp := fun vs H Q _ => ∃ (y h dy m : Addr) (fs : List (Str × V)) (xs : List V), vs = [.ref y, .ref h] ∧ H y = some (.ins (CY K) dy fs) ∧ fs.lookup ("made" : Str) = some (.ref m) ∧ H m = some (.lst xs) ∧ xs.length ≤ 1000 ∧ Q .non (upd H m (.lst (xs ++ [.ref h])))
theorem ok_enrol {f : Addr} (T : Txt P w K mg) (F : Stands K "enrol" "Yard.enrol" s_Yard_enrol [] f) : Callable P w K mg base 1 f ["self", "handler"] [] (spEnrol K) := by
  refine F.call0 sc_Yard_enrol (fun vs H Q E h => ?_) (fun cdv A outer s H vs Q E hr h => ?_) (fun _ _ _ _ _ _ us hl => match us, hl with | [_, _], _ => rfl)
  · obtain ⟨y, h, dy, m, fs, xs, rfl, _⟩ := h; rfl
  obtain ⟨y, h, dy, m, fs, xs, rfl, h1, h2, h3, h4, hQ⟩ := h
  refine ⟨_, (pss_one (ps_expr (pe_bm PySem.F.plainAttrs_list PySem.F.slot_list_append PySem.F.type_list_append mt_append (pe_fld (pv 0) rfl) (pa_cons (pv 1) pa_nil)))), ?_⟩
  exact ⟨_, rfl, y, _, dy, fs, _, rfl, h1, T.c_Yard, T.n_Yard_made, h2, .inl ⟨rfl, _, SqL.of h3⟩, _, rfl, m, _, _, rfl, rfl, h3, (by rw [sizeLine_eq]; omega), hQ⟩
/-- what the text says of a class of handlers -/
structure HCls (K : PySem.W.Frag) (C : Addr) : Prop where
  c : Cls K C
  n1 : NoAttr K C "filters"
  n2 : NoAttr K C "yard"
  n3 : NoAttr K C "level"
  n4 : NoAttr K C "formatter"
  n5 : NoAttr K C "name"
  n6 : NoAttr K C "terminator"
  n7 : NoAttr K C "closed"
def hF (l y : Addr) : List (Str × V) := [("filters", .ref l), ("yard", .ref y), ("level", .int 0), ("formatter", .non), ("name", .non), ("terminator", .str "\n"), ("closed", .bl false)]
/-- a handler at p was made: its filters at l; the yard's list of what was made, at m, has it at its end -/
def HMade (K : PySem.W.Frag) (H : Hp) (p C dx y m : Addr) (xs : List V) (H' : Hp) : Prop := ∃ l, (∀ b o, b ≠ p → b ≠ m → H b = some o → H' b = some o) ∧ H l = none ∧ H' p = some (.ins C dx (hF l y)) ∧ H' l = some (.lst []) ∧ H' m = some (.lst (xs ++ [.ref p]))
def spHandlerInit (K : PySem.W.Frag) : Sp := fun vs H Q _ => ∃ (p C dx y dy m : Addr) (fs : List (Str × V)) (xs : List V), vs = [.ref p, .ref y] ∧ H p = some (.ins C dx []) ∧ HCls K C ∧ p ≠ y ∧ H y = some (.ins (CY K) dy fs) ∧ fs.lookup ("made" : Str) = some (.ref m) ∧ fs.lookup ("enrol" : Str) = none ∧ H m = some (.lst xs) ∧ xs.length ≤ 1000 ∧
  ∀ H', HMade K H p C dx y m xs H' → Q .non H'
theorem ok_handler_init {f : Addr} (T : Txt P w K mg) (F : Stands K "__init__" "Handler.__init__" s_Handler_init [] f) (c_Filterer_init : Callable P w K mg base 1 (He.ma K (He.ga K "Filterer") "__init__") ["self"] [] (spFiltererInit K))
    (c_Yard_enrol : Callable P w K mg base 1 (He.ma K (He.ga K "Yard") "enrol") ["self", "handler"] [] (spEnrol K)) : Callable P w K mg base 2 f ["self", "yard"] [] (spHandlerInit K) := by
  refine F.call0 sc_Handler_init (fun vs H Q E h => ?_) (fun cdv A outer s H vs Q E hr h => ?_) (fun _ _ _ _ _ _ us hl => match us, hl with | [_, _], _ => rfl)
  · obtain ⟨p, C, dx, y, dy, m, fs, xs, rfl, _⟩ := h; rfl
  obtain ⟨p, C, dx, y, dy, m, fs, xs, rfl, hp, c, npy, hy, hm, he, hmm, hxs, hQ⟩ := h
  refine ⟨_, (pss_cons (ps_expr (pe_cf T.cf_Filterer_init c_Filterer_init (hr.mono (by first | decide | exact Nat.le_refl _)) (pe_glob (v := .ref _) (by rfl) T.g_Filterer rfl) (pa_cons (pv 0) pa_nil)))
      (pss_cons (ps_fld (pv 0) (pv 1) rfl)
      (pss_cons (ps_fld (pv 0) pe_int rfl)
      (pss_cons (ps_fld (pv 0) pe_non rfl)
      (pss_cons (ps_fld (pv 0) pe_non rfl)
      (pss_cons (ps_fld (pv 0) pe_str rfl)
      (pss_cons (ps_fld (pv 0) pe_bl rfl)
      (pss_one (ps_expr (pe_mt T.c_Yard T.m_Yard_enrol c_Yard_enrol (hr.mono (by first | decide | exact Nat.le_refl _)) (pv 1) (pa_cons (pv 0) pa_nil))))))))))), ?_⟩
  refine ⟨rfl, _, rfl, C, p, dx, [], rfl, hp, c.c, c.n1, (by decide), fun l hl => ?_⟩
  refine ⟨_, rfl, _, rfl, p, C, dx, _, rfl, upd_same, c.c, c.n2, (by show 1 < 1000; decide), ?_⟩
  rw [upd_upd]
  refine ⟨_, rfl, p, C, dx, _, rfl, upd_same, c.c, c.n3, (by show 2 < 1000; decide), ?_⟩
  rw [upd_upd]
  refine ⟨_, rfl, p, C, dx, _, rfl, upd_same, c.c, c.n4, (by show 3 < 1000; decide), ?_⟩
  rw [upd_upd]
  refine ⟨_, rfl, p, C, dx, _, rfl, upd_same, c.c, c.n5, (by show 4 < 1000; decide), ?_⟩
  rw [upd_upd]
  refine ⟨_, rfl, p, C, dx, _, rfl, upd_same, c.c, c.n6, (by show 5 < 1000; decide), ?_⟩
  rw [upd_upd]
  refine ⟨_, rfl, p, C, dx, _, rfl, upd_same, c.c, c.n7, (by show 6 < 1000; decide), ?_⟩
  rw [upd_upd]
  generalize e1 : upd (upd H l (.lst [])) p _ = H1
  have nlp : l ≠ p := fun z => by rw [z, hp] at hl; cases hl
  have npm : p ≠ m := fun z => by rw [z, hmm] at hp; cases hp
  have nlm : l ≠ m := fun z => by rw [z, hmm] at hl; cases hl
  have q1 : H1 p = some (.ins C dx (hF l y)) := by rw [← e1]; exact upd_same
  have q2 : H1 l = some (.lst []) := by rw [← e1, upd_ne nlp]; exact upd_same
  have q3 : ∀ b o, b ≠ p → H b = some o → H1 b = some o := fun b o h1 h2 => by rw [← e1, upd_ne h1]; exact same_new hl _ b o h2
  clear e1
  refine ⟨_, rfl, y, dy, fs, rfl, q3 _ _ (Ne.symm npy) hy, he, _, rfl, y, p, dy, m, fs, xs, rfl, q3 _ _ (Ne.symm npy) hy, hm, q3 _ _ (Ne.symm npm) hmm, hxs, ?_⟩
  exact hQ _ ⟨l, fun b o h1 h2 h3 => by rw [upd_ne h2]; exact q3 b o h1 h3, hl, by rw [upd_ne npm]; exact q1, by rw [upd_ne nlm]; exact q2, upd_same⟩
def spStreamInit (K : PySem.W.Frag) : Sp := fun vs H Q _ => ∃ (p dx y dy m : Addr) (st : Str) (fs : List (Str × V)) (xs : List V), vs = [.ref p, .ref y, .str st] ∧ H p = some (.ins (He.ga K "StreamHandler") dx []) ∧ p ≠ y ∧ H y = some (.ins (CY K) dy fs) ∧ fs.lookup ("made" : Str) = some (.ref m) ∧ fs.lookup ("enrol" : Str) = none ∧ H m = some (.lst xs) ∧ xs.length ≤ 1000 ∧
  ∀ (H' : Hp) (l : Addr), (∀ b o, b ≠ p → b ≠ m → H b = some o → H' b = some o) → H l = none → H' p = some (.ins (He.ga K "StreamHandler") dx (hF l y ++ ([("stream", .str st)] : List (Str × V)))) → H' l = some (.lst []) → H' m = some (.lst (xs ++ [.ref p])) → Q .non H'
theorem ok_stream_init {f : Addr} (T : Txt P w K mg) (F : Stands K "__init__" "StreamHandler.__init__" s_StreamHandler_init [.str "stderr"] f) (c_Handler_init : Callable P w K mg base 2 (He.ma K (He.ga K "Handler") "__init__") ["self", "yard"] [] (spHandlerInit K)) :
    Callable P w K mg base 3 f ["self", "yard", "stream"] [.str "stderr"] (spStreamInit K) := by
  refine F.call sc_StreamHandler_init 2 0 (fun vs H Q E h => ?_) (fun cdv A outer s H vs Q E hr h => ?_) (fun z => nomatch z) fun _ => ⟨rfl, fun _ _ _ _ _ _ _ us its hl hi => match us, hl, its, hi with | [_, _], _, [_], _ => ⟨_, rfl, rfl⟩⟩
  · obtain ⟨p, dx, y, dy, m, st, fs, xs, rfl, _⟩ := h; rfl
  obtain ⟨p, dx, y, dy, m, st, fs, xs, rfl, hp, npy, hy, hm, he, hmm, hxs, hQ⟩ := h
  refine ⟨_, (pss_cons (ps_expr (pe_cf T.cf_Handler_init c_Handler_init (hr.mono (by first | decide | exact Nat.le_refl _)) (pe_glob (v := .ref _) (by rfl) T.g_Handler rfl) (pa_cons (pv 0) (pa_cons (pv 1) pa_nil))))
      (pss_one (ps_fld (pv 0) (pv 2) rfl))), ?_⟩
  have c : HCls K (He.ga K "StreamHandler") := ⟨T.c_StreamHandler, T.n_StreamHandler_filters, T.n_StreamHandler_yard, T.n_StreamHandler_level, T.n_StreamHandler_formatter, T.n_StreamHandler_name, T.n_StreamHandler_terminator, T.n_StreamHandler_closed⟩
  refine ⟨rfl, _, rfl, _, rfl, p, _, dx, y, dy, m, fs, xs, rfl, hp, c, npy, hy, hm, he, hmm, hxs, fun H1 hM => ?_⟩
  obtain ⟨l, k1, k2, k3, k4, k5⟩ := hM
  have nlp : l ≠ p := fun z => by rw [z, hp] at k2; cases k2
  have npm : m ≠ p := fun z => by rw [z, hp] at hmm; cases hmm
  refine ⟨_, rfl, _, rfl, p, _, dx, _, rfl, k3, T.c_StreamHandler, T.n_StreamHandler_stream, (by show 7 < 1000; decide), ?_⟩
  exact hQ _ l (fun b o h1 h2 h3 => by rw [upd_ne h1]; exact k1 b o h1 h2 h3) k2 upd_same (by rw [upd_ne nlp]; exact k4) (by rw [upd_ne npm]; exact k5)
theorem ok_stream_init3 {f : Addr} (T : Txt P w K mg) (F : Stands K "__init__" "StreamHandler.__init__" s_StreamHandler_init [.str "stderr"] f) (c_Handler_init : Callable P w K mg base 2 (He.ma K (He.ga K "Handler") "__init__") ["self", "yard"] [] (spHandlerInit K)) :
    Callable P w K mg base 3 f ["self", "yard", "stream"] [] (spStreamInit K) := by
  refine F.call sc_StreamHandler_init 3 1 (fun vs H Q E h => ?_) (fun cdv A outer s H vs Q E hr h => ?_) (fun z => nomatch z) fun _ => ⟨rfl, fun _ _ _ _ _ _ _ us its hl hi => match us, hl, its, hi with | [_, _, _], _, [_], _ => ⟨_, rfl, rfl⟩⟩
  · obtain ⟨p, dx, y, dy, m, st, fs, xs, rfl, _⟩ := h; rfl
  obtain ⟨p, dx, y, dy, m, st, fs, xs, rfl, hp, npy, hy, hm, he, hmm, hxs, hQ⟩ := h
  refine ⟨_, (pss_cons (ps_expr (pe_cf T.cf_Handler_init c_Handler_init (hr.mono (by first | decide | exact Nat.le_refl _)) (pe_glob (v := .ref _) (by rfl) T.g_Handler rfl) (pa_cons (pv 0) (pa_cons (pv 1) pa_nil))))
      (pss_one (ps_fld (pv 0) (pv 2) rfl))), ?_⟩
  have c : HCls K (He.ga K "StreamHandler") := ⟨T.c_StreamHandler, T.n_StreamHandler_filters, T.n_StreamHandler_yard, T.n_StreamHandler_level, T.n_StreamHandler_formatter, T.n_StreamHandler_name, T.n_StreamHandler_terminator, T.n_StreamHandler_closed⟩
  refine ⟨rfl, _, rfl, _, rfl, p, _, dx, y, dy, m, fs, xs, rfl, hp, c, npy, hy, hm, he, hmm, hxs, fun H1 hM => ?_⟩
  obtain ⟨l, k1, k2, k3, k4, k5⟩ := hM
  have nlp : l ≠ p := fun z => by rw [z, hp] at k2; cases k2
  have npm : m ≠ p := fun z => by rw [z, hp] at hmm; cases hmm
  refine ⟨_, rfl, _, rfl, p, _, dx, _, rfl, k3, T.c_StreamHandler, T.n_StreamHandler_stream, (by show 7 < 1000; decide), ?_⟩
  exact hQ _ l (fun b o h1 h2 h3 => by rw [upd_ne h1]; exact k1 b o h1 h2 h3) k2 upd_same (by rw [upd_ne nlp]; exact k4) (by rw [upd_ne npm]; exact k5)
def lF (l y : Addr) (name : Str) (lev : Int) (h : Addr) (par : V) : List (Str × V) := [("filters", .ref l), ("yard", .ref y), ("name", .str name), ("level", .int lev), ("propagate", .bl true), ("disabled", .bl false), ("handlers", .ref h), ("parent", par)]
def spLoggerInit (K : PySem.W.Frag) : Sp := fun vs H Q _ => ∃ (p dx y : Addr) (name : Str) (lev : Int), vs = [.ref p, .ref y, .str name, .int lev] ∧ H p = some (.ins (CL K) dx []) ∧
  ∀ (H' : Hp) (l h : Addr), SameBut p H H' → H l = none → H h = none → l ≠ h → H' p = some (.ins (CL K) dx (lF l y name lev h .non)) → H' l = some (.lst []) → H' h = some (.lst []) → Q .non H'
theorem ok_logger_init {f : Addr} (T : Txt P w K mg) (F : Stands K "__init__" "Logger.__init__" s_Logger_init [] f) (c_Filterer_init : Callable P w K mg base 1 (He.ma K (He.ga K "Filterer") "__init__") ["self"] [] (spFiltererInit K)) :
    Callable P w K mg base 2 f ["self", "yard", "name", "level"] [] (spLoggerInit K) := by
  refine F.call0 sc_Logger_init (fun vs H Q E h => ?_) (fun cdv A outer s H vs Q E hr h => ?_) (fun _ _ _ _ _ _ us hl => match us, hl with | [_, _, _, _], _ => rfl)
  · obtain ⟨p, dx, y, name, lev, rfl, _⟩ := h; rfl
  obtain ⟨p, dx, y, name, lev, rfl, hp, hQ⟩ := h
  refine ⟨_, (pss_cons (ps_expr (pe_cf T.cf_Filterer_init c_Filterer_init (hr.mono (by first | decide | exact Nat.le_refl _)) (pe_glob (v := .ref _) (by rfl) T.g_Filterer rfl) (pa_cons (pv 0) pa_nil)))
      (pss_cons (ps_fld (pv 0) (pv 1) rfl)
      (pss_cons (ps_fld (pv 0) (pv 2) rfl)
      (pss_cons (ps_fld (pv 0) (pv 3) rfl)
      (pss_cons (ps_fld (pv 0) pe_bl rfl)
      (pss_cons (ps_fld (pv 0) pe_bl rfl)
      (pss_cons (ps_fld (pv 0) (pe_lst pa_nil) rfl)
      (pss_one (ps_fld (pv 0) pe_non rfl))))))))), ?_⟩
  refine ⟨rfl, _, rfl, _, p, dx, [], rfl, hp, T.c_Logger, T.n_Logger_filters, (by decide), fun l hl => ?_⟩
  refine ⟨_, rfl, _, rfl, p, _, dx, _, rfl, upd_same, T.c_Logger, T.n_Logger_yard, (by show 1 < 1000; decide), ?_⟩
  rw [upd_upd]
  refine ⟨_, rfl, _, rfl, p, _, dx, _, rfl, upd_same, T.c_Logger, T.n_Logger_name, (by show 2 < 1000; decide), ?_⟩
  rw [upd_upd]
  refine ⟨_, rfl, _, rfl, p, _, dx, _, rfl, upd_same, T.c_Logger, T.n_Logger_level, (by show 3 < 1000; decide), ?_⟩
  rw [upd_upd]
  refine ⟨_, rfl, p, _, dx, _, rfl, upd_same, T.c_Logger, T.n_Logger_propagate, (by show 4 < 1000; decide), ?_⟩
  rw [upd_upd]
  refine ⟨_, rfl, p, _, dx, _, rfl, upd_same, T.c_Logger, T.n_Logger_disabled, (by show 5 < 1000; decide), ?_⟩
  rw [upd_upd]
  refine ⟨(by show 0 ≤ sizeLine; decide), fun h hh => ?_⟩
  obtain ⟨nhp, hh1⟩ := upd_none hh
  obtain ⟨nhl, hh2⟩ := upd_none hh1
  refine ⟨_, rfl, p, _, dx, _, rfl, (by rw [upd_ne (Ne.symm nhp)]; exact upd_same), T.c_Logger, T.n_Logger_handlers, (by show 6 < 1000; decide), ?_⟩
  refine ⟨_, rfl, p, _, dx, _, rfl, upd_same, T.c_Logger, T.n_Logger_parent, (by show 7 < 1000; decide), ?_⟩
  rw [upd_upd]
  have nlp : l ≠ p := fun z => by rw [z, hp] at hl; cases hl
  refine hQ _ l h (fun b o h1 h2 => ?_) hl hh2 (Ne.symm nhl) upd_same ?_ ?_
  · have n1 : b ≠ h := ne_of_none h2 hh2
    have n2 : b ≠ l := ne_of_none h2 hl
    rw [upd_ne h1, upd_ne n1, upd_ne h1, upd_ne n2]; exact h2
  · rw [upd_ne nlp, upd_ne (Ne.symm nhl), upd_ne nlp]; exact upd_same
  · rw [upd_ne nhp]; exact upd_same
end
end K17

set_option Elab.async false
set_option linter.all false
set_option maxRecDepth 100000
set_option maxHeartbeats 0
namespace K17
open PySem PySem.Spec PyProof.Rows L2 RC
section
variable {P : Program} {w : World} {K : PySem.W.Frag} {mg : Str → Option Value} {base : Heap}
abbrev CR (K : PySem.W.Frag) : Addr := He.ga K "LogRecord"
/-- a record of the name rn stands at r -/
def RecName (K : PySem.W.Frag) (H : Hp) (r : Addr) (rn : Str) : Prop := ∃ dx fs, H r = some (.ins (CR K) dx fs) ∧ fs.lookup ("name" : Str) = some (.str rn)
/-! ### records -/
theorem bl_true {b : Bool} (h : b = true) : V.bl b = V.bl true := by rw [h]
/-- copies of what is empty: () and {} -/
def spCopied (K : PySem.W.Frag) : Sp := fun vs H Q _ => ∃ a : Addr, vs = [.ref a] ∧ ((SqT K H a [] ∧ ∀ (H' : Hp) (t : Addr), Same H H' → H t = none → H' t = some (.tup []) → Q (.ref t) H') ∨ (H a = some (.dK []) ∧ ∀ (H' : Hp) (t : Addr), Same H H' → H t = none → H' t = some (.dK []) → Q (.ref t) H'))
theorem ok_copied {f : Addr} (T : Txt P w K mg) (F : Stands K "copied_value" "copied_value" s_copied_value [] f) : Callable P w K mg base 1 f ["thing"] [] (spCopied K) := by
  refine F.call0 sc_copied_value (fun vs H Q E h => ?_) (fun cdv A outer s H vs Q E hr h => ?_) (fun _ _ _ _ _ _ us hl => match us, hl with | [_], _ => rfl)
  · obtain ⟨a, rfl, _⟩ := h; rfl
  obtain ⟨a, rfl, h⟩ := h
  refine ⟨_, (pss_cons (ps_if (pt_val (pe_callB call_isi (by rfl) T.b_isinstance (by decide +kernel) (pa_cons (pv 0) (pa_cons (pe_bltn (v := .ty "list") (u := .type "list") (by rfl) T.b_list (by decide +kernel) rfl) pa_nil)))) (pss_one ps_never) pss_nil)
      (pss_cons (ps_if (pt_val (pe_callB call_isi (by rfl) T.b_isinstance (by decide +kernel) (pa_cons (pv 0) (pa_cons (pe_bltn (v := .ty "tuple") (u := .type "tuple") (by rfl) T.b_tuple (by decide +kernel) rfl) pa_nil)))) (pss_one (ps_ret (pe_callTy call_tuple_of (by rfl) T.b_tuple (by decide +kernel) (pa_cons (pe_lc (own := [("part", 1)]) (by rfl) sc_copied_value.nd (pi_tup (pv 0)) (blkOk_by (own := [("part", 1)]) (N := nm_copied_value) (sc := defScope s_copied_value) (by decide +kernel)) (fun _ _ _ _ _ => (pg_name (i := 1) sc_copied_value.nd rfl (by first | exact Or.inl rfl | exact Or.inr rfl))) (fun _ _ _ _ _ => pts_nil) (fun _ _ _ _ _ => pe_never)) pa_nil)))) pss_nil)
      (pss_cons (ps_if (pt_val (pe_callB call_isi (by rfl) T.b_isinstance (by decide +kernel) (pa_cons (pv 0) (pa_cons (pe_bltn (v := .ty "dict") (u := .type "dict") (by rfl) T.b_dict (by decide +kernel) rfl) pa_nil)))) (pss_one (ps_ret (pe_callTy (call_dictP rfl) (by rfl) T.b_dict (by decide +kernel) (pa_cons (pe_lock (pe_lc (own := [("name", 2)]) (by rfl) sc_copied_value.nd (pi_keys (pv 0)) (blkOk_by (own := [("name", 2)]) (N := nm_copied_value) (sc := defScope s_copied_value) (by decide +kernel)) (fun _ _ _ _ _ => (pg_name (i := 2) sc_copied_value.nd rfl (by first | exact Or.inl rfl | exact Or.inr rfl))) (fun _ _ _ _ _ => pts_nil) (fun _ _ _ _ _ => pe_never))) pa_nil)))) pss_nil)
      (pss_one (ps_ret (pv 0)))))), ?_⟩
  rcases h with ⟨hT, hQ⟩ | ⟨hD, hQ⟩
  · refine ⟨_, rfl, _, _, _, _, _, rfl, .ty _, tyx_tup hT, kit_ty (b := "list") (by decide +kernel), _, rfl, iteF ?_⟩
    refine ⟨_, rfl, _, _, _, _, _, rfl, .ty _, tyx_tup hT, kit_ty (b := "tuple") (by decide +kernel), _, rfl, iteT ?_⟩
    refine ⟨_, rfl, a, rfl, ⟨_, hT⟩, fun D hD => ?_⟩
    refine lc_tup (xs := []) (fun i H' => H' = upd H D (.lst [])) rfl (fun i H' _ h => ?_) (fun i x H' hx h => nomatch hx) (fun H' h => ?_)
    · subst h; rcases hT with (z | ⟨o, z⟩) | z
      · exact .inl (.inl (by rw [upd_ne (ne_of_none z hD)]; exact z))
      · exact .inl (.inr ⟨o, by rw [upd_ne (ne_of_none z hD)]; exact z⟩)
      · exact .inr z
    · subst h
      refine ⟨D, [], rfl, .inl ⟨SqL.of upd_same, fun t ht => ?_⟩⟩
      exact hQ _ t ((same_new hD _).trans (same_new ht _)) (upd_none ht).2 upd_same
  · refine ⟨_, rfl, _, _, _, _, _, rfl, .ty _, .base (.dK hD), kit_ty (b := "list") (by decide +kernel), _, rfl, iteF ?_⟩
    refine ⟨_, rfl, _, _, _, _, _, rfl, .ty _, .base (.dK hD), kit_ty (b := "tuple") (by decide +kernel), _, rfl, iteF ?_⟩
    refine ⟨_, rfl, _, _, _, _, _, rfl, .ty _, .base (.dK hD), kit_ty (b := "dict") (by decide +kernel), _, rfl, iteT ?_⟩
    refine ⟨a, _, hD, trivial, fun od => ?_⟩
    refine ⟨_, rfl, a, od, rfl, .inl ⟨[], upd_same, fun D hD2 => ?_⟩⟩
    refine lc_it walk_keys (fun i H' => H' = upd (upd H a (.frz od (.dK []))) D (.lst [])) rfl (fun i H' _ h => ?_) (fun i x H' H'' hi => nomatch hi) (fun H' h => ?_)
    · subst h; rw [upd_ne (Ne.symm (upd_none hD2).1)]; exact upd_same
    · subst h
      refine ⟨by rw [upd_ne (Ne.symm (upd_none hD2).1)]; exact upd_same, ?_⟩
      rw [unlock hD hD2]
      have hD3 := (upd_none hD2).2
      refine ⟨D, [], [], rfl, SqL.of upd_same, .nil, fun t ht => ?_⟩
      exact hQ _ t ((same_new hD3 _).trans (same_new ht _)) (upd_none ht).2 upd_same
def recF (name : Str) (lv : Int) (ln msg : Str) (g : Addr) (clk : Int) (e : Addr) : List (Str × V) := [("name", .str name), ("levelno", .int lv), ("levelname", .str ln), ("msg", .str msg), ("given", .ref g), ("created", .int clk), ("extra", .ref e)]
def spRecInit (K : PySem.W.Frag) : Sp := fun vs H Q _ => ∃ (p dx a d : Addr) (name ln msg : Str) (lv clk : Int), vs = [.ref p, .str name, .int lv, .str ln, .str msg, .ref a, .int clk, .ref d] ∧ H p = some (.ins (CR K) dx []) ∧ SqT K H a [] ∧ H d = some (.dK []) ∧
  ∀ (H' : Hp) (g e : Addr), SameBut p H H' → H' p = some (.ins (CR K) dx (recF name lv ln msg g clk e)) → H' g = some (.tup []) → H' e = some (.dK []) → H g = none → H e = none → Q .non H'
theorem SqT.but {K : PySem.W.Frag} {H H' : Hp} {a p : Addr} {xs : List V} {C dx : Addr} {fs : List (Str × V)} (e : SameBut p H H') (hp : H p = some (.ins C dx fs)) (h : SqT K H a xs) : SqT K H' a xs := by
  rcases h with (h | ⟨o, h⟩) | h
  · exact .inl (.inl (e _ _ (fun z => by rw [z, hp] at h; cases h) h))
  · exact .inl (.inr ⟨o, e _ _ (fun z => by rw [z, hp] at h; cases h) h⟩)
  · exact .inr h
theorem ok_rec_init {f : Addr} (T : Txt P w K mg) (F : Stands K "__init__" "LogRecord.__init__" s_LogRecord_init [] f) (c_copied_value : Callable P w K mg base 1 (He.ga K "copied_value") ["thing"] [] (spCopied K)) :
    Callable P w K mg base 2 f ["self", "name", "levelno", "levelname", "msg", "args", "created", "extra"] [] (spRecInit K) := by
  refine F.call0 sc_LogRecord_init (fun vs H Q E h => ?_) (fun cdv A outer s H vs Q E hr h => ?_) (fun _ _ _ _ _ _ us hl => match us, hl with | [_, _, _, _, _, _, _, _], _ => rfl)
  · obtain ⟨p, dx, a, d, name, ln, msg, lv, clk, rfl, _⟩ := h; rfl
  obtain ⟨p, dx, a, d, name, ln, msg, lv, clk, rfl, hp, hT, hD, hQ⟩ := h
  refine ⟨_, (pss_cons (ps_fld (pv 0) (pv 1) rfl)
      (pss_cons (ps_fld (pv 0) (pv 2) rfl)
      (pss_cons (ps_fld (pv 0) (pv 3) rfl)
      (pss_cons (ps_fld (pv 0) (pv 4) rfl)
      (pss_cons (ps_fld (pv 0) (pe_fn T.g_copied_value c_copied_value (hr.mono (by first | decide | exact Nat.le_refl _)) (by rfl) (pa_cons (pe_callTy call_tuple_of (by rfl) T.b_tuple (by decide +kernel) (pa_cons (pv 5) pa_nil)) pa_nil)) rfl)
      (pss_cons (ps_fld (pv 0) (pv 6) rfl)
      (pss_one (ps_fld (pv 0) (pe_fn T.g_copied_value c_copied_value (hr.mono (by first | decide | exact Nat.le_refl _)) (by rfl) (pa_cons (pv 7) pa_nil)) rfl)))))))), ?_⟩
  refine ⟨_, rfl, _, rfl, p, _, dx, _, rfl, hp, T.c_LogRecord, T.n_LogRecord_name, (by show 0 < 1000; decide), ?_⟩
  refine ⟨_, rfl, _, rfl, p, _, dx, _, rfl, upd_same, T.c_LogRecord, T.n_LogRecord_levelno, (by show 1 < 1000; decide), ?_⟩
  rw [upd_upd]
  refine ⟨_, rfl, _, rfl, p, _, dx, _, rfl, upd_same, T.c_LogRecord, T.n_LogRecord_levelname, (by show 2 < 1000; decide), ?_⟩
  rw [upd_upd]
  refine ⟨_, rfl, _, rfl, p, _, dx, _, rfl, upd_same, T.c_LogRecord, T.n_LogRecord_msg, (by show 3 < 1000; decide), ?_⟩
  rw [upd_upd]
  generalize e1 : upd H p _ = H1
  have b1 : SameBut p H H1 := by rw [← e1]; exact SameBut.put
  have p1 : H1 p = some (.ins (CR K) dx [("name", .str name), ("levelno", .int lv), ("levelname", .str ln), ("msg", .str msg)]) := by rw [← e1]; exact upd_same
  clear e1
  refine ⟨_, rfl, a, [], rfl, .inr ⟨SqT.but b1 hp hT, a, rfl, .inl ⟨SqT.but b1 hp hT, fun H2 t s2 n2 t2 => ?_⟩⟩⟩
  refine ⟨_, rfl, p, _, dx, _, rfl, s2 _ _ p1, T.c_LogRecord, T.n_LogRecord_given, (by show 4 < 1000; decide), ?_⟩
  refine ⟨_, rfl, _, rfl, p, _, dx, _, rfl, upd_same, T.c_LogRecord, T.n_LogRecord_created, (by show 5 < 1000; decide), ?_⟩
  rw [upd_upd]
  have ntp : t ≠ p := fun z => by rw [z, p1] at n2; cases n2
  have ndp : d ≠ p := fun z => by rw [z, hp] at hD; cases hD
  generalize e3 : upd H2 p _ = H3
  have b3 : SameBut p H2 H3 := by rw [← e3]; exact SameBut.put
  have p3 : H3 p = some (.ins (CR K) dx [("name", .str name), ("levelno", .int lv), ("levelname", .str ln), ("msg", .str msg), ("given", .ref t), ("created", .int clk)]) := by rw [← e3]; exact upd_same
  clear e3
  have d3 : H3 d = some (.dK []) := b3 _ _ ndp (s2 _ _ (b1 _ _ ndp hD))
  refine ⟨_, rfl, d, rfl, .inr ⟨d3, fun H4 e s4 n4 e4 => ?_⟩⟩
  refine ⟨_, rfl, p, _, dx, _, rfl, s4 _ _ p3, T.c_LogRecord, T.n_LogRecord_extra, (by show 6 < 1000; decide), ?_⟩
  have nep : e ≠ p := fun z => by rw [z, p3] at n4; cases n4
  refine hQ _ t e ?_ upd_same ?_ ?_ ?_ ?_
  · exact ((b1.trans (SameBut.of s2)).trans (b3.trans (SameBut.of s4))).trans SameBut.put
  · rw [upd_ne ntp]; exact s4 _ _ (b3 _ _ ntp t2)
  · rw [upd_ne nep]; exact e4
  · have h1 := n2
    cases z : H t with
    | none => rfl
    | some o => rw [b1 _ _ ntp z] at h1; cases h1
  · cases z : H e with
    | none => rfl
    | some o => rw [b3 _ _ nep (s2 _ _ (b1 _ _ nep z))] at n4; cases n4
end
end K17

set_option Elab.async false
set_option linter.all false
set_option maxRecDepth 100000
set_option maxHeartbeats 0
set_option pp.maxSteps 1000
local macro_rules | `(tactic| walk_at "cls") => `(tactic| first
  | with_reducible exact K17.Txt.c_Logger (by assumption)
  | with_reducible exact K17.Txt.c_StreamHandler (by assumption)
  | with_reducible exact K17.Txt.c_NullHandler (by assumption)
  | with_reducible exact K17.Txt.c_LogRecord (by assumption)
  | with_reducible exact K17.Txt.c_Yard (by assumption))
local macro_rules | `(tactic| walk_at "noat") => `(tactic| first
  | with_reducible exact K17.Txt.n_Logger_filters (by assumption)
  | with_reducible exact K17.Txt.n_Logger_yard (by assumption)
  | with_reducible exact K17.Txt.n_Logger_name (by assumption)
  | with_reducible exact K17.Txt.n_Logger_level (by assumption)
  | with_reducible exact K17.Txt.n_Logger_propagate (by assumption)
  | with_reducible exact K17.Txt.n_Logger_disabled (by assumption)
  | with_reducible exact K17.Txt.n_Logger_handlers (by assumption)
  | with_reducible exact K17.Txt.n_Logger_parent (by assumption)
  | with_reducible exact K17.Txt.n_StreamHandler_filters (by assumption)
  | with_reducible exact K17.Txt.n_StreamHandler_yard (by assumption)
  | with_reducible exact K17.Txt.n_StreamHandler_level (by assumption)
  | with_reducible exact K17.Txt.n_StreamHandler_formatter (by assumption)
  | with_reducible exact K17.Txt.n_StreamHandler_name (by assumption)
  | with_reducible exact K17.Txt.n_StreamHandler_terminator (by assumption)
  | with_reducible exact K17.Txt.n_StreamHandler_closed (by assumption)
  | with_reducible exact K17.Txt.n_StreamHandler_stream (by assumption)
  | with_reducible exact K17.Txt.n_NullHandler_filters (by assumption)
  | with_reducible exact K17.Txt.n_NullHandler_yard (by assumption)
  | with_reducible exact K17.Txt.n_NullHandler_level (by assumption)
  | with_reducible exact K17.Txt.n_NullHandler_formatter (by assumption)
  | with_reducible exact K17.Txt.n_NullHandler_name (by assumption)
  | with_reducible exact K17.Txt.n_NullHandler_terminator (by assumption)
  | with_reducible exact K17.Txt.n_NullHandler_closed (by assumption)
  | with_reducible exact K17.Txt.n_LogRecord_name (by assumption)
  | with_reducible exact K17.Txt.n_LogRecord_levelno (by assumption)
  | with_reducible exact K17.Txt.n_LogRecord_levelname (by assumption)
  | with_reducible exact K17.Txt.n_LogRecord_msg (by assumption)
  | with_reducible exact K17.Txt.n_LogRecord_given (by assumption)
  | with_reducible exact K17.Txt.n_LogRecord_created (by assumption)
  | with_reducible exact K17.Txt.n_LogRecord_extra (by assumption)
  | with_reducible exact K17.Txt.n_Yard_clock (by assumption)
  | with_reducible exact K17.Txt.n_Yard_stream_texts (by assumption)
  | with_reducible exact K17.Txt.n_Yard_file_rows (by assumption)
  | with_reducible exact K17.Txt.n_Yard_names_of (by assumption)
  | with_reducible exact K17.Txt.n_Yard_numbers_of (by assumption)
  | with_reducible exact K17.Txt.n_Yard_bar_level (by assumption)
  | with_reducible exact K17.Txt.n_Yard_logger_map (by assumption)
  | with_reducible exact K17.Txt.n_Yard_made (by assumption)
  | with_reducible exact K17.Txt.n_Yard_handler_names (by assumption)
  | with_reducible exact K17.Txt.n_Yard_failure_rows (by assumption)
  | with_reducible exact K17.Txt.n_Yard_root (by assumption)
  | with_reducible exact K17.Txt.n_Yard_last_resort (by assumption))
local macro_rules | `(tactic| walk_at "hp") => `(tactic| first
  | with_reducible assumption
  | with_reducible exact L2.upd_same
  | ((with_reducible apply RW.at_upd); (focus (walk_at "ne"; done)); (focus (walk_at "hp"; done)))
  | ((with_reducible apply RW.at_same); (focus (with_reducible assumption; done)); (focus (walk_at "hp"; done)))
  | ((with_reducible apply RW.at_old); (focus (with_reducible assumption; done)); (focus (walk_at "ne"; done)); (focus (walk_at "ne"; done)); (focus (walk_at "hp"; done))))
local macro_rules | `(tactic| walk_at "ne") => `(tactic| first
  | with_reducible assumption
  | with_reducible exact Ne.symm (by with_reducible assumption)
  | with_reducible exact RW.ne_upd (by with_reducible assumption)
  | with_reducible exact Ne.symm (RW.ne_upd (by with_reducible assumption))
  | ((with_reducible apply RW.ne_new); (focus (with_reducible assumption; done)); (focus (walk_at "hp"; done)))
  | ((with_reducible apply RW.ne_new'); (focus (with_reducible assumption; done)); (focus (walk_at "hp"; done)))
  | ((with_reducible apply RW.ne_kind); (focus (walk_at "hp"; done)); (focus (walk_at "hp"; done)); (exact fun z => nomatch z)))
local macro_rules | `(tactic| walk_at "no") => `(tactic| first
  | with_reducible assumption
  | ((with_reducible apply RW.no_upd); (focus (walk_at "ne"; done)); (focus (walk_at "no"; done)))
  | ((with_reducible apply RW.free_same); (focus (with_reducible assumption; done)); (focus (with_reducible assumption; done))))
local macro_rules | `(tactic| walk_at "sm") => `(tactic| first
  | with_reducible assumption
  | with_reducible exact L2.Same.refl _
  | ((with_reducible apply RW.same_put_new); (focus (walk_at "sm"; done)); (focus (walk_at "no"; done)))
  | ((with_reducible apply RW.same_put); (focus (walk_at "sm"; done)); (focus (walk_at "no"; done)))
  | ((with_reducible apply RW.same_then); (focus (with_reducible assumption; done)); (focus (walk_at "sm"; done))))
local macro_rules | `(tactic| walk_at "sq") => `(tactic| first
  | with_reducible assumption
  | ((with_reducible apply L2.SqL.of); (focus (walk_at "hp"; done)))
  | ((with_reducible apply L2.SqT.of); (focus (walk_at "hp"; done)))
  | ((with_reducible apply RW.sql_same); (focus (with_reducible assumption; done)); (focus (walk_at "sm"; done)))
  | ((with_reducible apply RW.sqt_same); (focus (with_reducible assumption; done)); (focus (walk_at "sm"; done))))
local macro_rules | `(tactic| walk_at "pr") => `(tactic| first
  | with_reducible exact PySem.Paired.nil
  | ((with_reducible apply PySem.Paired.cons); (focus (first | exact L2.ClsV.ty _ | exact L2.ClsV.own _; done)); (focus (walk_at "pr"; done))))
local macro_rules | `(tactic| walk_at "stm") => `(tactic| first
  | with_reducible assumption
  | ((with_reducible apply RW.stm_upd); (focus (walk_at "ne"; done)); (focus (walk_at "ne"; done)); (focus (walk_at "stm"; done)))
  | ((with_reducible apply RW.stm_same); (focus (with_reducible assumption; done)); (focus (walk_at "sm"; done))))
local macro_rules | `(tactic| walk_at "od") => `(tactic| first
  | with_reducible assumption
  | with_reducible exact RC.Old.refl _
  | ((with_reducible apply RW.old_upd); (focus (walk_at "od"; done)); (focus (walk_at "no"; done)))
  | ((with_reducible apply RW.old_then); (focus (with_reducible assumption; done)); (focus (walk_at "od"; done)))
  | ((with_reducible apply RW.old_same); (focus (walk_at "od"; done)); (focus (with_reducible assumption; done))))
local macro_rules | `(tactic| walk_at "num") => `(tactic| first
  | exact Nat.le_of_ble_eq_true rfl
  | omega
  | (simp only [List.length_cons, List.length_nil, List.length_append, List.length_map, List.length_replicate, List.length_take, PySem.sizeLine_eq]; omega))
local macro_rules | `(tactic| walk_at "ki") => `(tactic| first
  | with_reducible exact RW.k_int_int
  | with_reducible exact RW.k_bool_int
  | with_reducible exact RW.k_str_int
  | with_reducible exact RW.k_NoneType_int
  | with_reducible exact RW.k_list_int
  | with_reducible exact RW.k_tuple_int
  | with_reducible exact RW.k_dict_int)
local macro_rules | `(tactic| walk_at "kb") => `(tactic| first
  | with_reducible exact RW.k_int_bool
  | with_reducible exact RW.k_bool_bool
  | with_reducible exact RW.k_str_bool
  | with_reducible exact RW.k_NoneType_bool
  | with_reducible exact RW.k_list_bool
  | with_reducible exact RW.k_tuple_bool
  | with_reducible exact RW.k_dict_bool)
local macro_rules | `(tactic| walk_at "ks") => `(tactic| first
  | with_reducible exact RW.k_int_str
  | with_reducible exact RW.k_bool_str
  | with_reducible exact RW.k_str_str
  | with_reducible exact RW.k_NoneType_str
  | with_reducible exact RW.k_list_str
  | with_reducible exact RW.k_tuple_str
  | with_reducible exact RW.k_dict_str)
local macro_rules | `(tactic| walk_at "kl") => `(tactic| first
  | with_reducible exact RW.k_int_list
  | with_reducible exact RW.k_bool_list
  | with_reducible exact RW.k_str_list
  | with_reducible exact RW.k_NoneType_list
  | with_reducible exact RW.k_list_list
  | with_reducible exact RW.k_tuple_list
  | with_reducible exact RW.k_dict_list)
local macro_rules | `(tactic| walk_at "kt") => `(tactic| first
  | with_reducible exact RW.k_int_tuple
  | with_reducible exact RW.k_bool_tuple
  | with_reducible exact RW.k_str_tuple
  | with_reducible exact RW.k_NoneType_tuple
  | with_reducible exact RW.k_list_tuple
  | with_reducible exact RW.k_tuple_tuple
  | with_reducible exact RW.k_dict_tuple)
local macro_rules | `(tactic| walk_at "kd") => `(tactic| first
  | with_reducible exact RW.k_int_dict
  | with_reducible exact RW.k_bool_dict
  | with_reducible exact RW.k_str_dict
  | with_reducible exact RW.k_NoneType_dict
  | with_reducible exact RW.k_list_dict
  | with_reducible exact RW.k_tuple_dict
  | with_reducible exact RW.k_dict_dict)
local macro_rules | `(tactic| walk_at "kit") => `(tactic| first
  | ((with_reducible apply RW.gKb); walk_at "kb")
  | ((with_reducible apply RW.gKi); walk_at "ki")
  | ((with_reducible apply RW.gKl); walk_at "kl")
  | ((with_reducible apply RW.gKs); walk_at "ks")
  | ((with_reducible apply RW.gKt); walk_at "kt")
  | ((with_reducible apply RW.gKd); walk_at "kd"))
local macro_rules | `(tactic| walk_at "kita") => `(tactic| first
  | ((with_reducible apply RW.ka2) <;> walk_at "kit")
  | ((with_reducible apply RW.ka3) <;> walk_at "kit")
  | ((with_reducible apply RW.ka4) <;> walk_at "kit")
  | ((with_reducible apply RW.ka5) <;> walk_at "kit"))
local macro_rules | `(tactic| walk_at "ty") => `(tactic| first
  | with_reducible exact L2.TyX.base (.int _)
  | with_reducible exact L2.TyX.base (.str _)
  | with_reducible exact L2.TyX.base (.bl _)
  | with_reducible exact L2.TyX.base .non
  | ((with_reducible apply L2.TyX.base); (with_reducible apply L2.TyOf.lst); (focus (walk_at "hp"; done)))
  | ((with_reducible apply L2.TyX.base); (with_reducible apply L2.TyOf.tup); (focus (walk_at "hp"; done)))
  | ((with_reducible apply L2.TyX.base); (with_reducible apply L2.TyOf.dK); (focus (walk_at "hp"; done)))
  | ((with_reducible apply RC.tyx_lst); (focus (walk_at "sq"; done)))
  | ((with_reducible apply RC.tyx_tup); (focus (walk_at "sq"; done))))
local macro_rules | `(tactic| walk_at "val") => `(tactic| first
  | with_reducible assumption
  | rfl)
local macro_rules | `(tactic| walk_at "dg") => `(tactic| first
  | (apply RW.dget_s; (focus (walk_at "hp"; done)); (focus (walk_at "val"; done)))
  | (apply RW.dget_i; (focus (walk_at "hp"; done)); (focus (walk_at "val"; done)))
  | (apply RW.dget_sF; (focus (walk_at "hp"; done)); (focus (walk_at "val"; done)))
  | (apply RW.dget_sR; (focus (assumption; done)); (focus (walk_at "val"; done)))
  | (apply RW.dput_s; (focus (walk_at "hp"; done)); (focus (walk_at "num"; done)))
  | (apply RW.dput_i; (focus (walk_at "hp"; done)); (focus (walk_at "num"; done)))
  | ((with_reducible apply RW.tyv_l); (focus (walk_at "hp"; done)))
  | ((with_reducible apply RW.tyv_s); (focus (walk_at "sq"; done)))
  | (apply RW.isd; (focus (walk_at "hp"; done)))
  | (apply RW.rd_of; (focus (walk_at "hp"; done)))
  | (apply RW.sql_of; (focus (walk_at "hp"; done)))
  | (apply RW.sqt_of; (focus (walk_at "hp"; done)))
  | (apply RW.len_l; (focus (walk_at "hp"; done)))
  | (apply RW.len_sl; (focus (walk_at "sq"; done)))
  | (apply RW.len_st; (focus (walk_at "sq"; done))))
local macro_rules | `(tactic| walk_at "side") => `(tactic| first
  | with_reducible rfl
  | ((with_reducible apply RW.gHp); walk_at "hp")
  | ((with_reducible apply RW.gSm); walk_at "sm")
  | ((with_reducible apply RW.gNe); walk_at "ne")
  | ((with_reducible apply RW.gStm); walk_at "stm")
  | ((with_reducible apply RW.gOld); walk_at "od")
  | ((with_reducible apply RW.gNo); walk_at "noat")
  | ((with_reducible apply RW.gCls); walk_at "cls")
  | ((with_reducible apply RW.gCv); (first | with_reducible exact L2.ClsV.ty _ | with_reducible exact L2.ClsV.own _))
  | ((with_reducible apply RW.gTy); walk_at "ty")
  | ((with_reducible apply RW.gKit); walk_at "kit")
  | ((with_reducible apply RW.gKita); walk_at "kita")
  | ((with_reducible apply RW.gSl); walk_at "sq")
  | ((with_reducible apply RW.gSt); walk_at "sq")
  | ((with_reducible apply RW.gPr); walk_at "pr")
  | with_reducible assumption
  | with_reducible exact RW.gCp ⟨by decide, by decide, by decide⟩
  | walk_at "dg"
  | rfl
  | walk_at "num")
local macro_rules | `(tactic| walk_at "nu") => `(tactic| (repeat (refine RW.fr ?_)))
local macro_rules | `(tactic| walk_at "tt") => `(tactic| first
  | with_reducible rfl
  | with_reducible assumption
  | rfl
  | with_reducible exact RW.cSsT (by with_reducible assumption)
  | with_reducible exact RW.cSsF (by with_reducible assumption)
  | with_reducible exact RW.cNsT (by with_reducible assumption)
  | with_reducible exact RW.cNsF (by with_reducible assumption)
  | with_reducible exact RW.cSiT (by with_reducible assumption)
  | with_reducible exact RW.cSiF (by with_reducible assumption)
  | with_reducible exact RW.cNiT (by with_reducible assumption)
  | with_reducible exact RW.cNiF (by with_reducible assumption)
  | with_reducible exact RW.someT (by with_reducible assumption)
  | with_reducible exact RW.someF (by with_reducible assumption)
  | with_reducible exact RW.nsomeT (by with_reducible assumption)
  | with_reducible exact RW.nsomeF (by with_reducible assumption))
local macro_rules | `(tactic| walk_at "disp") => `(tactic| first
  | with_reducible refine RW.disp1 ?_
  | with_reducible refine RW.disp2 ?_
  | with_reducible refine RW.disp3 ?_
  | with_reducible refine RW.disp4 ?_
  | with_reducible refine RW.disp5 ?_
  | with_reducible refine RW.disp6 ?_
  | with_reducible refine RW.disp7 ?_
  | with_reducible refine RW.disp8 ?_)
local macro_rules | `(tactic| walk_at "ex") => `(tactic| ((fail_if_success (apply @Exists.intro (Nat → Nat → _))); (fail_if_success (apply @Exists.intro (Nat → L2.St → L2.Hp → Prop))); (fail_if_success (apply @Exists.intro (L2.St → L2.Hp → Prop))); apply Exists.intro))
local macro_rules | `(tactic| walk_at "st") => `(tactic| first
  | ((fail_if_success (with_reducible apply RW.isMut)); (fail_if_success (with_reducible apply RW.isMut2)); (apply And.intro); (focus (walk_at "side"; done)))
  | walk_at "disp"
  | walk_at "ex"
  | refine RC.iteT' (by walk_at "tt") ?_
  | refine RC.iteF' (by walk_at "tt") ?_)
local macro_rules | `(tactic| walk_at "gi") => `(tactic| (repeat (first | walk_at "st" | ((walk_at "nu"); (intro _ h0; have h1 : _ = none := h0; clear h1); intros))))
local macro_rules | `(tactic| walk_at "in") => `(tactic| (try dsimp only [RW.cxK]))
local macro_rules | `(tactic| walk_at "go") => `(tactic| (repeat walk_at "st"))
namespace K17
open PySem PySem.Spec PyProof.Rows L2 RC
section
variable {P : Program} {w : World} {K : PySem.W.Frag} {mg : Str → Option Value} {base : Heap}
/-! ### make_record, of a number and no args -/
def NmsOk (nms : List (Key × V)) : Prop := ∀ k v, valV nms k = some v → ∃ z : Str, v = .str z
def lvName (nms : List (Key × V)) (i : Int) : Str := match valV nms (Sum.inl i) with
  | some (.str z) => z
  | _ => ("Level " : Str) ++ (toString i : Str)
def spLevelName (K : PySem.W.Frag) : Sp := fun vs H Q _ => ∃ (y dy na : Addr) (fs : List (Str × V)) (nms : List (Key × V)) (i : Int), vs = [.ref y, .int i] ∧ H y = some (.ins (CY K) dy fs) ∧ fs.lookup ("names_of" : Str) = some (.ref na) ∧ H na = some (.dK nms) ∧ NmsOk nms ∧ i.natAbs < 2 ^ 63 ∧ Q (.str (lvName nms i)) H
theorem ok_level_name {f : Addr} (T : Txt P w K mg) (F : Stands K "level_name" "Yard.level_name" s_Yard_level_name [] f) : Callable P w K mg base 1 f ["self", "level"] [] (spLevelName K) := by
  refine F.call0 sc_Yard_level_name (fun vs H Q E h => ?_) (fun cdv A outer s H vs Q E hr h => ?_) (fun _ _ _ _ _ _ us hl => match us, hl with | [_, _], _ => rfl)
  · obtain ⟨y, dy, na, fs, nms, i, rfl, _⟩ := h; rfl
  obtain ⟨y, dy, na, fs, nms, i, rfl, hy, hn, hna, hz, hi, hQ⟩ := h
  refine ⟨_, (pss_one (ps_ret (pe_ifExp (pt_cmp (pc_din (hu_of hr) (pv 1) (pe_fld (pv 0) rfl))) (pe_dget (hu_of hr) (pe_fld (pv 0) rfl) (pv 1) (fun _ _ => rfl)) (pe_op op_add_str pe_str (pe_callTy call_str_int (by rfl) T.b_str (by decide +kernel) (pa_cons (pv 1) pa_nil)))))), ?_⟩
  walk_at "in"
  unfold lvName at hQ
  cases e : valV nms (Sum.inl i) with
  | some v =>
    obtain ⟨z, rfl⟩ := hz _ _ e
    rw [e] at hQ
    walk_at "go"
    exact hQ
  | none =>
    rw [e] at hQ
    walk_at "go"
    have hl := RN.len_toString i
    have hl2 : i.natAbs.log2 < 63 := by
      by_cases c : i.natAbs = 0
      · rw [c]; decide
      · exact (Nat.log2_lt c).mpr hi
    refine ⟨by omega, _, _, rfl, rfl, ?_, hQ⟩
    show 6 + (Str.ofString (toString i)).length ≤ sizeLine
    rw [sizeLine_eq]; omega
end
end K17

set_option Elab.async false
set_option linter.all false
set_option maxRecDepth 100000
set_option maxHeartbeats 0
namespace K17
open PySem PySem.Spec PyProof.Rows L2 RC
section
variable {P : Program} {w : World} {K : PySem.W.Frag} {mg : Str → Option Value} {base : Heap}
/-! ### rows of a dict -/
section
variable {α β : Type} [DecidableEq α]
def lkp (ts : List (α × β)) (k : α) : Option β := (ts.find? fun e => decide (e.1 = k)).map (·.2)
def putL (ts : List (α × β)) (k : α) (v : β) : List (α × β) := if ts.any (fun e => decide (e.1 = k)) = true then ts.map (fun e => if e.1 = k then (k, v) else e) else ts ++ [(k, v)]
def rowK (f : α → Key) (g : β → V) (ts : List (α × β)) : List (Key × V) := ts.map fun e => (f e.1, g e.2)
variable {f : α → Key} {g : β → V} {ts us : List (α × β)} {k k2 : α} {v v2 : β}
theorem lk_cons (e : α × β) : lkp (e :: ts) k = if e.1 = k then some e.2 else lkp ts k := by
  unfold lkp
  rw [List.find?_cons]
  by_cases c : e.1 = k
  · rw [decide_eq_true c, if_pos c]; rfl
  · rw [decide_eq_false c, if_neg c]
theorem valV_rowK (fi : ∀ a b, f a = f b → a = b) (k : α) : ∀ ts : List (α × β), valV (rowK f g ts) (f k) = (lkp ts k).map g
  | [] => rfl
  | e :: ts => by
    rw [lk_cons]
    by_cases c : e.1 = k
    · rw [if_pos c]
      exact valV_pos (p := (f e.1, g e.2)) (r := rowK f g ts) (congrArg f c)
    · rw [if_neg c, ← valV_rowK fi k ts]
      show valV ((f e.1, g e.2) :: rowK f g ts) (f k) = _
      unfold valV
      rw [List.find?_cons, show decide (f e.1 = f k) = false from decide_eq_false fun z => c (fi _ _ z)]
theorem putK_rowK (fi : ∀ a b, f a = f b → a = b) (ts : List (α × β)) (k : α) (v : β) : putK (rowK f g ts) (f k) (g v) = rowK f g (putL ts k v) := by
  unfold putK putL
  have e : (rowK f g ts).any (fun p => decide (p.1 = f k)) = ts.any (fun e => decide (e.1 = k)) := by
    unfold rowK
    rw [List.any_map]
    congr 1
    funext e
    exact decide_eq_decide.mpr ⟨fun z => fi _ _ z, fun z => congrArg f z⟩
  rw [e]
  split
  · unfold rowK
    rw [List.map_map, List.map_map]
    refine List.map_congr_left fun e _ => ?_
    show (if f e.1 = f k then _ else _) = _
    by_cases c : e.1 = k
    · rw [if_pos (congrArg f c)]
      show _ = (f (if e.1 = k then (k, v) else e).1, g (if e.1 = k then (k, v) else e).2)
      rw [if_pos c]
      exact congrArg (fun q => (f q, g v)) c
    · rw [if_neg (fun z => c (fi _ _ z))]
      show _ = (f (if e.1 = k then (k, v) else e).1, g (if e.1 = k then (k, v) else e).2)
      rw [if_neg c]
  · unfold rowK; rw [List.map_append]; rfl
theorem putL_length (ts : List (α × β)) (k : α) (v : β) : (putL ts k v).length ≤ ts.length + 1 := by
  unfold putL
  split
  · rw [List.length_map]; omega
  · rw [List.length_append]; exact Nat.le_refl _
theorem putL_keys (ts : List (α × β)) (k : α) (v : β) : (putL ts k v).map (·.1) = if k ∈ ts.map (·.1) then ts.map (·.1) else ts.map (·.1) ++ [k] := by
  unfold putL
  have e : ts.any (fun e => decide (e.1 = k)) = decide (k ∈ ts.map (·.1)) := by
    rw [Bool.eq_iff_iff, List.any_eq_true, decide_eq_true_eq, List.mem_map]
    exact ⟨fun ⟨e, h, z⟩ => ⟨e, h, of_decide_eq_true z⟩, fun ⟨e, h, z⟩ => ⟨e, h, decide_eq_true z⟩⟩
  rw [e]
  by_cases c : k ∈ ts.map (·.1)
  · rw [decide_eq_true c, if_pos rfl, if_pos c, List.map_map]
    refine List.map_congr_left fun e _ => ?_
    show (if e.1 = k then (k, v) else e).1 = e.1
    split
    · rename_i z; exact z.symm
    · rfl
  · rw [decide_eq_false c, if_neg (fun z => nomatch z), if_neg c, List.map_append]; rfl
theorem putL_nd (h : (ts.map (·.1)).Nodup) (k : α) (v : β) : ((putL ts k v).map (·.1)).Nodup := by
  rw [putL_keys]
  by_cases c : k ∈ ts.map (·.1)
  · rw [if_pos c]; exact h
  · rw [if_neg c]
    exact List.nodup_append.mpr ⟨h, List.nodup_cons.mpr ⟨(by simp), List.nodup_nil⟩, fun a ha b hb => by rw [List.mem_singleton.mp hb]; exact fun z => c (z ▸ ha)⟩
theorem lk_mem {e : α × β} : ∀ {ts : List (α × β)}, (ts.map (·.1)).Nodup → e ∈ ts → lkp ts e.1 = some e.2
  | [], _, h => nomatch h
  | a :: ts, nd, h => by
    rw [List.map_cons, List.nodup_cons] at nd
    rw [lk_cons]
    rcases List.mem_cons.mp h with rfl | h
    · rw [if_pos rfl]
    · rw [if_neg (fun z => nd.1 (by rw [z]; exact List.mem_map_of_mem h))]
      exact lk_mem nd.2 h
theorem mem_lk : ∀ {ts : List (α × β)}, lkp ts k = some v → (k, v) ∈ ts
  | [], h => by cases h
  | a :: ts, h => by
    rw [lk_cons] at h
    split at h
    · rename_i z
      cases h
      rw [← z]; exact List.mem_cons_self
    · exact List.mem_cons_of_mem _ (mem_lk h)
theorem lk_perm (p : ts.Perm us) (nd : (ts.map (·.1)).Nodup) (k : α) : lkp ts k = lkp us k := by
  have nd2 : (us.map (·.1)).Nodup := (p.map _).nodup_iff.mp nd
  cases h : lkp us k with
  | some v => exact lk_mem nd (p.mem_iff.mpr (mem_lk h))
  | none =>
    cases h2 : lkp ts k with
    | none => rfl
    | some v =>
      have := lk_mem nd2 (p.mem_iff.mp (mem_lk h2))
      rw [h] at this; cases this
theorem putL_perm (p : ts.Perm us) (k : α) (v : β) : (putL ts k v).Perm (putL us k v) := by
  unfold putL
  have e : ts.any (fun e => decide (e.1 = k)) = us.any (fun e => decide (e.1 = k)) := by
    rw [Bool.eq_iff_iff, List.any_eq_true, List.any_eq_true]
    exact ⟨fun ⟨e, h, z⟩ => ⟨e, p.mem_iff.mp h, z⟩, fun ⟨e, h, z⟩ => ⟨e, p.mem_iff.mpr h, z⟩⟩
  rw [e]
  split
  · exact p.map _
  · exact p.append_right _
theorem putL_all {p : α × β → Prop} (h : ∀ e ∈ ts, p e) (hk : p (k, v)) : ∀ e ∈ putL ts k v, p e := fun e he => by
  unfold putL at he
  split at he
  · obtain ⟨e', h1, rfl⟩ := List.mem_map.mp he
    split
    · exact hk
    · exact h _ h1
  · rcases List.mem_append.mp he with h1 | h1
    · exact h _ h1
    · cases List.mem_singleton.mp h1; exact hk
end
abbrev intK (ts : List (Str × Int)) : List (Key × V) := rowK Sum.inr V.int ts
abbrev txtK (ts : List (Int × Str)) : List (Key × V) := rowK Sum.inl V.str ts
theorem val_int (ts : List (Str × Int)) (s : Str) : valV (intK ts) (Sum.inr s) = (lkp ts s).map V.int := valV_rowK (fun _ _ z => Sum.inr.inj z) s ts
theorem val_txt (ts : List (Int × Str)) (i : Int) : valV (txtK ts) (Sum.inl i) = (lkp ts i).map V.str := valV_rowK (fun _ _ z => Sum.inl.inj z) i ts
theorem put_int (ts : List (Str × Int)) (s : Str) (i : Int) : putK (intK ts) (Sum.inr s) (.int i) = intK (putL ts s i) := putK_rowK (fun _ _ z => Sum.inr.inj z) ts s i
theorem put_txt (ts : List (Int × Str)) (i : Int) (s : Str) : putK (txtK ts) (Sum.inl i) (.str s) = txtK (putL ts i s) := putK_rowK (fun _ _ z => Sum.inl.inj z) ts i s
inductive Fl : V → Prop
  | int (i : Int) : Fl (.int i)
  | str (s : Str) : Fl (.str s)
/-- what may be passed as a level -/
inductive Th (H : Hp) : V → Prop
  | int (i : Int) : Th H (.int i)
  | str (s : Str) : Th H (.str s)
  | bl (b : Bool) : Th H (.bl b)
  | non : Th H .non
  | lst {a : Addr} {xs : List V} (h : H a = some (.lst xs)) (hf : ∀ x ∈ xs, Fl x) (hl : xs.length ≤ 10) : Th H (.ref a)
  | tup {a : Addr} {xs : List V} (h : H a = some (.tup xs)) (hf : ∀ x ∈ xs, Fl x) (hl : xs.length ≤ 10) : Th H (.ref a)
  | dct {a : Addr} {ts : List (Str × Int)} (h : H a = some (.dK (intK ts))) (nd : (ts.map (·.1)).Nodup) (hl : ts.length ≤ 10) : Th H (.ref a)
theorem Th.same {H H' : Hp} {x : V} (h : Th H x) (s : Same H H') : Th H' x := by
  cases h with
  | int i => exact .int i
  | str z => exact .str z
  | bl b => exact .bl b
  | non => exact .non
  | lst h hf hl => exact .lst (s _ _ h) hf hl
  | tup h hf hl => exact .tup (s _ _ h) hf hl
  | dct h nd hl => exact .dct (s _ _ h) nd hl
def lvO (U : List (Str × Int)) : V → Option Int
  | .int i => some i
  | .str s => lkp U s
  | _ => none
end
end K17

set_option Elab.async false
set_option linter.all false
set_option maxRecDepth 100000
set_option maxHeartbeats 0

namespace K17
open PySem PySem.Spec PyProof.Rows L2 RC
section
variable {P : Program} {w : World} {K : PySem.W.Frag} {mg : Str → Option Value} {base : Heap}
/-! ### the level of what is passed, or BadLevel -/
def spIsI : Sp := fun vs H Q _ => ∃ x : V, vs = [x] ∧ Th H x ∧ Q (.bl (match x with | .int _ => true | _ => false)) H
theorem ok_is_integer {f : Addr} (T : Txt P w K mg) (F : Stands K "is_integer" "is_integer" s_is_integer [] f) : Callable P w K mg base 1 f ["thing"] [] spIsI := by
  refine F.call0 sc_is_integer (fun vs H Q E h => ?_) (fun cdv A outer s H vs Q E hr h => ?_) (fun _ _ _ _ _ _ us hl => match us, hl with | [_], _ => rfl)
  · obtain ⟨x, rfl, _⟩ := h; rfl
  obtain ⟨x, rfl, h, hQ⟩ := h
  refine ⟨_, (pss_one (ps_ret (pe_and (pe_callB call_isi (by rfl) T.b_isinstance (by decide +kernel) (pa_cons (pv 0) (pa_cons (pe_bltn (v := .ty "int") (u := .type "int") (by rfl) T.b_int (by decide +kernel) rfl) pa_nil))) (pe_one (pe_not (pe_callB call_isi (by rfl) T.b_isinstance (by decide +kernel) (pa_cons (pv 0) (pa_cons (pe_bltn (v := .ty "bool") (u := .type "bool") (by rfl) T.b_bool (by decide +kernel) rfl) pa_nil)))))))), ?_⟩
  walk_at "in"
  cases h with
  | int i => walk_at "go"; exact hQ
  | str z => walk_at "go"; exact hQ
  | bl b => walk_at "go"; exact hQ
  | non => walk_at "go"; exact hQ
  | lst h hf hl => walk_at "go"; exact hQ
  | tup h hf hl => walk_at "go"; exact hQ
  | dct h nd hl => walk_at "go"; exact hQ
theorem ok_badlevel_init {f : Addr} (T : Txt P w K mg) (F : Stands K "__init__" "BadLevel.__init__" s_BadLevel_init [] f) : Callable P w K mg base 1 f ["self", "level"] [] (RQ.spExcInit K "level") := by
  refine F.call0 sc_BadLevel_init (fun vs H Q E h => ?_) (fun cdv A outer s H vs Q E hr h => ?_) (fun _ _ _ _ _ _ us hl => match us, hl with | [_, _], _ => rfl)
  · obtain ⟨a, C, v, rfl, _⟩ := h; rfl
  obtain ⟨a, C, v, rfl, hx, ha, hQ⟩ := h
  refine ⟨_, (pss_one (ps_ost (pv 0) (pv 1))), ?_⟩
  walk_at "in"
  exact RQ.init_rd hx (fun Q h => ⟨_, rfl, h⟩) (fun Q h => ⟨_, rfl, h⟩) ha hQ
def spLevelX (K : PySem.W.Frag) : Sp := fun vs H Q E => ∃ (y dy nu : Addr) (fs : List (Str × V)) (U : List (Str × Int)) (x : V), vs = [.ref y, x] ∧ H y = some (.ins (CY K) dy fs) ∧ fs.lookup ("numbers_of" : Str) = some (.ref nu) ∧ H nu = some (.dK (intK U)) ∧ Th H x ∧
  (∀ i, lvO U x = some i → Q (.int i) H) ∧ (lvO U x = none → ∀ d, H d = none → E (.ref (He.ga K "BadLevel")) (some d) (upd H d (.xd [("level", x)])))
theorem ok_level_of {f : Addr} (T : Txt P w K mg) (F : Stands K "level_of" "Yard.level_of" s_Yard_level_of [] f) (c_is_integer : Callable P w K mg base 1 (He.ga K "is_integer") ["thing"] [] spIsI)
    (c_BadLevel_init : Callable P w K mg base 1 (He.ma K (He.ga K "BadLevel") "__init__") ["self", "level"] [] (RQ.spExcInit K "level")) : RQ.CallX P w K mg base 3 f ["self", "level"] [] (spLevelX K) := by
  refine RQ.stands_callX0 F sc_Yard_level_of (fun vs H Q E h => ?_) (fun cdv A outer s H vs Q E hr h => ?_) (fun _ _ _ _ _ _ us hl => match us, hl with | [_, _], _ => rfl)
  · obtain ⟨y, dy, nu, fs, U, x, rfl, _⟩ := h; rfl
  obtain ⟨y, dy, nu, fs, U, x, rfl, hy, hnu, gnu, th, hQ, hE⟩ := h
  generalize e1 : spIsI = S1 at c_is_integer
  refine ⟨_, (pss_cons (ps_if (pt_val (pe_fn T.g_is_integer c_is_integer (hr.mono (by first | decide | exact Nat.le_refl _)) (by rfl) (pa_cons (pv 1) pa_nil))) (pss_one (ps_ret (pv 1))) pss_nil)
      (pss_cons (ps_if (PW.pt (pw_and (pt_val (pe_callB call_isi (by rfl) T.b_isinstance (by decide +kernel) (pa_cons (pv 1) (pa_cons (pe_bltn (v := .ty "str") (u := .type "str") (by rfl) T.b_str (by decide +kernel) rfl) pa_nil)))) (pw_and1 (pt_cmp (pc_din (hu_of hr) (pv 1) (pe_fld (pv 0) rfl)))))) (pss_one (ps_ret (pe_dget (hu_of hr) (pe_fld (pv 0) rfl) (pv 1) (fun _ _ => rfl)))) pss_nil)
      (pss_one (RQ.ps_exc rfl (takes_of rfl rfl rfl rfl) T.x_BadLevel c_BadLevel_init (hr.mono (by first | decide | exact Nat.le_refl _)) T.g_BadLevel (by rfl) (pa_cons (pv 1) pa_nil))))), ?_⟩
  walk_at "in"
  walk_at "go"
  refine (?_ : S1 [x] H _ E0)
  rw [← e1]
  refine ⟨x, rfl, th, ?_⟩
  cases th with
  | int i => walk_at "go"; exact hQ i rfl
  | str z =>
    cases e : lkp U z with
    | none =>
      have ge := DGet.k (k := Sum.inr z) gnu
      rw [show valV (intK U) (Sum.inr z) = none from by rw [val_int, e]; rfl] at ge
      walk_at "go"
      refine ⟨T.c_Yard, T.n_Yard_numbers_of, hnu, nu, _, rfl, ge, _, rfl, iteF' rfl ?_⟩
      walk_at "go"
      exact hE e
    | some i =>
      have ge := DGet.k (k := Sum.inr z) gnu
      rw [show valV (intK U) (Sum.inr z) = some (.int i) from by rw [val_int, e]; rfl] at ge
      walk_at "go"
      refine ⟨T.c_Yard, T.n_Yard_numbers_of, hnu, nu, _, rfl, ge, _, rfl, iteT' rfl ?_⟩
      refine ⟨_, rfl, y, _, dy, fs, _, rfl, hy, T.c_Yard, T.n_Yard_numbers_of, hnu, _, rfl, nu, _, rfl, ge, ?_⟩
      exact hQ i e
  | bl b => walk_at "go"; exact hE rfl
  | non => walk_at "go"; exact hE rfl
  | lst h hf hl => walk_at "go"; exact hE rfl
  | tup h hf hl => walk_at "go"; exact hE rfl
  | dct h nd hl => walk_at "go"; exact hE rfl
/-- a level is put into a place's field, or BadLevel -/
def spSetLX (K : PySem.W.Frag) (C : Addr) : Sp := fun vs H Q E => ∃ (a da y dy nu : Addr) (fa fs : List (Str × V)) (U : List (Str × Int)) (x : V), vs = [.ref a, x] ∧ H a = some (.ins C da fa) ∧ fa.lookup ("yard" : Str) = some (.ref y) ∧ fa.length < 900 ∧ H y = some (.ins (CY K) dy fs) ∧ fs.lookup ("level_of" : Str) = none ∧ fs.lookup ("numbers_of" : Str) = some (.ref nu) ∧ H nu = some (.dK (intK U)) ∧ Th H x ∧
  (∀ i, lvO U x = some i → Q .non (upd H a (.ins C da (putF "level" (.int i) fa)))) ∧ (lvO U x = none → ∀ d, H d = none → E (.ref (He.ga K "BadLevel")) (some d) (upd H d (.xd [("level", x)])))
theorem ok_lset {f : Addr} (T : Txt P w K mg) (F : Stands K "setLevel" "Logger.setLevel" s_Logger_setLevel [] f) (c_Yard_level_of : RQ.CallX P w K mg base 3 (He.ma K (He.ga K "Yard") "level_of") ["self", "level"] [] (spLevelX K)) : RQ.CallX P w K mg base 4 f ["self", "level"] [] (spSetLX K (He.ga K "Logger")) := by
  refine RQ.stands_callX0 F sc_Logger_setLevel (fun vs H Q E h => ?_) (fun cdv A outer s H vs Q E hr h => ?_) (fun _ _ _ _ _ _ us hl => match us, hl with | [_, _], _ => rfl)
  · obtain ⟨a, da, y, dy, nu, fa, fs, U, x, rfl, _⟩ := h; rfl
  obtain ⟨a, da, y, dy, nu, fa, fs, U, x, rfl, ha, hya, hfl, hy, hlo, hnu, gnu, th, hQ, hE⟩ := h
  refine ⟨_, (pss_one (ps_fld (pv 0) (RQ.pe_mtX (takes_of rfl rfl rfl rfl) T.c_Yard T.m_Yard_level_of c_Yard_level_of (hr.mono (by first | decide | exact Nat.le_refl _)) (pe_fld (pv 0) rfl) (pa_cons (pv 1) pa_nil)) rfl)), ?_⟩
  walk_at "in"
  refine ⟨_, rfl, a, _, _, _, _, rfl, ha, T.c_Logger, T.n_Logger_yard, hya, y, dy, fs, rfl, hy, hlo, _, rfl, y, dy, nu, fs, U, x, rfl, hy, hnu, gnu, th, fun i hi => ?_, hE⟩
  exact ⟨_, rfl, a, _, _, _, rfl, ha, T.c_Logger, T.n_Logger_level, (by omega), hQ i hi⟩
theorem ok_hset {f : Addr} (T : Txt P w K mg) (F : Stands K "setLevel" "Handler.setLevel" s_Handler_setLevel [] f) (c_Yard_level_of : RQ.CallX P w K mg base 3 (He.ma K (He.ga K "Yard") "level_of") ["self", "level"] [] (spLevelX K)) : RQ.CallX P w K mg base 4 f ["self", "level"] [] (spSetLX K (He.ga K "NullHandler")) := by
  refine RQ.stands_callX0 F sc_Handler_setLevel (fun vs H Q E h => ?_) (fun cdv A outer s H vs Q E hr h => ?_) (fun _ _ _ _ _ _ us hl => match us, hl with | [_, _], _ => rfl)
  · obtain ⟨a, da, y, dy, nu, fa, fs, U, x, rfl, _⟩ := h; rfl
  obtain ⟨a, da, y, dy, nu, fa, fs, U, x, rfl, ha, hya, hfl, hy, hlo, hnu, gnu, th, hQ, hE⟩ := h
  refine ⟨_, (pss_one (ps_fld (pv 0) (RQ.pe_mtX (takes_of rfl rfl rfl rfl) T.c_Yard T.m_Yard_level_of c_Yard_level_of (hr.mono (by first | decide | exact Nat.le_refl _)) (pe_fld (pv 0) rfl) (pa_cons (pv 1) pa_nil)) rfl)), ?_⟩
  walk_at "in"
  refine ⟨_, rfl, a, _, _, _, _, rfl, ha, T.c_NullHandler, T.n_NullHandler_yard, hya, y, dy, fs, rfl, hy, hlo, _, rfl, y, dy, nu, fs, U, x, rfl, hy, hnu, gnu, th, fun i hi => ?_, hE⟩
  exact ⟨_, rfl, a, _, _, _, rfl, ha, T.c_NullHandler, T.n_NullHandler_level, (by omega), hQ i hi⟩
def spDisX (K : PySem.W.Frag) : Sp := fun vs H Q E => ∃ (y dy nu : Addr) (fs : List (Str × V)) (U : List (Str × Int)) (x : V), vs = [.ref y, x] ∧ H y = some (.ins (CY K) dy fs) ∧ fs.length < 900 ∧ fs.lookup ("level_of" : Str) = none ∧ fs.lookup ("numbers_of" : Str) = some (.ref nu) ∧ H nu = some (.dK (intK U)) ∧ Th H x ∧
  (∀ i, lvO U x = some i → Q .non (upd H y (.ins (CY K) dy (putF "bar_level" (.int i) fs)))) ∧ (lvO U x = none → ∀ d, H d = none → E (.ref (He.ga K "BadLevel")) (some d) (upd H d (.xd [("level", x)])))
theorem disable_body (T : Txt P w K mg) {f : Addr} {cdv : Value} {A : Around} {outer : List Env} {st0 : Shared} {E : XK} {vs : List V} {H : Hp} {Q : VK} (hr : Room 3 (A.deeper (envOfC "Yard.disable" (defScope s_Yard_disable) st0.heap.objs.size f cdv))) (h : spDisX K vs H Q E)
    (c_Yard_level_of : RQ.CallX P w K mg base 3 (He.ma K (He.ga K "Yard") "level_of") ["self", "level"] [] (spLevelX K)) :
    ∃ t, PSs (cxOf (L2.CX P w) P w K mg base nm_Yard_disable "Yard.disable" (defScope s_Yard_disable) f cdv A outer st0 H E) (defBody s_Yard_disable) t ∧ t { nx := fun _ H' => Q .non H', rt := Q } (start nm_Yard_disable vs) H := by
  obtain ⟨y, dy, nu, fs, U, x, rfl, hy, hfl, hlo, hnu, gnu, th, hQ, hE⟩ := h
  refine ⟨_, (pss_one (ps_fld (pv 0) (RQ.pe_mtX (takes_of rfl rfl rfl rfl) T.c_Yard T.m_Yard_level_of c_Yard_level_of (hr.mono (by first | decide | exact Nat.le_refl _)) (pv 0) (pa_cons (pv 1) pa_nil)) rfl)), ?_⟩
  walk_at "in"
  refine ⟨_, rfl, y, dy, fs, rfl, hy, hlo, _, rfl, y, dy, nu, fs, U, x, rfl, hy, hnu, gnu, th, fun i hi => ?_, hE⟩
  exact ⟨_, rfl, y, _, _, _, rfl, hy, T.c_Yard, T.n_Yard_bar_level, (by omega), hQ i hi⟩
theorem ok_disable {f : Addr} (T : Txt P w K mg) (F : Stands K "disable" "Yard.disable" s_Yard_disable [.int 50] f) (c_Yard_level_of : RQ.CallX P w K mg base 3 (He.ma K (He.ga K "Yard") "level_of") ["self", "level"] [] (spLevelX K)) : RQ.CallX P w K mg base 4 f ["self", "level"] [] (spDisX K) :=
  RQ.stands_callX F sc_Yard_disable 2 1 (fun vs H Q E h => by obtain ⟨y, dy, nu, fs, U, x, rfl, _⟩ := h; rfl) (fun cdv A outer s H vs Q E hr h => disable_body T hr h c_Yard_level_of) (fun z => nomatch z) fun _ => ⟨rfl, fun _ _ _ _ _ _ _ us its hl hi => match us, hl, its, hi with | [_, _], _, [_], _ => ⟨_, rfl, rfl⟩⟩
end
end K17

set_option Elab.async false
set_option linter.all false
set_option maxRecDepth 100000
set_option maxHeartbeats 0
namespace K17
open PySem PySem.Spec PyProof.Rows L2 RC
section
variable {P : Program} {w : World} {K : PySem.W.Frag} {mg : Str → Option Value} {base : Heap}
def spMakeX (K : PySem.W.Frag) : Sp := fun vs H Q E => ∃ (y dy na nu a : Addr) (fs : List (Str × V)) (nms : List (Key × V)) (U : List (Str × Int)) (name msg : Str) (lv : V) (clk : Int), vs = [.ref y, .str name, lv, .str msg, .ref a, .non] ∧ SqT K H a [] ∧ H y = some (.ins (CY K) dy fs) ∧
  fs.lookup ("names_of" : Str) = some (.ref na) ∧ fs.lookup ("numbers_of" : Str) = some (.ref nu) ∧ fs.lookup ("clock" : Str) = some (.int clk) ∧ fs.lookup ("level_of" : Str) = none ∧ fs.lookup ("level_name" : Str) = none ∧ H na = some (.dK nms) ∧ H nu = some (.dK (intK U)) ∧ NmsOk nms ∧ Th H lv ∧ (∀ i, lvO U lv = some i → i.natAbs < 2 ^ 63) ∧
  (∀ i, lvO U lv = some i → ∀ (H' : Hp) (r g e : Addr), Same H H' → H r = none → H g = none → H e = none → (∃ dx, H' r = some (.ins (CR K) dx (recF name i (lvName nms i) msg g clk e))) → H' g = some (.tup []) → H' e = some (.dK []) → Q (.ref r) H') ∧
  (lvO U lv = none → ∀ d, H d = none → E (.ref (He.ga K "BadLevel")) (some d) (upd H d (.xd [("level", lv)])))
theorem body_make_record {f : Addr} (T : Txt P w K mg) {cdv : Value} {A : Around} {outer : List Env} {st0 : Shared} {E : XK} {vs : List V} {H : Hp} {Q : VK} (hr : Room 4 (A.deeper (envOfC "Yard.make_record" (defScope s_Yard_make_record) st0.heap.objs.size f cdv))) (h : spMakeX K vs H Q E)
    (c_Yard_level_of : RQ.CallX P w K mg base 3 (He.ma K (He.ga K "Yard") "level_of") ["self", "level"] [] (spLevelX K)) (c_Yard_level_name : Callable P w K mg base 1 (He.ma K (He.ga K "Yard") "level_name") ["self", "level"] [] (spLevelName K))
    (c_LogRecord_init : Callable P w K mg base 2 (He.ma K (He.ga K "LogRecord") "__init__") ["self", "name", "levelno", "levelname", "msg", "args", "created", "extra"] [] (spRecInit K)) :
    ∃ t, PSs (cxOf (L2.CX P w) P w K mg base nm_Yard_make_record "Yard.make_record" (defScope s_Yard_make_record) f cdv A outer st0 H E) (defBody s_Yard_make_record) t ∧ t { nx := fun _ H' => Q .non H', rt := Q } (start nm_Yard_make_record vs) H := by
  obtain ⟨y, dy, na, nu, a, fs, nms, U, name, msg, lv, clk, rfl, hT, hy, hna, hnu, hck, hlo, hln, gna, gnu, hz, th, hlv0, hQ, hE⟩ := h
  refine ⟨_, (pss_cons (ps_set (i := 6) sc_Yard_make_record.nd rfl (by first | exact Or.inl rfl | exact Or.inr rfl) (RQ.pe_mtX (takes_of rfl rfl rfl rfl) T.c_Yard T.m_Yard_level_of c_Yard_level_of (hr.mono (by first | decide | exact Nat.le_refl _)) (pv 0) (pa_cons (pv 2) pa_nil)))
      (pss_cons (ps_set (i := 7) sc_Yard_make_record.nd rfl (by first | exact Or.inl rfl | exact Or.inr rfl) (pe_ifExp (pt_cmpR op_isN (pv 5) pe_non (nomark _)) pe_dnewK (pv 5)))
      (pss_cons (ps_set (i := 8) sc_Yard_make_record.nd rfl (by first | exact Or.inl rfl | exact Or.inr rfl) (pe_callB cr_sortedS (by rfl) T.b_sorted (by decide +kernel) (pa_cons (pe_lock (pe_lc (own := [("key", 9)]) (by rfl) sc_Yard_make_record.nd (pi_keys (pv 7)) (blkOk_by (own := [("key", 9)]) (N := nm_Yard_make_record) (sc := defScope s_Yard_make_record) (by decide +kernel)) (fun _ _ _ _ _ => (pg_name (i := 9) sc_Yard_make_record.nd rfl (by first | exact Or.inl rfl | exact Or.inr rfl))) (fun _ _ _ _ _ => (pts_one pt_never)) (fun _ _ _ _ _ => (pv 9)))) pa_nil)))
      (pss_cons (ps_if (pt_cmpR (op_neD hr.units) (pv 8) (pe_lst pa_nil) (nomark _)) (pss_one ps_never) pss_nil)
      (pss_one (ps_ret (pe_mk T.k_LogRecord T.g_LogRecord c_LogRecord_init (hr.mono (by first | decide | exact Nat.le_refl _)) (by rfl) (pa_cons (pv 1) (pa_cons (pv 6) (pa_cons (pe_mt T.c_Yard T.m_Yard_level_name c_Yard_level_name (hr.mono (by first | decide | exact Nat.le_refl _)) (pv 0) (pa_cons (pv 6) pa_nil)) (pa_cons (pv 3) (pa_cons (pv 4) (pa_cons (pe_fld (pv 0) rfl) (pa_cons (pv 7) pa_nil)))))))))))))), ?_⟩
  -- number = self.level_of(level)
  refine ⟨_, rfl, y, dy, fs, rfl, hy, hlo, _, rfl, y, dy, nu, fs, U, lv, rfl, hy, hnu, gnu, th, fun i hi => ?_, hE⟩
  have hQ := hQ i hi
  have hlv := hlv0 i hi
  -- more = {}
  refine ⟨_, rfl, rfl, _, rfl, iteT' (by rfl) fun m hm => ?_⟩
  have s1 : Same H (upd H m (.dK [])) := same_new hm _
  -- bad = sorted([..])
  refine ⟨m, _, upd_same, trivial, fun od => ?_⟩
  refine ⟨_, rfl, m, od, rfl, .inl ⟨[], upd_same, fun D hD => ?_⟩⟩
  have hD' : upd H m (.dK []) D = none := (upd_none hD).2
  refine lc_it walk_keys (fun i H' => H' = upd (upd (upd H m (.dK [])) m (.frz od (.dK []))) D (.lst [])) rfl (fun i H' _ h => ?_) (fun i x H' H'' hi => nomatch hi) (fun H' h => ?_)
  · subst h; rw [upd_ne (Ne.symm (upd_none hD).1)]; exact upd_same
  subst h
  refine ⟨by rw [upd_ne (Ne.symm (upd_none hD).1)]; exact upd_same, ?_⟩
  rw [unlock upd_same hD]
  have s2 := s1.trans (same_new hD' (.lst []))
  refine ⟨D, [], rfl, SqL.of upd_same, (by decide), fun ys q hp _ hq => ?_⟩
  have e0 : ys = [] := hp.eq_nil
  subst e0
  have s3 := s2.trans (same_new hq (.lst ([].map V.str)))
  -- if bad != []
  refine ⟨_, rfl, (by show 0 ≤ sizeLine; decide), fun q2 hq2 => ?_⟩
  have s4 := s3.trans (same_new hq2 (.lst []))
  refine ⟨_, _, Dp.lst (SqL.of (by rw [upd_ne (ne_of_none upd_same hq2)]; exact upd_same)) .nil, Dp.lst (SqL.of upd_same) .nil, by decide +kernel, by decide +kernel, _, rfl, iteF' (by decide +kernel) ?_⟩
  have m4 : (upd (upd (upd (upd H m (.dK [])) D (.lst [])) q (.lst ([].map V.str))) q2 (.lst [])) m = some (.dK []) := by
    have k1 : upd H m (.dK []) m = some (.dK []) := upd_same
    exact (same_new hq2 _) _ _ ((same_new hq _) _ _ ((same_new hD' _) _ _ k1))
  generalize upd (upd (upd (upd H m (.dK [])) D (.lst [])) q (.lst ([].map V.str))) q2 (.lst []) = H4 at s4 m4
  have hT4 := s4.seqT hT
  have g1 := s4 _ _ hy
  have g2 := s4 _ _ gna
  refine ⟨_, rfl, _, rfl, _, rfl, y, dy, fs, rfl, g1, hln, _, rfl, y, dy, na, fs, nms, i, rfl, g1, hna, g2, hz, hlv, _, rfl, _, rfl, _, rfl, y, _, dy, fs, _, rfl, g1, T.c_Yard, T.n_Yard_clock, hck, _, rfl, fun x dx hx hdx hne => ?_⟩
  have ea : ∀ o, SqT K (upd (upd H4 dx (.own x)) x o) a [] := fun o => by
    rcases hT4 with (u | ⟨ob, u⟩) | u
    · exact .inl (.inl (by rw [upd_ne (ne_of_none u hx), upd_ne (ne_of_none u hdx)]; exact u))
    · exact .inl (.inr ⟨ob, by rw [upd_ne (ne_of_none u hx), upd_ne (ne_of_none u hdx)]; exact u⟩)
    · exact .inr u
  refine ⟨x, dx, a, m, name, _, msg, i, clk, rfl, upd_same, ea _, (by rw [upd_ne (ne_of_none m4 hx), upd_ne (ne_of_none m4 hdx)]; exact m4), fun H' g e b5 h5' hg he g0 e0 => ⟨rfl, ?_⟩⟩
  have f0 : ∀ b, upd (upd H4 dx (.own x)) x (.ins (CR K) dx []) b = none → H b = none := fun b hb => s4.free (upd_none (upd_none hb).2).2
  exact hQ H' x g e (s4.trans (made_same hx hdx b5)) (s4.free hx) (f0 _ g0) (f0 _ e0) ⟨dx, h5'⟩ hg he
theorem len_make_record : ∀ vs H Q E, spMakeX K vs H Q E → vs.length = 6 := fun vs H Q E h => by
  obtain ⟨y, dy, na, nu, a, fs, nms, U, name, msg, lv, clk, rfl, _⟩ := h; rfl
theorem ok_make_record {f : Addr} (T : Txt P w K mg) (F : Stands K "make_record" "Yard.make_record" s_Yard_make_record [.ref (He.dflAt ("Yard", some "make_record") 0 K), .non] f)
    (c_Yard_level_of : RQ.CallX P w K mg base 3 (He.ma K (He.ga K "Yard") "level_of") ["self", "level"] [] (spLevelX K)) (c_Yard_level_name : Callable P w K mg base 1 (He.ma K (He.ga K "Yard") "level_name") ["self", "level"] [] (spLevelName K))
    (c_LogRecord_init : Callable P w K mg base 2 (He.ma K (He.ga K "LogRecord") "__init__") ["self", "name", "levelno", "levelname", "msg", "args", "created", "extra"] [] (spRecInit K)) :
    RQ.CallX P w K mg base 5 f ["self", "name", "level", "msg", "args", "extra"] [.ref (He.dflAt ("Yard", some "make_record") 0 K), .non] (spMakeX K) :=
  RQ.stands_callX F sc_Yard_make_record 4 0 len_make_record (fun cdv A outer s H vs Q E hr h => body_make_record T hr h c_Yard_level_of c_Yard_level_name c_LogRecord_init) (fun z => nomatch z) fun _ => ⟨rfl, fun _ _ _ _ _ _ _ us its hl hi => match us, hl, its, hi with | [_, _, _, _], _, [_, _], _ => ⟨_, rfl, rfl⟩⟩
end
end K17

set_option Elab.async false
set_option linter.all false
set_option maxRecDepth 100000
set_option maxHeartbeats 0
namespace K17
open PySem PySem.Spec PyProof.Rows L2 RC
section
variable {P : Program} {w : World} {K : PySem.W.Frag} {mg : Str → Option Value} {base : Heap}
/-! ### a yard is made -/
/-- H came from H0; ns: what is still being changed; L: what was laid since -/
structure Fr (H0 : Hp) (p : Addr) (ns : List Addr) (L : List (Addr × HO)) (H : Hp) : Prop where
  kp : ∀ b o, b ≠ p → H0 b = some o → H b = some o
  has : ∀ x ∈ L, x.1 ∉ ns ∧ H0 x.1 = none ∧ H x.1 = some x.2
  live : ∀ n ∈ ns, ∃ o, H n = some o
  old : ∀ n ∈ ns, n = p ∨ H0 n = none
  mem : p ∈ ns
  nd : (L.map (·.1)).Nodup
section
variable {H0 H H2 : Hp} {p : Addr} {ns : List Addr} {L : List (Addr × HO)}
theorem Fr.none (F : Fr H0 p ns L H) {q : Addr} (h : H q = none) : H0 q = none := by
  cases e : H0 q with
  | none => rfl
  | some o =>
    by_cases c : q = p
    · subst c; obtain ⟨o', e'⟩ := F.live _ F.mem; rw [e'] at h; cases h
    · rw [F.kp q o c e] at h; cases h
theorem Fr.notin (F : Fr H0 p ns L H) {q : Addr} (h : H q = Option.none) : q ∉ ns := fun z => by obtain ⟨o, e⟩ := F.live q z; rw [e] at h; cases h
theorem Fr.to (F : Fr H0 p ns L H) (k : ∀ b o, b ∉ ns → H b = some o → H2 b = some o) (l : ∀ n ∈ ns, ∃ o, H2 n = some o) : Fr H0 p ns L H2 where
  kp := fun b o hb e => k b o (fun z => by rcases F.old b z with c | c; exact hb c; rw [c] at e; cases e) (F.kp b o hb e)
  has := fun x hx => ⟨(F.has x hx).1, (F.has x hx).2.1, k _ _ (F.has x hx).1 (F.has x hx).2.2⟩
  live := l
  old := F.old
  mem := F.mem
  nd := F.nd
theorem Fr.nin (F : Fr H0 p ns L H) {q : Addr} (h : H q = Option.none) : q ∉ L.map (·.1) := fun z => by
  obtain ⟨x, hx, e⟩ := List.mem_map.mp z
  have := (F.has x hx).2.2
  rw [e, h] at this; cases this
theorem nin_cons {a b : Addr} {o : HO} {L : List (Addr × HO)} (h : a ≠ b) (k : a ∉ L.map (·.1)) : a ∉ ((b, o) :: L).map (·.1) := fun z => by
  rcases List.mem_cons.mp z with z | z
  · exact h z
  · exact k z
theorem Fr.cons (F : Fr H0 p ns L H) {q : Addr} {o : HO} (h1 : q ∉ ns) (h2 : H0 q = Option.none) (h3 : H q = some o) (h4 : q ∉ L.map (·.1)) : Fr H0 p ns ((q, o) :: L) H where
  kp := F.kp
  has := fun x hx => by
    rcases List.mem_cons.mp hx with c | c
    · subst c; exact ⟨h1, h2, h3⟩
    · exact F.has x c
  live := F.live
  old := F.old
  mem := F.mem
  nd := List.nodup_cons.mpr ⟨h4, F.nd⟩
theorem Fr.set (F : Fr H0 p ns L H) {o : HO} {q : Addr} (hq : q ∈ ns) (e : upd H q o = H2) : Fr H0 p ns L H2 := by
  subst e
  refine F.to (fun b u h1 h2 => ?_) (fun n hn => ?_)
  · rw [upd_ne (fun z => h1 (by rw [z]; exact hq))]; exact h2
  · by_cases c : n = q
    · subst c; exact ⟨_, upd_same⟩
    · rw [upd_ne c]; exact F.live n hn
theorem Fr.new (F : Fr H0 p ns L H) {o : HO} {q : Addr} (hq : H q = Option.none) (e : upd H q o = H2) : Fr H0 p ns ((q, o) :: L) H2 := by
  subst e
  refine (F.to (H2 := upd H q o) (fun b u h1 h2 => same_new hq _ _ _ h2) (fun n hn => ?_)).cons (F.notin hq) (F.none hq) upd_same (F.nin hq)
  obtain ⟨u, hu⟩ := F.live n hn
  exact ⟨u, same_new hq _ _ _ hu⟩
/-- one more is being changed -/
theorem Fr.own (F : Fr H0 p ns L H) {o : HO} {q : Addr} (hq : H q = Option.none) (e : upd H q o = H2) : Fr H0 p (q :: ns) L H2 := by
  have G := F.new hq e
  subst e
  refine ⟨G.kp, fun x hx => ?_, fun n hn => ?_, fun n hn => ?_, List.mem_cons_of_mem _ F.mem, F.nd⟩
  · have g := F.has x hx
    refine ⟨fun z => ?_, g.2.1, (G.has x (List.mem_cons_of_mem _ hx)).2.2⟩
    rcases List.mem_cons.mp z with c | c
    · rw [c, hq] at g; cases g.2.2
    · exact g.1 c
  · rcases List.mem_cons.mp hn with c | c
    · subst c; exact ⟨_, upd_same⟩
    · exact G.live n c
  · rcases List.mem_cons.mp hn with c | c
    · subst c; exact .inr (F.none hq)
    · exact F.old n c
theorem Fr.get (F : Fr H0 p ns L H) {x : Addr × HO} (h : x ∈ L) : H x.1 = some x.2 := (F.has x h).2.2
theorem Fr.putf (F : Fr H0 p ns L H) {o o' : HO} {q : Addr} (hq : H q = Option.none) (e : upd (upd H q o) p o' = H2) : Fr H0 p ns ((q, o) :: L) H2 := (F.new hq rfl).set F.mem e
theorem Fr.ownf (F : Fr H0 p ns L H) {o o' : HO} {q : Addr} (hq : H q = Option.none) (e : upd (upd H q o) p o' = H2) : Fr H0 p (q :: ns) L H2 ∧ H2 q = some o := by
  have G := F.own hq (o := o) rfl
  refine ⟨G.set (List.mem_cons_of_mem _ F.mem) e, ?_⟩
  have n : q ≠ p := fun z => F.notin hq (by rw [z]; exact F.mem)
  rw [← e, upd_ne n]; exact upd_same
theorem Fr.same (F : Fr H0 p ns L H) (s : Same H H2) : Fr H0 p ns L H2 := F.to (fun b o _ e => s b o e) (fun n hn => let ⟨o, e⟩ := F.live n hn; ⟨o, s _ _ e⟩)
theorem Fr.start {o : HO} (h : H0 p = some o) : Fr H0 p [p] [] H0 where
  kp := fun _ _ _ e => e
  has := fun _ h => nomatch h
  live := fun n hn => by cases List.mem_singleton.mp hn; exact ⟨o, h⟩
  old := fun n hn => .inl (List.mem_singleton.mp hn)
  mem := List.mem_singleton.mpr rfl
  nd := List.nodup_nil
end
def yF (clk : Int) (st fi na nu lm md hn fr rt lr : Addr) : List (Str × V) := [("clock", .int clk), ("stream_texts", .ref st), ("file_rows", .ref fi), ("names_of", .ref na), ("numbers_of", .ref nu), ("bar_level", .int 0), ("logger_map", .ref lm), ("made", .ref md), ("handler_names", .ref hn), ("failure_rows", .ref fr), ("root", .ref rt), ("last_resort", .ref lr)]
/-- where the parts of a yard lie -/
structure YParts where
  (st fi na nu lm md hn fr rt lr rl rh ll : Addr)
def YParts.L (K : PySem.W.Frag) (y : Addr) (q : YParts) (rd ld : Addr) : List (Addr × HO) := [(q.ll, .lst []), (q.lr, .ins (He.ga K "StreamHandler") ld (hF q.ll y ++ ([("stream", .str "stderr")] : List (Str × V)))), (q.rh, .lst []), (q.rl, .lst []), (q.rt, .ins (CL K) rd (lF q.rl y "root" 30 q.rh .non)), (q.fr, .lst []), (q.hn, .dK []), (q.lm, .dK []), (q.nu, .dK (kv_FIRST_NUMBERS.map fun q => (q.1, q.2.v K))), (q.na, .dK (kv_FIRST_NAMES.map fun q => (q.1, q.2.v K))), (q.fi, .dK []), (q.st, .dK [])]
structure YNew (K : PySem.W.Frag) (H0 H : Hp) (y dy : Addr) (clk : Int) (q : YParts) : Prop where
  fr : ∃ rd ld, Fr H0 y [q.md, y] (q.L K y rd ld) H
  y : H y = some (.ins (CY K) dy (yF clk q.st q.fi q.na q.nu q.lm q.md q.hn q.fr q.rt q.lr))
  md : H q.md = some (.lst [])
def spYardInit (K : PySem.W.Frag) : Sp := fun vs H Q _ => ∃ (p dx : Addr) (clk : Int), vs = [.ref p, .int clk] ∧ H p = some (.ins (CY K) dx []) ∧ ∀ (H' : Hp) (q : YParts), YNew K H H' p dx clk q → Q .non H'
theorem body_yard_init {f : Addr} {cdv : Value} {A : Around} {outer : List Env} {s : Shared} {H : Hp} {vs : List V} {Q : VK} {E : XK} (T : Txt P w K mg) (hr : Room 4 (A.deeper (envOfC "Yard.__init__" (defScope s_Yard_init) s.heap.objs.size f cdv))) (h : spYardInit K vs H Q E)
    (c_Logger_init : Callable P w K mg base 2 (He.ma K (He.ga K "Logger") "__init__") ["self", "yard", "name", "level"] [] (spLoggerInit K))
    (c_StreamHandler_init_d1 : Callable P w K mg base 3 (He.ma K (He.ga K "StreamHandler") "__init__") ["self", "yard", "stream"] [.str "stderr"] (spStreamInit K)) :
    ∃ t, PSs (cxOf CX0 P w K mg base nm_Yard_init "Yard.__init__" (defScope s_Yard_init) f cdv A outer s H E).nox (defBody s_Yard_init) t ∧ t { nx := fun _ H' => Q .non H', rt := Q } (L2.start nm_Yard_init vs) H := by
  obtain ⟨p, dx, clk, rfl, hp, hQ⟩ := h
  refine ⟨_, (pss_cons (ps_fld (pv 0) (pv 1) rfl)
      (pss_cons (ps_fld (pv 0) pe_dnewK rfl)
      (pss_cons (ps_fld (pv 0) pe_dnewK rfl)
      (pss_cons (ps_fld (pv 0) (pe_callTy (RB.call_dictK T.t_FIRST_NAMES) (by rfl) T.b_dict (by decide +kernel) (pa_cons (pe_glob (v := .ref _) (by rfl) T.g_FIRST_NAMES rfl) pa_nil)) rfl)
      (pss_cons (ps_fld (pv 0) (pe_callTy (RB.call_dictK T.t_FIRST_NUMBERS) (by rfl) T.b_dict (by decide +kernel) (pa_cons (pe_glob (v := .ref _) (by rfl) T.g_FIRST_NUMBERS rfl) pa_nil)) rfl)
      (pss_cons (ps_fld (pv 0) pe_int rfl)
      (pss_cons (ps_fld (pv 0) pe_dnewK rfl)
      (pss_cons (ps_fld (pv 0) (pe_lst pa_nil) rfl)
      (pss_cons (ps_fld (pv 0) pe_dnewK rfl)
      (pss_cons (ps_fld (pv 0) (pe_lst pa_nil) rfl)
      (pss_cons (ps_fld (pv 0) (pe_mk T.k_Logger T.g_Logger c_Logger_init (hr.mono (by first | decide | exact Nat.le_refl _)) (by rfl) (pa_cons (pv 0) (pa_cons pe_str (pa_cons (pe_gi (by rfl) T.g_WARNING) pa_nil)))) rfl)
      (pss_cons (ps_fld (pv 0) (pe_mk T.k_StreamHandler T.g_StreamHandler c_StreamHandler_init_d1 (hr.mono (by first | decide | exact Nat.le_refl _)) (by rfl) (pa_cons (pv 0) pa_nil)) rfl)
      (pss_one (ps_expr (pe_bm0 PySem.F.plainAttrs_list PySem.F.slot_list_pop PySem.F.type_list_pop mt_pop (pe_fld (pv 0) rfl)))))))))))))))), ?_⟩
  have F0 := Fr.start hp
  refine ⟨_, rfl, _, rfl, p, _, dx, _, rfl, hp, T.c_Yard, T.n_Yard_clock, (by show 0 < 1000; decide), ?_⟩
  generalize e1 : upd H p _ = H1
  have F1 := F0.set List.mem_cons_self e1
  have p1 := congrFun e1.symm p; rw [upd_same] at p1
  clear e1
  intro st h_st
  refine ⟨_, rfl, p, _, dx, _, rfl, same_new h_st _ _ _ p1, T.c_Yard, T.n_Yard_stream_texts, (by show 1 < 1000; decide), ?_⟩
  generalize e : upd (upd H1 st _) p _ = H2
  have F2 := F1.putf h_st e
  have p2 := congrFun e.symm p; rw [upd_same] at p2
  clear e
  intro fi h_fi
  refine ⟨_, rfl, p, _, dx, _, rfl, same_new h_fi _ _ _ p2, T.c_Yard, T.n_Yard_file_rows, (by show 2 < 1000; decide), ?_⟩
  generalize e : upd (upd H2 fi _) p _ = H3
  have F3 := F2.putf h_fi e
  have p3 := congrFun e.symm p; rw [upd_same] at p3
  clear e
  refine ⟨rfl, fun na h_na => ?_⟩
  refine ⟨_, rfl, p, _, dx, _, rfl, same_new h_na _ _ _ p3, T.c_Yard, T.n_Yard_names_of, (by show 3 < 1000; decide), ?_⟩
  generalize e : upd (upd H3 na _) p _ = H4
  have F4 := F3.putf h_na e
  have p4 := congrFun e.symm p; rw [upd_same] at p4
  clear e
  refine ⟨rfl, fun nu h_nu => ?_⟩
  refine ⟨_, rfl, p, _, dx, _, rfl, same_new h_nu _ _ _ p4, T.c_Yard, T.n_Yard_numbers_of, (by show 4 < 1000; decide), ?_⟩
  generalize e : upd (upd H4 nu _) p _ = H5
  have F5 := F4.putf h_nu e
  have p5 := congrFun e.symm p; rw [upd_same] at p5
  clear e
  refine ⟨_, rfl, p, _, dx, _, rfl, p5, T.c_Yard, T.n_Yard_bar_level, (by show 5 < 1000; decide), ?_⟩
  generalize e : upd H5 p _ = H6
  have F6 := F5.set F5.mem e
  have p6 := congrFun e.symm p; rw [upd_same] at p6
  clear e
  intro lm h_lm
  refine ⟨_, rfl, p, _, dx, _, rfl, same_new h_lm _ _ _ p6, T.c_Yard, T.n_Yard_logger_map, (by show 6 < 1000; decide), ?_⟩
  generalize e : upd (upd H6 lm _) p _ = H7
  have F7 := F6.putf h_lm e
  have p7 := congrFun e.symm p; rw [upd_same] at p7
  clear e
  refine ⟨(by show 0 ≤ sizeLine; decide), fun md h_md => ?_⟩
  refine ⟨_, rfl, p, _, dx, _, rfl, same_new h_md _ _ _ p7, T.c_Yard, T.n_Yard_made, (by show 7 < 1000; decide), ?_⟩
  generalize e : upd (upd H7 md _) p _ = H8
  obtain ⟨F8, m8⟩ := F7.ownf h_md e
  have p8 := congrFun e.symm p; rw [upd_same] at p8
  have nmp : md ≠ p := fun z => F7.notin h_md (by rw [z]; exact F7.mem)
  clear e
  intro hn h_hn
  refine ⟨_, rfl, p, _, dx, _, rfl, same_new h_hn _ _ _ p8, T.c_Yard, T.n_Yard_handler_names, (by show 8 < 1000; decide), ?_⟩
  generalize e : upd (upd H8 hn _) p _ = H9
  have F9 := F8.putf h_hn e
  have p9 := congrFun e.symm p; rw [upd_same] at p9
  have m9 : H9 md = some (.lst []) := by rw [← e, upd_ne nmp]; exact same_new h_hn _ _ _ m8
  clear e
  refine ⟨(by show 0 ≤ sizeLine; decide), fun fr h_fr => ?_⟩
  refine ⟨_, rfl, p, _, dx, _, rfl, same_new h_fr _ _ _ p9, T.c_Yard, T.n_Yard_failure_rows, (by show 9 < 1000; decide), ?_⟩
  generalize e : upd (upd H9 fr _) p _ = H10
  have F10 := F9.putf h_fr e
  have p10 := congrFun e.symm p; rw [upd_same] at p10
  have m10 : H10 md = some (.lst []) := by rw [← e, upd_ne nmp]; exact same_new h_fr _ _ _ m9
  clear e
  -- root
  refine ⟨_, rfl, fun rt rd h_rt h_rd hne => ?_⟩
  refine ⟨rt, rd, p, "root", 30, rfl, upd_same, fun Hr rl rh k1 k2 k3 k4 k5 k6 k7 => ⟨rfl, ?_⟩⟩
  have sr : Same H10 Hr := made_same h_rt h_rd k1
  obtain ⟨k2a, k2⟩ := upd_none k2
  obtain ⟨k3a, k3⟩ := upd_none k3
  have k2 := (upd_none k2).2
  have k3 := (upd_none k3).2
  have j1 : rl ≠ rt := fun z => by rw [z, k5] at k6; cases k6
  have j2 : rh ≠ rt := fun z => by rw [z, k5] at k7; cases k7
  have Fr1 := (((F10.same sr).cons (F10.notin h_rt) (F10.none h_rt) k5 (F10.nin h_rt)).cons (F10.notin k2) (F10.none k2) k6 (nin_cons j1 (F10.nin k2))).cons (F10.notin k3) (F10.none k3) k7 (nin_cons (Ne.symm k4) (nin_cons j2 (F10.nin k3)))
  have pr := sr _ _ p10
  have mr := sr _ _ m10
  refine ⟨_, rfl, p, _, dx, _, rfl, pr, T.c_Yard, T.n_Yard_root, (by show 10 < 1000; decide), ?_⟩
  generalize e : upd Hr p _ = H11
  have F11 := Fr1.set Fr1.mem e
  have p11 := congrFun e.symm p; rw [upd_same] at p11
  have m11 : H11 md = some (.lst []) := by rw [← e, upd_ne nmp]; exact mr
  clear e
  -- last_resort
  refine ⟨_, rfl, fun lr ld h_lr h_ld hne2 => ?_⟩
  have npl : lr ≠ p := fun z => by rw [z, p11] at h_lr; cases h_lr
  have nml : lr ≠ md := fun z => by rw [z, m11] at h_lr; cases h_lr
  have t1 : ∀ C fs, Same H11 (upd (upd H11 ld (.own lr)) lr (.ins C ld fs)) := fun C fs => made_same h_lr h_ld (fun _ _ _ e => e)
  refine ⟨lr, ld, p, dx, md, "stderr", _, [], rfl, upd_same, npl, t1 _ _ _ _ p11, rfl, rfl, t1 _ _ _ _ m11, (by decide), fun Hl ll l1 l2 l3 l4 l5 => ⟨rfl, ?_⟩⟩
  have l2b : H11 ll = none := (upd_none (upd_none l2).2).2
  have f12 : ∀ b o, b ∉ [md, p] → H11 b = some o → Hl b = some o := fun b o hb e => l1 b o (ne_of_none e h_lr) (fun z => hb (by rw [z]; exact List.mem_cons_self)) (t1 _ _ _ _ e)
  have p12 := l1 p _ (Ne.symm npl) (Ne.symm nmp) (t1 _ _ _ _ p11)
  have F12 := ((F11.to f12 (fun n hn => by
    rcases List.mem_cons.mp hn with c | c
    · subst c; exact ⟨_, l5⟩
    · cases List.mem_singleton.mp c; exact ⟨_, p12⟩)).cons (F11.notin h_lr) (F11.none h_lr) l3 (F11.nin h_lr)).cons (F11.notin l2b) (F11.none l2b) l4 (nin_cons (fun z => (by rw [z, l3] at l4; cases l4)) (F11.nin l2b))
  refine ⟨_, rfl, p, _, dx, _, rfl, p12, T.c_Yard, T.n_Yard_last_resort, (by show 11 < 1000; decide), ?_⟩
  generalize e : upd Hl p _ = H13
  have F13 := F12.set F12.mem e
  have p13 := congrFun e.symm p; rw [upd_same] at p13
  have m13 : H13 md = some (.lst [.ref lr]) := by rw [← e, upd_ne nmp]; exact l5
  clear e
  refine ⟨_, rfl, p, _, dx, _, _, rfl, p13, T.c_Yard, T.n_Yard_made, rfl, .inl ⟨rfl, _, SqL.of m13⟩, md, _, _, rfl, rfl, m13, rfl, ?_⟩
  have F14 := F13.set (o := .lst []) List.mem_cons_self rfl
  refine hQ _ ⟨st, fi, na, nu, lm, md, hn, fr, rt, lr, rl, rh, ll⟩ ⟨⟨rd, ld, F14⟩, ?_, upd_same⟩
  rw [upd_ne (Ne.symm nmp)]; exact p13
theorem len_yard_init : ∀ vs H Q E, spYardInit K vs H Q E → vs.length = 2 := fun vs H Q E h => by
  obtain ⟨p, dx, clk, rfl, _⟩ := h; rfl
theorem ok_yard_init {f : Addr} (T : Txt P w K mg) (F : Stands K "__init__" "Yard.__init__" s_Yard_init [.int 0] f)
    (c_Logger_init : Callable P w K mg base 2 (He.ma K (He.ga K "Logger") "__init__") ["self", "yard", "name", "level"] [] (spLoggerInit K))
    (c_StreamHandler_init_d1 : Callable P w K mg base 3 (He.ma K (He.ga K "StreamHandler") "__init__") ["self", "yard", "stream"] [.str "stderr"] (spStreamInit K)) : Callable P w K mg base 5 f ["self", "now"] [.int 0] (spYardInit K) :=
  F.call sc_Yard_init 1 0 len_yard_init (fun cdv A outer s H vs Q E hr h => body_yard_init T hr h c_Logger_init c_StreamHandler_init_d1) (fun z => nomatch z) fun _ => ⟨rfl, fun _ _ _ _ _ _ _ us its hl hi => match us, hl, its, hi with | [_], _, [_], _ => ⟨_, rfl, rfl⟩⟩
theorem ok_yard_kw {f : Addr} (T : Txt P w K mg) (F : Stands K "__init__" "Yard.__init__" s_Yard_init [.int 0] f)
    (c_Logger_init : Callable P w K mg base 2 (He.ma K (He.ga K "Logger") "__init__") ["self", "yard", "name", "level"] [] (spLoggerInit K))
    (c_StreamHandler_init_d1 : Callable P w K mg base 3 (He.ma K (He.ga K "StreamHandler") "__init__") ["self", "yard", "stream"] [.str "stderr"] (spStreamInit K)) : RK.CallKw P w K mg base 5 f ["self", "now"] 1 ["now"] (fun vs zs => vs ++ zs) (spYardInit K) :=
  RK.stands_kwD (dvs := [.int 0]) (n := 1) (ks := ["now"]) (fun us its ws => us ++ ws) (fun z => nomatch z) F sc_Yard_init len_yard_init (fun cdv A outer s H vs Q E hr h => body_yard_init T hr h c_Logger_init c_StreamHandler_init_d1) (fun r1 _ r2 => r1.append r2)
    (fun _ _ _ _ _ _ _ us its ws h1 h2 h3 => match us, its, ws, h1, h2, h3 with | [_], [_], [_], _, _, _ => ⟨_, rfl, rfl⟩)
end
end K17

set_option Elab.async false
set_option linter.all false
set_option maxRecDepth 100000
set_option maxHeartbeats 0
namespace K17
open PySem PySem.Spec PyProof.Rows L2 RC
section
variable {P : Program} {w : World} {K : PySem.W.Frag} {mg : Str → Option Value} {base : Heap}
/-! ### names of loggers -/
def signs : Str := "abcdefghijklmnopqrstuvwxyzABCDEFGHIJKLMNOPQRSTUVWXYZ0123456789_"
def partB (t : Str) : Bool := decide (t ≠ "") && t.cps.toList.all fun c => decide (c ∈ signs.cps.toList)
theorem take_more {α : Type} {l : List α} {i : Nat} {c : α} (h : l[i]? = some c) : l.take (i + 1) = l.take i ++ [c] := by
  rw [List.take_add_one, h]; rfl
theorem yes_if {σ : L2.St} {H : Hp} {A B : Hp → Prop} (h : A H) : tYes σ H (fun b H3 => if b = true then A H3 else B H3) := by
  show (if true = true then A H else B H)
  rw [if_pos rfl]; exact h
def spIsPart : Sp := fun vs H Q _ => ∃ t : Str, vs = [.str t] ∧ t.cps.size ≤ 1000000 ∧ ∀ H', Same H H' → Q (.bl (partB t)) H'
theorem ok_is_part {f : Addr} (T : Txt P w K mg) (F : Stands K "is_part" "is_part" s_is_part [] f) : Callable P w K mg base 1 f ["text"] [] spIsPart := by
  refine F.call0 sc_is_part (fun vs H Q E h => ?_) (fun cdv A outer s H vs Q E hr h => ?_) (fun _ _ _ _ _ _ us hl => match us, hl with | [_], _ => rfl)
  · obtain ⟨t, rfl, _⟩ := h; rfl
  obtain ⟨t, rfl, ht, hQ⟩ := h
  refine ⟨_, (pss_one (ps_ret (pe_and (pe_cmpR op_ne (pv 0) pe_str (nomark _)) (pe_one (pe_callB (cr_all rfl) (by rfl) T.b_all (by decide +kernel) (pa_cons (pe_lc (own := [("sign", 1)]) (by rfl) sc_is_part.nd (pi_str (pv 0)) (blkOk_by (own := [("sign", 1)]) (N := nm_is_part) (sc := defScope s_is_part) (by decide +kernel)) (fun _ _ _ _ _ => (pg_name (i := 1) sc_is_part.nd rfl (by first | exact Or.inl rfl | exact Or.inr rfl))) (fun _ _ _ _ _ => pts_nil) (fun _ _ _ _ _ => (pe_cmpR op_inS (pv 1) (pe_gs (by rfl) T.g_SIGNS) (by rfl)))) pa_nil)))))), ?_⟩
  refine ⟨_, rfl, rfl, _, rfl, ?_⟩
  by_cases e : t = ""
  · subst e
    exact iteF' (by decide +kernel) (hQ H (Same.refl H))
  refine iteT' (by simp [e]) ?_
  refine ⟨_, rfl, t, rfl, fun D hD => ?_⟩
  refine lc_it walk_str (fun i H' => H' = upd H D (.lst ((t.cps.toList.take i).map fun c => V.bl (decide (c ∈ signs.cps.toList))))) rfl (fun _ _ _ _ => trivial) (fun i x H1 H2 hi hp hy => ?_) (fun H1 hp => ?_)
  · obtain ⟨rfl, c, hc, rfl⟩ := hy
    subst hp
    have hc' : t.cps.toList[i]? = some c := by simpa using hc
    refine ⟨rfl, yes_if ?_⟩
    refine ⟨_, rfl, c, signs, rfl, rfl, _, upd_same, ?_, ?_⟩
    · rw [List.length_map, List.length_take]; rw [sizeLine_eq]; omega
    · rw [upd_upd, take_more hc', List.map_append]; rfl
  · subst hp
    refine ⟨D, t.cps.toList.map fun c => decide (c ∈ signs.cps.toList), rfl, SqL.of ?_, ?_⟩
    · rw [upd_same, List.map_map, ← Array.length_toList, List.take_length]; rfl
    · have e2 : ((t.cps.toList.map fun c => decide (c ∈ signs.cps.toList)).all id) = partB t := by
        unfold partB; rw [List.all_map, decide_eq_true e]; rfl
      rw [e2]
      exact hQ _ (same_new hD _)
def spAreParts : Sp := fun vs H Q _ => ∃ t : Str, vs = [.str t] ∧ t.cps.size ≤ 1000000 ∧ (Txt.split t ".").length ≤ 1000000 ∧ (∀ u ∈ Txt.split t ".", u.cps.size ≤ 1000000) ∧ ∀ H', Same H H' → Q (.bl ((Txt.split t ".").all partB)) H'
theorem ok_are_parts {f : Addr} (T : Txt P w K mg) (F : Stands K "are_parts" "are_parts" s_are_parts [] f) (c_is_part : Callable P w K mg base 1 (He.ga K "is_part") ["text"] [] spIsPart) : Callable P w K mg base 2 f ["thing"] [] spAreParts := by
  refine F.call0 sc_are_parts (fun vs H Q E h => ?_) (fun cdv A outer s H vs Q E hr h => ?_) (fun _ _ _ _ _ _ us hl => match us, hl with | [_], _ => rfl)
  · obtain ⟨t, rfl, _⟩ := h; rfl
  obtain ⟨t, rfl, ht, hN, hP, hQ⟩ := h
  refine ⟨_, (pss_one (ps_ret (pe_and (pe_callB call_isi (by rfl) T.b_isinstance (by decide +kernel) (pa_cons (pv 0) (pa_cons (pe_bltn (v := .ty "str") (u := .type "str") (by rfl) T.b_str (by decide +kernel) rfl) pa_nil))) (pe_one (pe_callB (cr_all rfl) (by rfl) T.b_all (by decide +kernel) (pa_cons (pe_lc (own := [("part", 1)]) (by rfl) sc_are_parts.nd (pi_list (pe_split (pv 0) pe_str)) (blkOk_by (own := [("part", 1)]) (N := nm_are_parts) (sc := defScope s_are_parts) (by decide +kernel)) (fun _ _ _ _ _ => (pg_name (i := 1) sc_are_parts.nd rfl (by first | exact Or.inl rfl | exact Or.inr rfl))) (fun _ _ _ _ _ => pts_nil) (fun _ _ _ _ _ => (pe_fn T.g_is_part c_is_part (hr.mono (by first | decide | exact Nat.le_refl _)) (by rfl) (pa_cons (pv 1) pa_nil)))) pa_nil)))))), ?_⟩
  refine ⟨_, rfl, _, _, _, _, _, rfl, .ty _, .base (.str _), kit_ty (b := "str") (by decide +kernel), _, rfl, iteT ?_⟩
  refine ⟨_, rfl, ⟨t, rfl⟩, t, ".", rfl, rfl, (by decide), (by rw [sizeLine_eq]; exact Nat.le_trans (Nat.add_le_add_right ht 2) (by decide)), fun p hp => ?_⟩
  refine ⟨p, rfl, ⟨_, SqL.of upd_same⟩, fun D hD => ?_⟩
  have npD : p ≠ D := ne_of_none upd_same hD
  refine lc_it walk_list (fun i H' => Same (upd H p (.lst ((Txt.split t ".").map V.str))) H' ∧ H' D = some (.lst (((Txt.split t ".").take i).map fun u => V.bl (partB u)))) ⟨same_new hD _, upd_same⟩ (fun i H' _ h => SqL.of (h.1 _ _ upd_same)) (fun i x H1 H2 hi hp hy => ?_) (fun H1 h1 => ?_)
  · obtain ⟨rfl, hx⟩ := hy
    obtain ⟨h1, h2⟩ := hp
    rw [List.getElem?_map] at hx
    obtain ⟨u, hu, rfl⟩ := Option.map_eq_some_iff.mp hx
    rw [List.length_map] at hi
    refine ⟨rfl, yes_if ?_⟩
    refine ⟨_, rfl, u, rfl, hP u (List.mem_of_getElem? hu), fun H3 h3 => ⟨_, h3 _ _ h2, ?_, ?_, ?_⟩⟩
    · rw [List.length_map, List.length_take, sizeLine_eq]; omega
    · intro b o hb
      rw [upd_ne (ne_of_none hb hD)]; exact h3 _ _ (h1 _ _ hb)
    · rw [upd_same, take_more hu, List.map_append]; rfl
  · rw [List.length_map, List.take_length] at h1
    refine ⟨D, (Txt.split t ".").map partB, rfl, SqL.of ?_, ?_⟩
    · rw [h1.2, List.map_map]; rfl
    · rw [List.all_map]
      exact hQ _ ((same_new hp _).trans h1.1)
end
end K17

set_option Elab.async false
set_option linter.all false
set_option maxRecDepth 100000
set_option maxHeartbeats 0
namespace K17
open PySem PySem.Spec PyProof.Rows L2 RC
section
variable {P : Program} {w : World} {K : PySem.W.Frag} {mg : Str → Option Value} {base : Heap}
/-! ### the tree of loggers -/
abbrev Es : Type := List (Str × Addr)
def lmK (es : Es) : List (Key × V) := es.map fun e => (Sum.inr e.1, V.ref e.2)
theorem valV_lmK (x : Str) : ∀ es : Es, valV (lmK es) (Sum.inr x) = (es.lookup x).map V.ref
  | [] => rfl
  | e :: es => by
    by_cases h : e.1 = x
    · have h1 : valV (lmK (e :: es)) (Sum.inr x) = some (V.ref e.2) := valV_pos (p := ((Sum.inr e.1 : Key), V.ref e.2)) (r := lmK es) (congrArg Sum.inr h)
      rw [h1, List.lookup_cons, beq_iff_eq.mpr h.symm]; rfl
    · have h1 : valV (lmK (e :: es)) (Sum.inr x) = valV (lmK es) (Sum.inr x) := by
        show valV (((Sum.inr e.1 : Key), V.ref e.2) :: lmK es) (Sum.inr x) = _
        unfold valV
        rw [List.find?_cons, show decide ((Sum.inr e.1 : Key) = Sum.inr x) = false from decide_eq_false fun z => h (Sum.inr.inj z)]
      rw [h1, List.lookup_cons, show (x == e.1) = false from by simpa using fun z : x = e.1 => h z.symm, valV_lmK x es]
/-- the first many parts of a name -/
def pre (parts : List Str) (k : Nat) : Str := Txt.join "." (parts.take k)
/-- the logger of the longest beginning of at most k parts -/
def parIx (es : Es) (parts : List Str) : Nat → Option Addr
  | 0 => none
  | k + 1 => match es.lookup (pre parts (k + 1)) with
    | some a => some a
    | none => parIx es parts k
def parA (es : Es) (rt : Addr) (nm : Str) : Addr := (parIx es (Txt.split nm ".") ((Txt.split nm ".").length - 1)).getD rt
/-- a name whose parts are not too many and not too long -/
structure Sized (nm : Str) : Prop where
  all : nm.cps.size ≤ 1000000
  few : (Txt.split nm ".").length ≤ 1000
  short : ∀ u ∈ Txt.split nm ".", u.cps.size ≤ 1000
theorem sum_take (k : Nat) : ∀ parts : List Str, (∀ u ∈ parts, u.cps.size ≤ 1000) → ((parts.take k).map (·.length)).sum ≤ parts.length * 1000 := by
  induction k with
  | zero => intro parts _; simp
  | succ k ih =>
    intro parts h
    cases parts with
    | nil => simp
    | cons p r =>
      have i1 := ih r (fun u hu => h u (List.mem_cons_of_mem _ hu))
      have i2 : p.length ≤ 1000 := h p List.mem_cons_self
      simp only [List.take_succ_cons, List.map_cons, List.sum_cons, List.length_cons]
      omega
theorem cutV_take (xs : List V) (k : Nat) (h : k ≤ xs.length) : cutV xs none (some (k : Int)) = xs.take k := by
  unfold cutV
  rw [HT.sIx_none, HT.sIx_nat, Nat.min_eq_left h, List.drop_zero, Nat.sub_zero]
def spParent (K : PySem.W.Frag) : Sp := fun vs H Q _ => ∃ (y dy lm rt : Addr) (fs : List (Str × V)) (es : Es) (t : Str), vs = [.ref y, .str t] ∧ H y = some (.ins (CY K) dy fs) ∧ fs.lookup ("root" : Str) = some (.ref rt) ∧ fs.lookup ("logger_map" : Str) = some (.ref lm) ∧ H lm = some (.dK (lmK es)) ∧ Sized t ∧ ∀ H', Same H H' → Q (.ref (parA es rt t)) H'
theorem ok_parent {f : Addr} (T : Txt P w K mg) (F : Stands K "parent_of" "parent_of" s_parent_of [] f) : Callable P w K mg base 1 f ["yard", "name"] [] (spParent K) := by
  refine F.call0 sc_parent_of (fun vs H Q E h => ?_) (fun cdv A outer s H vs Q E hr h => ?_) (fun _ _ _ _ _ _ us hl => match us, hl with | [_, _], _ => rfl)
  · obtain ⟨y, dy, lm, rt, fs, es, t, rfl, _⟩ := h; rfl
  obtain ⟨y, dy, lm, rt, fs, es, t, rfl, hy, hroot, hmap, hlm, hz, hQ⟩ := h
  refine ⟨_, (pss_cons (ps_set (i := 2) sc_parent_of.nd rfl (by first | exact Or.inl rfl | exact Or.inr rfl) (pe_split (pv 1) pe_str))
      (pss_cons (ps_for PassesOwn.never rfl (pi_range3 (by rfl) T.b_range (pa_cons (pe_op op_sub (pe_callB call_len (by rfl) T.b_len (by decide +kernel) (pa_cons (pv 2) pa_nil)) pe_int) (pa_cons pe_int (pa_cons (pe_un un_neg pe_int) pa_nil)))) (pg_name (i := 3) sc_parent_of.nd rfl (by first | exact Or.inl rfl | exact Or.inr rfl)) (pss_cons (ps_set (i := 4) sc_parent_of.nd rfl (by first | exact Or.inl rfl | exact Or.inr rfl) (pe_dget1 (hu_of hr) (pe_fld (pv 0) rfl) (pe_join pe_str (pe_slice sl_list (pv 2) po_none (po_some (pv 3)))) ⟨rfl, rfl, rfl, rfl⟩))
      (pss_one (ps_if (pt_cmpR op_notN (pv 4) pe_non (nomark _)) (pss_one (ps_ret (pv 4))) pss_nil))))
      (pss_one (ps_ret (pe_fld (pv 0) rfl))))), ?_⟩
  refine ⟨_, rfl, ⟨t, rfl⟩, t, ".", rfl, rfl, (by decide), (by rw [sizeLine_eq]; exact Nat.le_trans (Nat.add_le_add_right hz.all 2) (by decide)), fun p hp => ?_⟩
  have q1 : upd H p (.lst ((Txt.split t ".").map V.str)) p = some (.lst ((Txt.split t ".").map V.str)) := upd_same
  have s1 : Same H (upd H p (.lst ((Txt.split t ".").map V.str))) := same_new hp _
  generalize upd H p (.lst ((Txt.split t ".").map V.str)) = H1 at q1 s1
  unfold parA at hQ
  have hfew := hz.few
  have hshort := hz.short
  generalize Txt.split t "." = parts at hQ q1 hfew hshort
  have hl : ((parts.map V.str).length : Int) - 1 - 0 = (parts.length : Int) - 1 := by rw [List.length_map]; omega
  refine ⟨_, rfl, .ref p, parts.length, rfl, .inl ⟨_, SqL.of q1, by rw [List.length_map]⟩, _, 1, rfl, rfl, 1, rfl, _, 0, -1, _, rfl, RgC.neg (by omega) (by omega) (by decide) (by decide), ?_⟩
  have en : ((parts.length : Int) - 1 - 0).toNat = parts.length - 1 := by omega
  rw [en]
  refine for_it walk_rangeC (fun i σ H' => Same H1 H' ∧ parIx es parts (parts.length - 1) = parIx es parts (parts.length - 1 - i) ∧ ∃ o3 o4, σ = [some (.ref y), some (.str t), some (.ref p), o3, o4]) ⟨Same.refl H1, rfl, _, _, rfl⟩ (fun _ _ _ _ _ => trivial) (fun i x σ H2 H3 hi hP hx => ?_) (fun σ H2 hP => ?_)
  · obtain ⟨rfl, rfl⟩ := hx
    obtain ⟨s2, e2, o3, o4, rfl⟩ := hP
    obtain ⟨k, hk⟩ : ∃ k, parts.length - 1 - i = k + 1 := ⟨parts.length - 1 - i - 1, by omega⟩
    have ek : (parts.length : Int) - 1 + (i : Nat) * (-1) = ((k + 1 : Nat) : Int) := by omega
    dsimp only
    rw [ek]
    have s12 := s1.trans s2
    refine ⟨_, rfl, y, _, dy, fs, _, rfl, s12 _ _ hy, T.c_Yard, T.n_Yard_logger_map, hmap, lm, rfl, .inl ⟨_, .inl (s12 _ _ hlm)⟩, ⟨".", rfl⟩, _, rfl, _, rfl, _, rfl, p, _, rfl, SqL.of (s2 _ _ q1), fun q hq => ?_⟩
    rw [cutV_take _ _ (by rw [List.length_map]; omega), ← List.map_take]
    have s3 := s2.trans (same_new hq (.lst ((parts.take (k + 1)).map V.str)))
    refine ⟨".", q, parts.take (k + 1), rfl, rfl, .inl (SqL.of upd_same), ?_, _, DGet.k (k := Sum.inr (pre parts (k + 1))) (same_new hq _ _ _ (s12 _ _ hlm)), ?_⟩
    · have a := sum_take (k + 1) parts hshort
      have b : (parts.take (k + 1)).length ≤ parts.length := by rw [List.length_take]; omega
      have c : (("." : Str)).length = 1 := rfl
      rw [c]; omega
    rw [valV_lmK]
    rw [hk] at e2
    cases hL : es.lookup (pre parts (k + 1)) with
    | some a =>
      have e3 : parIx es parts (parts.length - 1) = some a := by rw [e2]; show (match es.lookup (pre parts (k + 1)) with | some a => some a | none => parIx es parts k) = _; rw [hL]
      refine ⟨_, rfl, rfl, _, rfl, iteT' (by rfl) ⟨_, rfl, ?_⟩⟩
      have q := hQ _ (s1.trans s3)
      rw [e3] at q; exact q
    | none =>
      have e3 : parIx es parts (parts.length - 1) = parIx es parts (parts.length - 1 - (i + 1)) := by
        rw [e2, show parts.length - 1 - (i + 1) = k by omega]; show (match es.lookup (pre parts (k + 1)) with | some a => some a | none => parIx es parts k) = _; rw [hL]
      exact ⟨_, rfl, rfl, _, rfl, iteF' (by rfl) ⟨s3, e3, _, _, rfl⟩⟩
  · obtain ⟨s2, e2, o3, o4, rfl⟩ := hP
    rw [show parts.length - 1 - (parts.length - 1) = 0 by omega] at e2
    have s12 := s1.trans s2
    refine ⟨_, rfl, y, _, dy, fs, _, rfl, s12 _ _ hy, T.c_Yard, T.n_Yard_root, hroot, ?_⟩
    have q := hQ _ s12
    rw [e2] at q; exact q
end
end K17

set_option Elab.async false
set_option linter.all false
set_option maxRecDepth 100000
set_option maxHeartbeats 0
namespace K17
open PySem PySem.Spec PyProof.Rows L2 RC
section
variable {P : Program} {w : World} {K : PySem.W.Frag} {mg : Str → Option Value} {base : Heap}
/-! ### placing the loggers -/
structure LG where
  (d l hl : Addr) (lev : Int) (prop dis : Bool)
def lG (q : LG) (y : Addr) (name : Str) (par : V) : List (Str × V) := [("filters", .ref q.l), ("yard", .ref y), ("name", .str name), ("level", .int q.lev), ("propagate", .bl q.prop), ("disabled", .bl q.dis), ("handlers", .ref q.hl), ("parent", par)]
theorem lG_name {q q' : LG} {y y' : Addr} {n n' : Str} {p p' : V} (h : lG q y n p = lG q' y' n' p') : n = n' := by
  have e := congrArg (fun l : List (Str × V) => l.lookup ("name" : Str)) h
  exact V.str.inj (Option.some.inj e)
/-- the loggers of es stand, with the parents par -/
def Logs (K : PySem.W.Frag) (H : Hp) (y : Addr) (es : Es) (g : Addr → LG) (par : Str → V) : Prop := ∀ e ∈ es, H e.2 = some (.ins (CL K) (g e.2).d (lG (g e.2) y e.1 (par e.1)))
theorem lookup_nd : ∀ {es : Es} {e : Str × Addr}, e ∈ es → (es.map (·.1)).Nodup → es.lookup e.1 = some e.2
  | [], _, h, _ => nomatch h
  | a :: es, e, h, nd => by
    rw [List.lookup_cons]
    rcases List.mem_cons.mp h with rfl | h
    · rw [beq_self_eq_true]
    · rw [List.map_cons, List.nodup_cons] at nd
      have hne : e.1 ≠ a.1 := fun z => nd.1 (by rw [← z]; exact List.mem_map_of_mem h)
      rw [show (e.1 == a.1) = false from by simpa using hne]
      exact lookup_nd h nd.2
theorem Logs.inj {K : PySem.W.Frag} {H : Hp} {y : Addr} {es : Es} {g : Addr → LG} {par : Str → V} (L : Logs K H y es g par) {e e' : Str × Addr} (h : e ∈ es) (h' : e' ∈ es) (z : e.2 = e'.2) : e.1 = e'.1 := by
  have a := L e h
  have b := L e' h'
  rw [z, b] at a
  exact lG_name (HO.ins.inj (Option.some.inj a)).2.2.symm
theorem Logs.notY {K : PySem.W.Frag} {H : Hp} {y : Addr} {es : Es} {g : Addr → LG} {par : Str → V} (L : Logs K H y es g par) {a C d : Addr} {fs : List (Str × V)} {v : V} (hy : H a = some (.ins C d fs)) (hm : fs.lookup ("logger_map" : Str) = some v) : a ∉ es.map (·.2) := fun z => by
  obtain ⟨e, he, rfl⟩ := List.mem_map.mp z
  have b := L e he
  rw [hy] at b
  rw [(HO.ins.inj (Option.some.inj b)).2.2] at hm
  exact absurd hm (by show (none : Option V) ≠ some v; exact fun z => nomatch z)
theorem Logs.notIns {K : PySem.W.Frag} {H : Hp} {y : Addr} {es : Es} {g : Addr → LG} {par : Str → V} (L : Logs K H y es g par) {a : Addr} {o : HO} (h : H a = some o) (ho : ∀ C d fs, o ≠ .ins C d fs) : a ∉ es.map (·.2) := fun z => by
  obtain ⟨e, he, rfl⟩ := List.mem_map.mp z
  have b := L e he
  rw [h] at b
  exact ho _ _ _ (Option.some.inj b)
/-- but the loggers of es all stays -/
def ButL (es : Es) (H H' : Hp) : Prop := ∀ b o, b ∉ es.map (·.2) → H b = some o → H' b = some o
def spPlaceAll (K : PySem.W.Frag) : Sp := fun vs H Q _ => ∃ (y dy lm rt : Addr) (fs : List (Str × V)) (es : Es) (g : Addr → LG) (p0 : Str → V), vs = [.ref y] ∧ H y = some (.ins (CY K) dy fs) ∧ fs.lookup ("root" : Str) = some (.ref rt) ∧ fs.lookup ("logger_map" : Str) = some (.ref lm) ∧ H lm = some (.dK (lmK es)) ∧
  (es.map (·.1)).Nodup ∧ (∀ e ∈ es, Sized e.1) ∧ es.length ≤ 1000 ∧ Logs K H y es g p0 ∧ ∀ H', ButL es H H' → Logs K H' y es g (fun n => .ref (parA es rt n)) → Q .non H'
theorem ok_placeAll {f : Addr} (T : Txt P w K mg) (F : Stands K "place_loggers" "place_loggers" s_place_loggers [] f) (c_parent_of : Callable P w K mg base 1 (He.ga K "parent_of") ["yard", "name"] [] (spParent K)) : Callable P w K mg base 2 f ["yard"] [] (spPlaceAll K) := by
  refine F.call0 sc_place_loggers (fun vs H Q E h => ?_) (fun cdv A outer s H vs Q E hr h => ?_) (fun _ _ _ _ _ _ us hl => match us, hl with | [_], _ => rfl)
  · obtain ⟨y, dy, lm, rt, fs, es, g, p0, rfl, _⟩ := h; rfl
  obtain ⟨y, dy, lm, rt, fs, es, g, p0, rfl, hy, hroot, hmap, hlm, hnd, hsz, hlen, hL, hQ⟩ := h
  refine ⟨_, (pss_one (ps_for PassesOwn.never rfl (pi_list (pe_callTy (call_list_dK rfl) (by rfl) T.b_list (by decide +kernel) (pa_cons (pe_fld (pv 0) rfl) pa_nil))) (pg_name (i := 1) sc_place_loggers.nd rfl (by first | exact Or.inl rfl | exact Or.inr rfl)) (pss_one (ps_fld (pe_dget (hu_of hr) (pe_fld (pv 0) rfl) (pv 1) (fun _ _ => rfl)) (pe_fn T.g_parent_of c_parent_of (hr.mono (by first | decide | exact Nat.le_refl _)) (by rfl) (pa_cons (pv 0) (pa_cons (pv 1) pa_nil))) rfl)))), ?_⟩
  refine ⟨_, rfl, y, _, dy, fs, _, rfl, hy, T.c_Yard, T.n_Yard_logger_map, hmap, lm, _, rfl, hlm, fun q hq => ?_⟩
  have ek : (lmK es).map (fun kv => kV kv.1) = es.map fun e => V.str e.1 := by rw [lmK, List.map_map]; rfl
  rw [ek]
  have q1 : upd H q (.lst (es.map fun e => V.str e.1)) q = some (.lst (es.map fun e => V.str e.1)) := upd_same
  have s1 : Same H (upd H q (.lst (es.map fun e => V.str e.1))) := same_new hq _
  generalize upd H q (.lst (es.map fun e => V.str e.1)) = H1 at q1 s1
  have L1 : Logs K H1 y es g p0 := fun e he => s1 _ _ (hL e he)
  have ny := L1.notY (s1 _ _ hy) hmap
  have nlm := L1.notIns (s1 _ _ hlm) (fun _ _ _ z => nomatch z)
  have nq := L1.notIns q1 (fun _ _ _ z => nomatch z)
  refine ⟨q, rfl, ⟨_, SqL.of q1⟩, ?_⟩
  refine for_it walk_list (fun i σ H' => ButL es H1 H' ∧ (∀ (j : Nat) (e : Str × Addr), es[j]? = some e → H' e.2 = some (.ins (CL K) (g e.2).d (lG (g e.2) y e.1 (if j < i then .ref (parA es rt e.1) else p0 e.1)))) ∧ ∃ o1, σ = [some (.ref y), o1])
    ⟨fun _ _ _ e => e, fun j e he => L1 e (List.mem_of_getElem? he), _, rfl⟩ (fun i σ H' _ h => SqL.of (h.1 _ _ nq q1)) (fun i x σ H2 H3 hi hP hx => ?_) (fun σ H2 hP => ?_)
  · obtain ⟨rfl, hx⟩ := hx
    obtain ⟨b2, l2, o1, rfl⟩ := hP
    rw [List.getElem?_map] at hx
    obtain ⟨e, he, rfl⟩ := Option.map_eq_some_iff.mp hx
    have hm := List.mem_of_getElem? he
    refine ⟨_, rfl, _, rfl, y, dy, lm, rt, fs, es, e.1, rfl, b2 _ _ ny (s1 _ _ hy), hroot, hmap, b2 _ _ nlm (s1 _ _ hlm), hsz e hm, fun H4 s4 => ?_⟩
    refine ⟨_, rfl, y, _, dy, fs, _, rfl, s4 _ _ (b2 _ _ ny (s1 _ _ hy)), T.c_Yard, T.n_Yard_logger_map, hmap, _, rfl, lm, .ref e.2, rfl, ?_, e.2, _, _, _, rfl, s4 _ _ (l2 i e he), T.c_Logger, T.n_Logger_parent, (by show 8 < 1000; decide), ?_⟩
    · have g := DGet.k (k := Sum.inr e.1) (s4 _ _ (b2 _ _ nlm (s1 _ _ hlm)))
      rw [valV_lmK, lookup_nd hm hnd] at g; exact g
    · refine ⟨fun b o hb hbo => ?_, fun j e' he' => ?_, _, rfl⟩
      · rw [upd_ne (fun z => hb (by rw [z]; exact List.mem_map_of_mem hm))]; exact s4 _ _ (b2 b o hb hbo)
      · have hm' := List.mem_of_getElem? he'
        by_cases c : e'.2 = e.2
        · have en : e' = e := Prod.ext (L1.inj hm' hm c) c
          subst en
          have ej : j = i := by
            have n1 : (es.map (·.1))[j]? = some e'.1 := by rw [List.getElem?_map, he']; rfl
            have n2 : (es.map (·.1))[i]? = some e'.1 := by rw [List.getElem?_map, he]; rfl
            have hj := (List.getElem?_eq_some_iff.mp n1).1
            exact (List.getElem?_inj hj hnd).mp (n1.trans n2.symm)
          subst ej
          rw [upd_same, if_pos (Nat.lt_succ_self _)]; rfl
        · rw [upd_ne c, s4 _ _ (l2 j e' he')]
          have nij : j ≠ i := fun z => by rw [z, he] at he'; exact c (by rw [Option.some.inj he'])
          by_cases d : j < i
          · rw [if_pos d, if_pos (by omega)]
          · rw [if_neg d, if_neg (by omega)]
  · obtain ⟨b2, l2, o1, rfl⟩ := hP
    refine hQ _ (fun b o hb e => b2 b o hb (s1 _ _ e)) (fun e he => ?_)
    obtain ⟨j, hj⟩ := List.getElem?_of_mem he
    have h := l2 j e hj
    rw [if_pos (by rw [List.length_map]; exact (List.getElem?_eq_some_iff.mp hj).1)] at h
    exact h
end
end K17

set_option Elab.async false
set_option linter.all false
set_option maxRecDepth 100000
set_option maxHeartbeats 0
namespace K17
open PySem PySem.Spec PyProof.Rows L2 RC
section
variable {P : Program} {w : World} {K : PySem.W.Frag} {mg : Str → Option Value} {base : Heap}
/-! ### getLogger -/
structure Tree (K : PySem.W.Frag) (H : Hp) (y dy lm rt : Addr) (fs : List (Str × V)) (es : Es) (g : Addr → LG) : Prop where
  yd : H y = some (.ins (CY K) dy fs)
  root : fs.lookup ("root" : Str) = some (.ref rt)
  map : fs.lookup ("logger_map" : Str) = some (.ref lm)
  ms : fs.lookup ("getLogger" : Str) = none
  lmo : H lm = some (.dK (lmK es))
  nd : (es.map (·.1)).Nodup
  sz : ∀ e ∈ es, Sized e.1
  lg : Logs K H y es g (fun n => .ref (parA es rt n))
/-- a new logger a was put behind es -/
structure NewLog (K : PySem.W.Frag) (H H' : Hp) (lm : Addr) (es : Es) (a : Addr) (q : LG) : Prop where
  kp : ∀ b o, b ≠ lm → b ∉ es.map (·.2) → H b = some o → H' b = some o
  a0 : H a = none
  l0 : H q.l = none
  h0 : H q.hl = none
  ne : q.l ≠ q.hl
  l1 : H' q.l = some (.lst [])
  h1 : H' q.hl = some (.lst [])
  fl : q.lev = 0 ∧ q.prop = true ∧ q.dis = false
def updG (g : Addr → LG) (a : Addr) (q : LG) : Addr → LG := fun b => if b = a then q else g b
def spGetLog (K : PySem.W.Frag) : Sp := fun vs H Q _ => ∃ (y dy lm rt : Addr) (fs : List (Str × V)) (es : Es) (g : Addr → LG) (t : Str), vs = [.ref y, .str t] ∧ Tree K H y dy lm rt fs es g ∧ es.length ≤ 500 ∧ t ≠ "" ∧ t ≠ "root" ∧ Sized t ∧ (Txt.split t ".").all partB = true ∧
  ((∃ a, es.lookup t = some a ∧ ∀ H', Same H H' → Q (.ref a) H') ∨ (es.lookup t = none ∧ ∀ H' a q, NewLog K H H' lm es a q → Tree K H' y dy lm rt fs (es ++ [(t, a)]) (updG g a q) → Q (.ref a) H'))
theorem lookup_none : ∀ {es : Es} {t : Str}, es.lookup t = none → t ∉ es.map (·.1)
  | [], _, _ => List.not_mem_nil
  | a :: es, t, h => by
    rw [List.lookup_cons] at h
    by_cases c : t = a.1
    · rw [beq_iff_eq.mpr c] at h; cases h
    · rw [show (t == a.1) = false from by simpa using c] at h
      rw [List.map_cons, List.mem_cons]
      rintro (z | z)
      · exact c z
      · exact lookup_none h z
theorem body_getLog (T : Txt P w K mg) {f : Addr} {cdv : Value} {A : Around} {outer : List Env} {st0 : Shared} {E : XK} {vs : List V} {H : Hp} {Q : VK} (hr : Room 3 (A.deeper (envOfC "Yard.getLogger" (defScope s_Yard_getLogger) st0.heap.objs.size f cdv))) (h : spGetLog K vs H Q E)
    (c_are_parts : Callable P w K mg base 2 (He.ga K "are_parts") ["thing"] [] spAreParts)
    (c_Logger_init : Callable P w K mg base 2 (He.ma K (He.ga K "Logger") "__init__") ["self", "yard", "name", "level"] [] (spLoggerInit K)) (c_place_loggers : Callable P w K mg base 2 (He.ga K "place_loggers") ["yard"] [] (spPlaceAll K)) :
    ∃ t, PSs (cxOf CX0 P w K mg base nm_Yard_getLogger "Yard.getLogger" (defScope s_Yard_getLogger) f cdv A outer st0 H E).nox (defBody s_Yard_getLogger) t ∧ t { nx := fun _ H' => Q .non H', rt := Q } (start nm_Yard_getLogger vs) H := by
  obtain ⟨y, dy, lm, rt, fs, es, g, t, rfl, TR, hlen, n1, n2, hs, hp, hQ⟩ := h
  have hy := TR.yd
  have hroot := TR.root
  have hmap := TR.map
  have hlm := TR.lmo
  refine ⟨_, (pss_cons (ps_if (PW.pt (pw_or (pt_cmpR op_eq (pv 1) pe_str (nomark _)) (pw_or1 (pt_cmpR op_eq (pv 1) pe_str (nomark _))))) (pss_one (ps_ret (pe_fld (pv 0) rfl))) pss_nil)
      (pss_cons (ps_if (pt_not (pt_val (pe_fn T.g_are_parts c_are_parts (hr.mono (by first | decide | exact Nat.le_refl _)) (by rfl) (pa_cons (pv 1) pa_nil)))) (pss_one ps_never) pss_nil)
      (pss_cons (ps_if (pt_cmp (pc_dnotin (hu_of hr) (pv 1) (pe_fld (pv 0) rfl))) (pss_cons (ps_dput (hu_of hr) (pe_fld (pv 0) rfl) (pv 1) (pe_mk T.k_Logger T.g_Logger c_Logger_init (hr.mono (by decide)) (by rfl) (pa_cons (pv 0) (pa_cons (pv 1) (pa_cons (pe_gi (by rfl) T.g_NOTSET) pa_nil)))) rfl)
      (pss_one (ps_expr (pe_fn T.g_place_loggers c_place_loggers (hr.mono (by first | decide | exact Nat.le_refl _)) (by rfl) (pa_cons (pv 0) pa_nil))))) pss_nil)
      (pss_one (ps_ret (pe_dget (hu_of hr) (pe_fld (pv 0) rfl) (pv 1) (fun _ _ => rfl))))))), ?_⟩
  refine ⟨_, rfl, rfl, _, rfl, iteF' (by simp [n1]) ⟨_, rfl, rfl, _, rfl, iteF' (by simp [n2]) ?_⟩⟩
  refine ⟨_, rfl, t, rfl, hs.all, Nat.le_trans hs.few (by decide), (fun u hu => Nat.le_trans (hs.short u hu) (by decide)), fun H1 s1 => ?_⟩
  refine ⟨_, rfl, iteF' (by rw [hp]; rfl) ?_⟩
  have ge := DGet.k (k := Sum.inr t) (s1 _ _ hlm)
  rw [valV_lmK] at ge
  rcases hQ with ⟨a, ha, hQ⟩ | ⟨ha, hQ⟩
  · rw [ha] at ge
    refine ⟨_, rfl, _, rfl, y, _, dy, fs, _, rfl, s1 _ _ hy, T.c_Yard, T.n_Yard_logger_map, hmap, lm, _, rfl, ge, _, rfl, iteF' (by rfl) ?_⟩
    exact ⟨_, rfl, y, _, dy, fs, _, rfl, s1 _ _ hy, T.c_Yard, T.n_Yard_logger_map, hmap, _, rfl, lm, .ref a, rfl, ge, hQ _ s1⟩
  rw [ha] at ge
  refine ⟨_, rfl, _, rfl, y, _, dy, fs, _, rfl, s1 _ _ hy, T.c_Yard, T.n_Yard_logger_map, hmap, lm, _, rfl, ge, _, rfl, iteT' (by rfl) ?_⟩
  refine ⟨_, rfl, _, rfl, fun lg dl hlg hdl hne => ?_⟩
  refine ⟨lg, dl, y, t, 0, rfl, upd_same, fun H2 l h k1 k2 k3 k4 k5 k6 k7 => ⟨rfl, ?_⟩⟩
  have s2 : Same H1 H2 := made_same hlg hdl k1
  have s12 := s1.trans s2
  have k2 := (upd_none (upd_none k2).2).2
  have k3 := (upd_none (upd_none k3).2).2
  have hput : putK (lmK es) (Sum.inr t) (V.ref lg) = lmK (es ++ [(t, lg)]) := by
    unfold putK
    rw [if_neg ?_]
    · unfold lmK; rw [List.map_append]; rfl
    · intro z
      obtain ⟨kv, h1, h2⟩ := List.any_eq_true.mp z
      obtain ⟨e, he, rfl⟩ := List.mem_map.mp h1
      exact lookup_none ha (by rw [← Sum.inr.inj (of_decide_eq_true h2)]; exact List.mem_map_of_mem he)
  refine ⟨_, rfl, y, _, dy, fs, _, rfl, s12 _ _ hy, T.c_Yard, T.n_Yard_logger_map, hmap, _, rfl, lm, _, rfl, DPut.k (k := Sum.inr t) (s12 _ _ hlm) (by unfold lmK; rw [List.length_map, sizeLine_eq]; omega), ?_⟩
  rw [hput]
  have q1 := s12 _ _ hlm
  have nlm : lg ≠ lm := fun z => by rw [z, q1] at k5; cases k5
  have nly : y ≠ lg := fun z => by rw [← z, s1 _ _ hy] at hlg; cases hlg
  have nym : y ≠ lm := fun z => by rw [z, hlm] at hy; cases hy
  have nll : l ≠ lm := fun z => by rw [z, s1 _ _ hlm] at k2; cases k2
  have nhl : h ≠ lm := fun z => by rw [z, s1 _ _ hlm] at k3; cases k3
  have L0 := TR.lg
  have nlg0 : lg ∉ es.map (·.2) := fun z => by
    obtain ⟨e, he, z⟩ := List.mem_map.mp z
    have b := s1 _ _ (L0 e he)
    rw [z, hlg] at b; cases b
  have nlm0 := L0.notIns hlm (fun _ _ _ z => nomatch z)
  generalize e : upd H2 lm _ = H3
  have m3 : H3 lm = some (.dK (lmK (es ++ [(t, lg)]))) := by rw [← e]; exact upd_same
  have b3 : SameBut lm H2 H3 := by rw [← e]; exact SameBut.put
  clear e
  have L3 : Logs K H3 y (es ++ [(t, lg)]) (updG g lg ⟨dl, l, h, 0, true, false⟩) (fun n => if n = t then .non else .ref (parA es rt n)) := fun e he => by
    rcases List.mem_append.mp he with he | he
    · have c1 : e.2 ≠ lg := fun z => nlg0 (by rw [← z]; exact List.mem_map_of_mem he)
      have c2 : e.1 ≠ t := fun z => lookup_none ha (by rw [← z]; exact List.mem_map_of_mem he)
      have c3 : e.2 ≠ lm := fun z => nlm0 (by rw [← z]; exact List.mem_map_of_mem he)
      show H3 e.2 = some (.ins (CL K) (updG g lg ⟨dl, l, h, 0, true, false⟩ e.2).d (lG (updG g lg ⟨dl, l, h, 0, true, false⟩ e.2) y e.1 (if e.1 = t then .non else .ref (parA es rt e.1))))
      unfold updG
      rw [if_neg c1, if_neg c2]
      exact b3 _ _ c3 (s12 _ _ (L0 e he))
    · cases List.mem_singleton.mp he
      show H3 lg = some (.ins (CL K) (updG g lg ⟨dl, l, h, 0, true, false⟩ lg).d (lG (updG g lg ⟨dl, l, h, 0, true, false⟩ lg) y t (if t = t then .non else .ref (parA es rt t))))
      unfold updG
      rw [if_pos rfl, if_pos rfl]
      exact b3 _ _ nlm k5
  have nd' : ((es ++ [(t, lg)]).map (·.1)).Nodup := by
    rw [List.map_append, List.nodup_append]
    refine ⟨TR.nd, by simp, fun a ha' b hb z => ?_⟩
    have hb : b = t := by simpa using hb
    subst hb; subst z
    exact lookup_none ha ha'
  have sz' : ∀ e ∈ es ++ [(t, lg)], Sized e.1 := fun e he => by
    rcases List.mem_append.mp he with he | he
    · exact TR.sz e he
    · cases List.mem_singleton.mp he; exact hs
  refine ⟨_, rfl, y, dy, lm, rt, fs, es ++ [(t, lg)], updG g lg ⟨dl, l, h, 0, true, false⟩, _, rfl, b3 _ _ nym (s12 _ _ hy), hroot, hmap, m3, nd', sz', (by rw [List.length_append, List.length_singleton]; omega), L3, fun H4 b4 L4 => ?_⟩
  have ny4 := L3.notY (b3 _ _ nym (s12 _ _ hy)) hmap
  have nm4 := L3.notIns m3 (fun _ _ _ z => nomatch z)
  have hy4 := b4 _ _ ny4 (b3 _ _ nym (s12 _ _ hy))
  have m4 := b4 _ _ nm4 m3
  refine ⟨_, rfl, y, _, dy, fs, _, rfl, hy4, T.c_Yard, T.n_Yard_logger_map, hmap, _, rfl, lm, .ref lg, rfl, ?_, hQ H4 lg ⟨dl, l, h, 0, true, false⟩ ⟨fun b o hb hb2 he => ?_, s1.free hlg, s1.free k2, s1.free k3, k4, ?_, ?_, rfl, rfl, rfl⟩ ⟨hy4, hroot, hmap, TR.ms, m4, nd', sz', L4⟩⟩
  · have g := DGet.k (k := Sum.inr t) m4
    rw [valV_lmK, lookup_nd (e := (t, lg)) (by simp) nd'] at g; exact g
  · refine b4 _ _ (fun z => ?_) (b3 _ _ hb (s12 _ _ he))
    rw [List.map_append] at z
    rcases List.mem_append.mp z with z | z
    · exact hb2 z
    · have z : b = lg := by simpa using z
      rw [z] at he
      rw [s1 _ _ he] at hlg; cases hlg
  · exact b4 _ _ (L3.notIns (b3 _ _ nll k6) (fun _ _ _ z => nomatch z)) (b3 _ _ nll k6)
  · exact b4 _ _ (L3.notIns (b3 _ _ nhl k7) (fun _ _ _ z => nomatch z)) (b3 _ _ nhl k7)
theorem ok_getLog {f : Addr} (T : Txt P w K mg) (F : Stands K "getLogger" "Yard.getLogger" s_Yard_getLogger [.str ""] f) (c_are_parts : Callable P w K mg base 2 (He.ga K "are_parts") ["thing"] [] spAreParts)
    (c_Logger_init : Callable P w K mg base 2 (He.ma K (He.ga K "Logger") "__init__") ["self", "yard", "name", "level"] [] (spLoggerInit K)) (c_place_loggers : Callable P w K mg base 2 (He.ga K "place_loggers") ["yard"] [] (spPlaceAll K)) :
    Callable P w K mg base 4 f ["self", "name"] [] (spGetLog K) := by
  refine F.call sc_Yard_getLogger 2 1 (fun vs H Q E h => ?_) (fun cdv A outer s H vs Q E hr h => ?_) (fun z => nomatch z) fun _ => ⟨rfl, fun _ _ _ _ _ _ _ us its hl hi => match us, hl, its, hi with | [_, _], _, [_], _ => ⟨_, rfl, rfl⟩⟩
  · obtain ⟨y, dy, lm, rt, fs, es, g, t, rfl, _⟩ := h; rfl
  exact body_getLog T hr h c_are_parts c_Logger_init c_place_loggers
/-- the root, too -/
def spGetLogR (K : PySem.W.Frag) : Sp := fun vs H Q E => spGetLog K vs H Q E ∨ ∃ (y dy rt : Addr) (fs : List (Str × V)), vs = [.ref y, .str ""] ∧ H y = some (.ins (CY K) dy fs) ∧ fs.lookup ("root" : Str) = some (.ref rt) ∧ Q (.ref rt) H
theorem ok_getLogR {f : Addr} (T : Txt P w K mg) (F : Stands K "getLogger" "Yard.getLogger" s_Yard_getLogger [.str ""] f) (c_are_parts : Callable P w K mg base 2 (He.ga K "are_parts") ["thing"] [] spAreParts)
    (c_Logger_init : Callable P w K mg base 2 (He.ma K (He.ga K "Logger") "__init__") ["self", "yard", "name", "level"] [] (spLoggerInit K)) (c_place_loggers : Callable P w K mg base 2 (He.ga K "place_loggers") ["yard"] [] (spPlaceAll K)) :
    Callable P w K mg base 4 f ["self", "name"] [] (spGetLogR K) := by
  refine F.call sc_Yard_getLogger 2 1 (fun vs H Q E h => ?_) (fun cdv A outer s H vs Q E hr h => ?_) (fun z => nomatch z) fun _ => ⟨rfl, fun _ _ _ _ _ _ _ us its hl hi => match us, hl, its, hi with | [_, _], _, [_], _ => ⟨_, rfl, rfl⟩⟩
  · rcases h with h | h
    · obtain ⟨y, dy, lm, rt, fs, es, g, t, rfl, _⟩ := h; rfl
    · obtain ⟨y, dy, rt, fs, rfl, _⟩ := h; rfl
  rcases h with h | h
  · exact body_getLog T hr h c_are_parts c_Logger_init c_place_loggers
  obtain ⟨y, dy, rt, fs, rfl, hy, hroot, hQ⟩ := h
  refine ⟨_, (pss_cons (ps_if (PW.pt (pw_or (pt_cmpR op_eq (pv 1) pe_str (nomark _)) (pw_or1 (pt_cmpR op_eq (pv 1) pe_str (nomark _))))) (pss_one (ps_ret (pe_fld (pv 0) rfl))) pss_nil)
      (pss_cons (ps_if (pt_not (pt_val (pe_fn T.g_are_parts c_are_parts (hr.mono (by first | decide | exact Nat.le_refl _)) (by rfl) (pa_cons (pv 1) pa_nil)))) (pss_one ps_never) pss_nil)
      (pss_cons (ps_if (pt_cmp (pc_dnotin (hu_of hr) (pv 1) (pe_fld (pv 0) rfl))) (pss_cons (ps_dput (hu_of hr) (pe_fld (pv 0) rfl) (pv 1) (pe_mk T.k_Logger T.g_Logger c_Logger_init (hr.mono (by decide)) (by rfl) (pa_cons (pv 0) (pa_cons (pv 1) (pa_cons (pe_gi (by rfl) T.g_NOTSET) pa_nil)))) rfl)
      (pss_one (ps_expr (pe_fn T.g_place_loggers c_place_loggers (hr.mono (by first | decide | exact Nat.le_refl _)) (by rfl) (pa_cons (pv 0) pa_nil))))) pss_nil)
      (pss_one (ps_ret (pe_dget (hu_of hr) (pe_fld (pv 0) rfl) (pv 1) (fun _ _ => rfl))))))), ?_⟩
  exact ⟨_, rfl, rfl, _, rfl, iteT' (decide_eq_true rfl) ⟨_, rfl, y, _, dy, fs, _, rfl, hy, T.c_Yard, T.n_Yard_root, hroot, hQ⟩⟩
end
end K17

set_option Elab.async false
set_option linter.all false
set_option maxRecDepth 100000
set_option maxHeartbeats 0
namespace K17
open PySem PySem.Spec PyProof.Rows L2 RC
section
variable {P : Program} {w : World} {K : PySem.W.Frag} {mg : Str → Option Value} {base : Heap}
/-! ### the model of a yard with one logger and one handler -/
structure YS where
  T : List (Int × Str)
  U : List (Str × Int)
  clk : Int
  bar : Int
  lev : Int
  hl : Int
  lgm : Bool
  hm : Bool
  md : List V
inductive Ro
  | y | na | nu | lm | lg | h | md
  | x (j : Nat)
def yB (s : YS) (a : Ro → Addr) : List (Str × V) := [("clock", .int s.clk), ("stream_texts", .ref (a (.x 1))), ("file_rows", .ref (a (.x 2))), ("names_of", .ref (a .na)), ("numbers_of", .ref (a .nu)), ("bar_level", .int s.bar), ("logger_map", .ref (a .lm)), ("made", .ref (a .md)), ("handler_names", .ref (a (.x 3))), ("failure_rows", .ref (a (.x 4))), ("root", .ref (a (.x 5))), ("last_resort", .ref (a (.x 6)))]
def lgQ (s : YS) (a : Ro → Addr) : LG := ⟨a (.x 7), a (.x 8), a (.x 9), s.lev, true, false⟩
def lgF (s : YS) (a : Ro → Addr) : List (Str × V) := lG (lgQ s a) (a .y) "a" (.ref (a (.x 5)))
def hdF (s : YS) (a : Ro → Addr) : List (Str × V) := [("filters", .ref (a (.x 10))), ("yard", .ref (a .y)), ("level", .int s.hl), ("formatter", .non), ("name", .non), ("terminator", .str "\n"), ("closed", .bl false)]
def esY (s : YS) (a : Ro → Addr) : Es := if s.lgm = true then [("a", a .lg)] else []
abbrev CN (K : PySem.W.Frag) : Addr := He.ga K "NullHandler"
def Y1 (K : PySem.W.Frag) (s : YS) (a : Ro → Addr) : Ro → Option HO
  | .y => some (.ins (CY K) (a (.x 0)) (yB s a))
  | .na => some (.dK (txtK s.T))
  | .nu => some (.dK (intK s.U))
  | .lm => some (.dK (lmK (esY s a)))
  | .lg => if s.lgm = true then some (.ins (CL K) (a (.x 7)) (lgF s a)) else none
  | .h => if s.hm = true then some (.ins (CN K) (a (.x 11)) (hdF s a)) else none
  | .md => some (.lst s.md)
  | _ => none
abbrev YR (K : PySem.W.Frag) (s : YS) (a : Ro → Addr) (H : Hp) : Prop := RR.Rep (Y1 K s a) a H
abbrev YM (K : PySem.W.Frag) (s : YS) (a : Ro → Addr) (H : Hp) (s' : YS) (a' : Ro → Addr) (H' : Hp) : Prop := RR.Mv (Y1 K s a) a H (Y1 K s' a') a' H'
def cY (K : PySem.W.Frag) (s : YS) (a : Ro → Addr) : RS.Comp := ⟨Ro, Y1 K s a, a⟩
section
variable {s : YS} {a : Ro → Addr} {H : Hp}
theorem _root_.RR.Rep.y_ (R : YR K s a H) : H (a .y) = some (.ins (CY K) (a (.x 0)) (yB s a)) := R.at_ .y _ rfl
theorem _root_.RR.Rep.na_ (R : YR K s a H) : H (a .na) = some (.dK (txtK s.T)) := R.at_ .na _ rfl
theorem _root_.RR.Rep.nu_ (R : YR K s a H) : H (a .nu) = some (.dK (intK s.U)) := R.at_ .nu _ rfl
theorem _root_.RR.Rep.lm_ (R : YR K s a H) : H (a .lm) = some (.dK (lmK (esY s a))) := R.at_ .lm _ rfl
theorem _root_.RR.Rep.md_ (R : YR K s a H) : H (a .md) = some (.lst s.md) := R.at_ .md _ rfl
theorem _root_.RR.Rep.lg_ (R : YR K s a H) (h : s.lgm = true) : H (a .lg) = some (.ins (CL K) (a (.x 7)) (lgF s a)) := R.at_ .lg _ (if_pos h)
theorem _root_.RR.Rep.h_ (R : YR K s a H) (h : s.hm = true) : H (a .h) = some (.ins (CN K) (a (.x 11)) (hdF s a)) := R.at_ .h _ (if_pos h)
end
/-! the changes -/
section
variable {s : YS} {a : Ro → Addr} {H : Hp}
theorem _root_.RR.Rep.setL (R : YR K s a H) (h : s.lgm = true) (i : Int) : YR K { s with lev := i } a (upd H (a .lg) (.ins (CL K) (a (.x 7)) (lgF { s with lev := i } a))) ∧ YM K s a H { s with lev := i } a (upd H (a .lg) (.ins (CL K) (a (.x 7)) (lgF { s with lev := i } a))) :=
  R.set (M' := Y1 K { s with lev := i } a) .lg (if_pos h) (if_pos h) (fun r hr => by
    cases r with
    | lg => exact absurd rfl hr
    | _ => rfl)
theorem _root_.RR.Rep.setH (R : YR K s a H) (h : s.hm = true) (i : Int) : YR K { s with hl := i } a (upd H (a .h) (.ins (CN K) (a (.x 11)) (hdF { s with hl := i } a))) ∧ YM K s a H { s with hl := i } a (upd H (a .h) (.ins (CN K) (a (.x 11)) (hdF { s with hl := i } a))) :=
  R.set (M' := Y1 K { s with hl := i } a) .h (if_pos h) (if_pos h) (fun r hr => by
    cases r with
    | h => exact absurd rfl hr
    | _ => rfl)
theorem _root_.RR.Rep.setB (R : YR K s a H) (i : Int) : YR K { s with bar := i } a (upd H (a .y) (.ins (CY K) (a (.x 0)) (yB { s with bar := i } a))) ∧ YM K s a H { s with bar := i } a (upd H (a .y) (.ins (CY K) (a (.x 0)) (yB { s with bar := i } a))) :=
  R.set (M' := Y1 K { s with bar := i } a) .y rfl rfl (fun r hr => by
    cases r with
    | y => exact absurd rfl hr
    | _ => rfl)
theorem _root_.RR.Rep.setT (R : YR K s a H) (t : List (Int × Str)) : YR K { s with T := t } a (upd H (a .na) (.dK (txtK t))) ∧ YM K s a H { s with T := t } a (upd H (a .na) (.dK (txtK t))) :=
  R.set (M' := Y1 K { s with T := t } a) .na rfl rfl (fun r hr => by
    cases r with
    | na => exact absurd rfl hr
    | _ => rfl)
theorem _root_.RR.Rep.setU (R : YR K s a H) (u : List (Str × Int)) : YR K { s with U := u } a (upd H (a .nu) (.dK (intK u))) ∧ YM K s a H { s with U := u } a (upd H (a .nu) (.dK (intK u))) :=
  R.set (M' := Y1 K { s with U := u } a) .nu rfl rfl (fun r hr => by
    cases r with
    | nu => exact absurd rfl hr
    | _ => rfl)
/-- the logger is made -/
def adL (a : Ro → Addr) (p : Addr) (q : LG) : Ro → Addr
  | .lg => p
  | .x j => if j = 7 then q.d else if j = 8 then q.l else if j = 9 then q.hl else a (.x j)
  | r => a r
theorem _root_.RR.Rep.mkL (R : YR K s a H) (hm : s.lgm = false) {H' : Hp} {p : Addr} {q : LG} (N : NewLog K H H' (a .lm) [] p q) (hlm : H' (a .lm) = some (.dK (lmK [("a", p)]))) (hp : H' p = some (.ins (CL K) q.d (lG q (a .y) "a" (.ref (a (.x 5)))))) :
    YR K { s with lgm := true, lev := 0 } (adL a p q) H' ∧ YM K s a H { s with lgm := true, lev := 0 } (adL a p q) H' := by
  have key : ∀ (r : Ro), r ≠ .lm → r ≠ .lg → ∀ o, Y1 K { s with lgm := true, lev := 0 } (adL a p q) r = some o → Y1 K s a r = some o ∧ adL a p q r = a r := fun r h1 h2 o e => by
    cases r with
    | lm => exact absurd rfl h1
    | lg => exact absurd rfl h2
    | x j => cases e
    | _ => exact ⟨e, rfl⟩
  have nlm : ∀ r o, Y1 K s a r = some o → r ≠ .lm → a r ≠ a .lm := fun r o e h z => h (R.inj r .lm o _ e rfl z)
  refine RS.rep_ext [.lg] R (fun r o e => ?_) (fun r o e => ?_) (fun r h1 r' h2 _ => by rw [List.mem_singleton.mp h1, List.mem_singleton.mp h2]) (fun b o hb e => ?_)
  · by_cases c1 : r = .lm
    · subst c1; cases e; exact hlm
    · by_cases c2 : r = .lg
      · subst c2
        have e : (if true = true then some (HO.ins (CL K) q.d (lG ⟨q.d, q.l, q.hl, 0, true, false⟩ (a .y) "a" (.ref (a (.x 5))))) else none) = some o := e
        rw [if_pos rfl] at e
        cases e
        show H' p = _
        rw [hp]
        obtain ⟨f1, f2, f3⟩ := N.fl
        rw [← f1, ← f2, ← f3]
      · obtain ⟨e2, e3⟩ := key r c1 c2 o e
        rw [e3]
        exact N.kp _ _ (nlm r o e2 c1) (fun z => nomatch z) (R.at_ r o e2)
  · by_cases c1 : r = .lm
    · subst c1; exact .inl ⟨⟨_, rfl⟩, rfl⟩
    · by_cases c2 : r = .lg
      · subst c2; exact .inr ⟨List.mem_cons_self, N.a0⟩
      · obtain ⟨e2, e3⟩ := key r c1 c2 o e
        exact .inl ⟨⟨o, e2⟩, e3⟩
  · exact N.kp _ _ (fun z => hb .lm _ rfl z.symm) (fun z => nomatch z) e
/-- the handler is made -/
def adH (a : Ro → Addr) (p dx l : Addr) : Ro → Addr
  | .h => p
  | .x j => if j = 10 then l else if j = 11 then dx else a (.x j)
  | r => a r
theorem _root_.RR.Rep.mkH (R : YR K s a H) (hm : s.hm = false) {H' : Hp} {p dx l : Addr} (hp0 : H p = none) (k : ∀ b o, b ≠ a .md → H b = some o → H' b = some o) (hp : H' p = some (.ins (CN K) dx (hF l (a .y)))) (hmd : H' (a .md) = some (.lst (s.md ++ [.ref p]))) :
    YR K { s with hm := true, hl := 0, md := s.md ++ [.ref p] } (adH a p dx l) H' ∧ YM K s a H { s with hm := true, hl := 0, md := s.md ++ [.ref p] } (adH a p dx l) H' := by
  have key : ∀ (r : Ro), r ≠ .md → r ≠ .h → ∀ o, Y1 K { s with hm := true, hl := 0, md := s.md ++ [.ref p] } (adH a p dx l) r = some o → Y1 K s a r = some o ∧ adH a p dx l r = a r := fun r h1 h2 o e => by
    cases r with
    | md => exact absurd rfl h1
    | h => exact absurd rfl h2
    | x j => cases e
    | _ => exact ⟨e, rfl⟩
  have nmd : ∀ r o, Y1 K s a r = some o → r ≠ .md → a r ≠ a .md := fun r o e h z => h (R.inj r .md o _ e rfl z)
  refine RS.rep_ext [.h] R (fun r o e => ?_) (fun r o e => ?_) (fun r h1 r' h2 _ => by rw [List.mem_singleton.mp h1, List.mem_singleton.mp h2]) (fun b o hb e => ?_)
  · by_cases c1 : r = .md
    · subst c1; cases e; exact hmd
    · by_cases c2 : r = .h
      · subst c2
        have e : (if true = true then some (HO.ins (CN K) dx (hF l (a .y))) else none) = some o := e
        rw [if_pos rfl] at e
        cases e
        exact hp
      · obtain ⟨e2, e3⟩ := key r c1 c2 o e
        rw [e3]
        exact k _ _ (nmd r o e2 c1) (R.at_ r o e2)
  · by_cases c1 : r = .md
    · subst c1; exact .inl ⟨⟨_, rfl⟩, rfl⟩
    · by_cases c2 : r = .h
      · subst c2; exact .inr ⟨List.mem_cons_self, hp0⟩
      · obtain ⟨e2, e3⟩ := key r c1 c2 o e
        exact .inl ⟨⟨o, e2⟩, e3⟩
  · exact k _ _ (fun z => hb .md _ rfl z.symm) e
/-- a new yard -/
def T0 : List (Int × Str) := [(50, "CRITICAL"), (40, "ERROR"), (30, "WARNING"), (20, "INFO"), (10, "DEBUG"), (0, "NOTSET")]
def U0 : List (Str × Int) := [("CRITICAL", 50), ("FATAL", 50), ("ERROR", 40), ("WARNING", 30), ("WARN", 30), ("INFO", 20), ("DEBUG", 10), ("NOTSET", 0)]
def YS.s0 (clk : Int) : YS := ⟨T0, U0, clk, 0, 0, 0, false, false, []⟩
def adY (y dy : Addr) (q : YParts) : Ro → Addr
  | .y => y
  | .na => q.na
  | .nu => q.nu
  | .lm => q.lm
  | .md => q.md
  | .x j => [dy, q.st, q.fi, q.hn, q.fr, q.rt, q.lr].getD j 0
  | _ => y
theorem YNew.repF {now : Int} {H H2 : Hp} {y dy : Addr} {q : YParts} (hy : H y = none) (hd : H dy = none) (hne : dy ≠ y) (N : YNew K (upd (upd H dy (.own y)) y (.ins (CY K) dy [])) H2 y dy now q) : ∃ ad : Ro → Addr, ad .y = y ∧ YR K (YS.s0 now) ad H2 ∧ (∀ r u, Y1 K (YS.s0 now) ad r = some u → H (ad r) = none) ∧ Same H H2 := by
  obtain ⟨rd, ld, F⟩ := N.fr
  have S : Same H H2 := made_same hy hd F.kp
  have gy := N.y
  have gm := N.md
  have hm0 : H q.md = none := by
    rcases F.old q.md List.mem_cons_self with c | c
    · rw [c, gy] at gm; cases gm
    · exact (upd_none (upd_none c).2).2
  have nym : y ≠ q.md := fun z => by rw [← z, gy] at gm; cases gm
  have k0 : ∀ e ∈ q.L K y rd ld, H e.1 = none ∧ H2 e.1 = some e.2 := fun e he => ⟨(upd_none (upd_none (F.has e he).2.1).2).2, (F.has e he).2.2⟩
  have nL : ∀ e ∈ q.L K y rd ld, e.1 ≠ y ∧ e.1 ≠ q.md := fun e he => by
    have := (F.has e he).1
    simp only [List.mem_cons, List.not_mem_nil, or_false, not_or] at this
    exact ⟨this.2, this.1⟩
  have main := RS.rep_list (M := Y1 K (YS.s0 now) (adY y dy q)) (ad := adY y dy q) (H0 := H) (H := H2) [(.y, y, .ins (CY K) dy (yF now q.st q.fi q.na q.nu q.lm q.md q.hn q.fr q.rt q.lr)), (.md, q.md, .lst []),
    (.x 0, q.ll, .lst []), (.x 0, q.lr, .ins (He.ga K "StreamHandler") ld (hF q.ll y ++ ([("stream", .str "stderr")] : List (Str × V)))), (.x 0, q.rh, .lst []), (.x 0, q.rl, .lst []), (.x 0, q.rt, .ins (CL K) rd (lF q.rl y "root" 30 q.rh .non)), (.x 0, q.fr, .lst []), (.x 0, q.hn, .dK []), (.lm, q.lm, .dK []), (.nu, q.nu, .dK (kv_FIRST_NUMBERS.map fun q => (q.1, q.2.v K))), (.na, q.na, .dK (kv_FIRST_NAMES.map fun q => (q.1, q.2.v K))), (.x 0, q.fi, .dK []), (.x 0, q.st, .dK [])]
    (fun r o e => ?_) ?_ (fun x hx => ?_)
  · exact ⟨_, rfl, main.1, main.2, S⟩
  · cases r with
    | y => cases e; simp [adY]; rfl
    | na => cases e; simp [adY]; rfl
    | nu => cases e; simp [adY]; rfl
    | md => cases e; simp [adY]; rfl
    | lm => cases e; simp [adY]; rfl
    | lg => cases e
    | h => cases e
    | x j => cases e
  · show (y :: q.md :: (q.L K y rd ld).map (·.1)).Nodup
    refine List.nodup_cons.mpr ⟨fun z => ?_, List.nodup_cons.mpr ⟨fun z => ?_, F.nd⟩⟩
    · rcases List.mem_cons.mp z with z | z
      · exact nym z
      · obtain ⟨e, he, z⟩ := List.mem_map.mp z
        exact (nL e he).1 z
    · obtain ⟨e, he, z⟩ := List.mem_map.mp z
      exact (nL e he).2 z
  · rcases List.mem_cons.mp hx with rfl | hx
    · exact ⟨hy, gy⟩
    · rcases List.mem_cons.mp hx with rfl | hx
      · exact ⟨hm0, gm⟩
      · simp only [List.mem_cons, List.not_mem_nil, or_false] at hx
        rcases hx with rfl | rfl | rfl | rfl | rfl | rfl | rfl | rfl | rfl | rfl | rfl | rfl <;> exact k0 _ (by simp [YParts.L])
end
end
end K17

set_option Elab.async false
set_option linter.all false
set_option maxRecDepth 100000
set_option maxHeartbeats 0
namespace K17
open PySem PySem.Spec PyProof.Rows L2 RC
section
variable {P : Program} {w : World} {K : PySem.W.Frag} {mg : Str → Option Value} {base : Heap}
/-! ### what the law asks of a yard -/
def spBar (K : PySem.W.Frag) : Sp := fun vs H Q _ => ∃ (y dy : Addr) (fs : List (Str × V)) (b : Int), vs = [.ref y] ∧ H y = some (.ins (CY K) dy fs) ∧ fs.lookup ("bar_level" : Str) = some (.int b) ∧ Q (.int b) H
theorem ok_bar {f : Addr} (T : Txt P w K mg) (F : Stands K "bar" "Yard.bar" s_Yard_bar [] f) : Callable P w K mg base 1 f ["self"] [] (spBar K) := by
  refine F.call0 sc_Yard_bar (fun vs H Q E h => ?_) (fun cdv A outer s H vs Q E hr h => ?_) (fun _ _ _ _ _ _ us hl => match us, hl with | [_], _ => rfl)
  · obtain ⟨y, dy, fs, b, rfl, _⟩ := h; rfl
  obtain ⟨y, dy, fs, b, rfl, hy, hb, hQ⟩ := h
  refine ⟨_, (pss_one (ps_ret (pe_fld (pv 0) rfl))), ?_⟩
  exact ⟨_, rfl, y, _, dy, fs, _, rfl, hy, T.c_Yard, T.n_Yard_bar_level, hb, hQ⟩
theorem i_bar {f : Addr} (T : Txt P w K mg) (F : Stands K "bar" "Yard.bar" s_Yard_bar [] f) : RI.CallI P w K mg base 1 f ["self"] (spBar K) := by
  refine RI.stands_callI F sc_Yard_bar (fun vs H Q E h => ?_) (fun cdv A outer s H vs Q p hr h => ?_) (fun _ _ _ _ _ _ us hl => match us, hl with | [_], _ => rfl)
  · obtain ⟨y, dy, fs, b, rfl, _⟩ := h; rfl
  obtain ⟨y, dy, fs, b, rfl, hy, hb, hQ⟩ := h
  refine ⟨_, (pss_one (ps_ret (pe_fld (pv 0) rfl))), ?_⟩
  exact ⟨_, rfl, y, _, dy, fs, _, rfl, hy, T.c_Yard, T.n_Yard_bar_level, hb, hQ⟩
def spNames (K : PySem.W.Frag) : Sp := fun vs H Q _ => ∃ (y dy nu : Addr) (fs : List (Str × V)) (U : List (Str × Int)), vs = [.ref y] ∧ H y = some (.ins (CY K) dy fs) ∧ fs.lookup ("numbers_of" : Str) = some (.ref nu) ∧ H nu = some (.dK (intK U)) ∧ U.length ≤ 1000 ∧ ∀ d, H d = none → Q (.ref d) (upd H d (.dK (intK U)))
theorem ok_names {f : Addr} (T : Txt P w K mg) (F : Stands K "level_names" "Yard.level_names" s_Yard_level_names [] f) : Callable P w K mg base 1 f ["self"] [] (spNames K) := by
  refine F.call0 sc_Yard_level_names (fun vs H Q E h => ?_) (fun cdv A outer s H vs Q E hr h => ?_) (fun _ _ _ _ _ _ us hl => match us, hl with | [_], _ => rfl)
  · obtain ⟨y, dy, nu, fs, U, rfl, _⟩ := h; rfl
  obtain ⟨y, dy, nu, fs, U, rfl, hy, hn, hnu, hl, hQ⟩ := h
  refine ⟨_, (pss_one (ps_ret (pe_callTy call_dictD (by rfl) T.b_dict (by decide +kernel) (pa_cons (pe_fld (pv 0) rfl) pa_nil)))), ?_⟩
  refine ⟨_, rfl, y, _, dy, fs, _, rfl, hy, T.c_Yard, T.n_Yard_numbers_of, hn, nu, _, rfl, .inl hnu, hQ⟩
theorem vals_rev : ∀ {zs : List V} {ws : List Value}, Vals zs ws → Vals zs.reverse ws.reverse
  | _, _, .nil => .nil
  | _, _, .cons r t => by rw [List.reverse_cons, List.reverse_cons]; exact (vals_rev t).append (.cons r .nil)
def spAddN (K : PySem.W.Frag) : Sp := fun vs H Q _ => ∃ (s : YS) (a : Ro → Addr) (i : Int) (z : Str), vs = [.ref (a .y), .int i, .str z] ∧ YR K s a H ∧ s.T.length ≤ 900 ∧ s.U.length ≤ 900 ∧
  ∀ H', YR K { s with T := putL s.T i z, U := putL s.U z i } a H' → YM K s a H { s with T := putL s.T i z, U := putL s.U z i } a H' → Q .non H'
theorem len_addN : ∀ vs H Q E, spAddN K vs H Q E → vs.length = 3 := fun vs H Q E h => by
  obtain ⟨s, a, i, z, rfl, _⟩ := h; rfl
theorem body_addN {f : Addr} {cdv : Value} {A : Around} {outer : List Env} {st0 : Shared} {H : Hp} {vs : List V} {Q : VK} {E : XK} (T : Txt P w K mg) (hr : Room 0 (A.deeper (envOfC "Yard.add_level_name" (defScope s_Yard_add_level_name) st0.heap.objs.size f cdv))) (h : spAddN K vs H Q E) :
    ∃ t, PSs (cxOf CX0 P w K mg base nm_Yard_add_level_name "Yard.add_level_name" (defScope s_Yard_add_level_name) f cdv A outer st0 H E).nox (defBody s_Yard_add_level_name) t ∧ t { nx := fun _ H' => Q .non H', rt := Q } (L2.start nm_Yard_add_level_name vs) H := by
  obtain ⟨s, a, i, z, rfl, R, hl1, hl2, hQ⟩ := h
  refine ⟨_, (pss_cons (ps_dput (hu_of hr) (pe_fld (pv 0) rfl) (pv 1) (pv 2) rfl)
      (pss_one (ps_dput (hu_of hr) (pe_fld (pv 0) rfl) (pv 2) (pv 1) rfl))), ?_⟩
  obtain ⟨R1, M1⟩ := R.setT (putL s.T i z)
  obtain ⟨R2, M2⟩ := R1.setU (putL s.U z i)
  have e1 := put_txt s.T i z
  have e2 := put_int s.U z i
  have l1 : (txtK s.T).length < sizeLine := by rw [sizeLine_eq]; show (s.T.map _).length < _; rw [List.length_map]; omega
  have l2 : (intK s.U).length < sizeLine := by rw [sizeLine_eq]; show (s.U.map _).length < _; rw [List.length_map]; omega
  have hy1 := R1.y_
  have hnu1 := R1.nu_
  refine ⟨_, rfl, _, rfl, a .y, _, _, _, _, rfl, R.y_, T.c_Yard, T.n_Yard_names_of, rfl, _, rfl, a .na, _, rfl, DPut.k (k := Sum.inl i) R.na_ l1, ?_⟩
  rw [e1]
  refine ⟨_, rfl, _, rfl, a .y, _, _, _, _, rfl, hy1, T.c_Yard, T.n_Yard_numbers_of, rfl, _, rfl, a .nu, _, rfl, DPut.k (k := Sum.inr z) hnu1 l2, ?_⟩
  show Q .non (upd _ _ (.dK (putK (intK s.U) _ _)))
  rw [e2]
  exact hQ _ R2 (M1.trans M2)
theorem ok_addN {f : Addr} (T : Txt P w K mg) (F : Stands K "add_level_name" "Yard.add_level_name" s_Yard_add_level_name [] f) : Callable P w K mg base 1 f ["self", "level", "name"] [] (spAddN K) :=
  F.call0 sc_Yard_add_level_name len_addN (fun cdv A outer s0 H vs Q E hr h => body_addN T hr h) (fun _ _ _ _ _ _ us hl => match us, hl with | [_, _, _], _ => rfl)
theorem ok_addN_kw {f : Addr} (T : Txt P w K mg) (F : Stands K "add_level_name" "Yard.add_level_name" s_Yard_add_level_name [] f) : RK.CallKw P w K mg base 1 f ["self", "level", "name"] 1 ["name", "level"] (fun vs zs => vs ++ zs.reverse) (spAddN K) :=
  RK.stands_kw0 (fun us ws => us ++ ws.reverse) F sc_Yard_add_level_name len_addN (fun cdv A outer s0 H vs Q E hr h => body_addN T hr h) (fun r1 r2 => r1.append (vals_rev r2)) (fun _ _ _ _ _ _ us ws h1 h2 => match us, ws, h1, h2 with | [_], [_, _], _, _ => rfl)
/-- what a level set leaves -/
structure Sm (S S' : YS) : Prop where
  T : S'.T = S.T
  U : S'.U = S.U
  c : S'.clk = S.clk
  h : S'.hm = S.hm
theorem Sm.refl (S : YS) : Sm S S := ⟨rfl, rfl, rfl, rfl⟩
theorem Sm.trans {S S' S'' : YS} (a : Sm S S') (b : Sm S' S'') : Sm S S'' := ⟨b.T.trans a.T, b.U.trans a.U, b.c.trans a.c, b.h.trans a.h⟩
section
variable {H : Hp} {s l : Addr} {n : Nat} {S : YS} {a : Ro → Addr} {cs : List RS.Comp} {Q : VK} {E : XK}
theorem sized_a : Sized "a" := ⟨by decide +kernel, by decide +kernel, by decide +kernel⟩
theorem par_a (es : Es) (rt : Addr) : parA es rt "a" = rt := by
  unfold parA
  rw [show Txt.split ("a" : Str) "." = [("a" : Str)] from by decide +kernel]
  rfl
theorem get_a (W : RS.Wd H s l n (cY K S a :: cs)) (h : ∀ H' S' a', RS.Wd H' s l n (cY K S' a' :: cs) → S'.lgm = true → Sm S S' → a' .y = a .y → a' .h = a .h → Q (.ref (a' .lg)) H') : spGetLog K [.ref (a .y), .str "a"] H Q E := by
  have R : YR K S a H := W.hd
  have TR : Tree K H (a .y) (a (.x 0)) (a .lm) (a (.x 5)) (yB S a) (esY S a) (fun _ => lgQ S a) :=
    { yd := R.y_, root := rfl, map := rfl, ms := rfl, lmo := R.lm_,
      nd := by
        unfold esY; split
        · exact List.nodup_cons.mpr ⟨by simp, List.nodup_nil⟩
        · exact List.nodup_nil
      sz := fun e he => by
        unfold esY at he; split at he
        · rw [List.mem_singleton.mp he]; exact sized_a
        · cases he
      lg := fun e he => by
        unfold esY at he; split at he
        · rename_i c
          rw [List.mem_singleton.mp he]
          show H (a .lg) = some (.ins (CL K) _ (lG _ _ _ (.ref (parA _ _ "a"))))
          rw [par_a]
          exact R.lg_ c
        · cases he }
  refine ⟨a .y, a (.x 0), a .lm, a (.x 5), yB S a, esY S a, _, "a", rfl, TR, ?_, by decide +kernel, by decide +kernel, sized_a, by decide +kernel, ?_⟩
  · unfold esY; split
    · show 1 ≤ 500; decide
    · show 0 ≤ 500; decide
  cases c : S.lgm with
  | true =>
    refine .inl ⟨a .lg, by unfold esY; rw [if_pos c]; rfl, fun H' sm => h H' S a (W.same sm) c (Sm.refl _) rfl rfl⟩
  | false =>
    have e0 : esY S a = [] := by unfold esY; rw [if_neg (by rw [c]; exact fun z => nomatch z)]
    rw [e0]
    refine .inr ⟨rfl, fun H' p q N T2 => ?_⟩
    have hp := T2.lg ("a", p) (by simp)
    have hp : H' p = some (.ins (CL K) (updG _ p q p).d (lG (updG _ p q p) (a .y) "a" (.ref (parA _ _ "a")))) := hp
    rw [par_a, show updG (fun _ => lgQ S a) p q p = q from if_pos rfl] at hp
    obtain ⟨R1, M1⟩ := R.mkL c N T2.lmo hp
    exact h H' _ _ (W.mv (c' := cY K _ _) R1 M1) rfl ⟨rfl, rfl, rfl, rfl⟩ rfl rfl
theorem putL_lg (S : YS) (a : Ro → Addr) (i : Int) : putF "level" (.int i) (lgF S a) = lgF { S with lev := i } a := rfl
theorem putL_h (S : YS) (a : Ro → Addr) (i : Int) : putF "level" (.int i) (hdF S a) = hdF { S with hl := i } a := rfl
theorem putL_b (S : YS) (a : Ro → Addr) (i : Int) : putF "bar_level" (.int i) (yB S a) = yB { S with bar := i } a := rfl
theorem set_lg (W : RS.Wd H s l n (cY K S a :: cs)) (c : S.lgm = true) {x : V} (th : Th H x) (hQ : ∀ i, lvO S.U x = some i → ∀ H', RS.Wd H' s l n (cY K { S with lev := i } a :: cs) → Q .non H')
    (hE : lvO S.U x = none → ∀ d, H d = none → E (.ref (He.ga K "BadLevel")) (some d) (upd H d (.xd [("level", x)]))) : spSetLX K (He.ga K "Logger") [.ref (a .lg), x] H Q E := by
  have R : YR K S a H := W.hd
  refine ⟨a .lg, _, a .y, _, a .nu, _, _, S.U, x, rfl, R.lg_ c, rfl, (by show 8 < 900; decide), R.y_, rfl, rfl, R.nu_, th, fun i hi => ?_, hE⟩
  rw [putL_lg]
  obtain ⟨R1, M1⟩ := R.setL c i
  exact hQ i hi _ (W.mv (c' := cY K _ _) R1 M1)
theorem set_h (W : RS.Wd H s l n (cY K S a :: cs)) (c : S.hm = true) {x : V} (th : Th H x) (hQ : ∀ i, lvO S.U x = some i → ∀ H', RS.Wd H' s l n (cY K { S with hl := i } a :: cs) → Q .non H')
    (hE : lvO S.U x = none → ∀ d, H d = none → E (.ref (He.ga K "BadLevel")) (some d) (upd H d (.xd [("level", x)]))) : spSetLX K (CN K) [.ref (a .h), x] H Q E := by
  have R : YR K S a H := W.hd
  refine ⟨a .h, _, a .y, _, a .nu, _, _, S.U, x, rfl, R.h_ c, rfl, (by show 7 < 900; decide), R.y_, rfl, rfl, R.nu_, th, fun i hi => ?_, hE⟩
  rw [putL_h]
  obtain ⟨R1, M1⟩ := R.setH c i
  exact hQ i hi _ (W.mv (c' := cY K _ _) R1 M1)
theorem set_b (W : RS.Wd H s l n (cY K S a :: cs)) {x : V} (th : Th H x) (hQ : ∀ i, lvO S.U x = some i → ∀ H', RS.Wd H' s l n (cY K { S with bar := i } a :: cs) → Q .non H')
    (hE : lvO S.U x = none → ∀ d, H d = none → E (.ref (He.ga K "BadLevel")) (some d) (upd H d (.xd [("level", x)]))) : spDisX K [.ref (a .y), x] H Q E := by
  have R : YR K S a H := W.hd
  refine ⟨a .y, _, a .nu, _, S.U, x, rfl, R.y_, (by show 12 < 900; decide), rfl, rfl, R.nu_, th, fun i hi => ?_, hE⟩
  rw [putL_b]
  obtain ⟨R1, M1⟩ := R.setB i
  exact hQ i hi _ (W.mv (c' := cY K _ _) R1 M1)
end
end
end K17

set_option Elab.async false
set_option linter.all false
set_option maxRecDepth 100000
set_option maxHeartbeats 0

namespace K17
open PySem PySem.Spec PyProof.Rows L2 RC
section
variable {P : Program} {w : World} {K : PySem.W.Frag} {mg : Str → Option Value} {base : Heap}
/-! ### what the law draws -/
theorem stm_new {H : Hp} {s l D : Addr} {n : Nat} (h : Stm H s l n) (hD : H D = none) : D ≠ s ∧ D ≠ l :=
  ⟨fun z => (by obtain ⟨_, _, _, _, _, z1, _⟩ := h; rw [z, z1] at hD; cases hD), fun z => (by obtain ⟨_, _, _, _, _, _, z1, _⟩ := h; rw [z, z1] at hD; cases hD)⟩
theorem old_new {s l D : Addr} {H H' : Hp} {o : HO} (h : Old s l H H') (hD : H D = none) : Old s l H (upd H' D o) := fun b u h1 h2 e => by rw [upd_ne (ne_of_none e hD)]; exact h b u h1 h2 e
theorem _root_.RC.Stm.put {H : Hp} {s l D : Addr} {n : Nat} {o : HO} (h : Stm H s l n) (h1 : D ≠ s) (h2 : D ≠ l) : Stm (upd H D o) s l n := by
  obtain ⟨ne, ns, x, c, d, g1, g2, g3⟩ := h
  exact ⟨ne, ns, x, c, d, by rw [upd_ne (Ne.symm h1)]; exact g1, by rw [upd_ne (Ne.symm h2)]; exact g2, g3⟩
def spPick (K : PySem.W.Frag) : Sp := fun vs H Q _ => ∃ (s l p : Addr) (n : Nat) (xs : List V), vs = [.ref s, .ref p] ∧ Stm H s l n ∧ n ≤ 1000000 ∧ p ≠ s ∧ p ≠ l ∧ H p = some (.lst xs) ∧ 1 ≤ xs.length ∧ xs.length ≤ 1000 ∧ ∀ (H' : Hp) (x : V), Old s l H H' → Stm H' s l (n + 1) → x ∈ xs → Q x H'
theorem ok_pick {f : Addr} (T : Txt P w K mg) (F : Stands K "_law_pick" "_law_pick" s__law_pick [] f) (c__law_draw : Callable P w K mg base 1 (He.ga K "_law_draw") ["_law_stream", "_law_many"] [] spDraw) : Callable P w K mg base 2 f ["_law_stream", "_law_some"] [] (spPick K) := by
  refine F.call0 sc__law_pick (fun vs H Q E h => ?_) (fun cdv A outer s H vs Q E hr h => ?_) (fun _ _ _ _ _ _ us hl => match us, hl with | [_, _], _ => rfl)
  · obtain ⟨s, l, p, n, xs, rfl, _⟩ := h; rfl
  obtain ⟨s, l, p, n, xs, rfl, hs, hn, nps, npl, hp, hx1, hx2, hQ⟩ := h
  refine ⟨_, (pss_one (ps_ret (pe_ix ix_list (pv 1) (pe_fn T.g__law_draw c__law_draw (hr.mono (by first | decide | exact Nat.le_refl _)) (by rfl) (pa_cons (pv 0) (pa_cons (pe_callB call_len (by rfl) T.b_len (by decide +kernel) (pa_cons (pv 1) pa_nil)) pa_nil))) (fun _ _ => rfl)))), ?_⟩
  refine ⟨_, rfl, _, rfl, _, rfl, _, xs.length, rfl, .inl ⟨xs, SqL.of hp, rfl⟩, s, l, n, xs.length, rfl, hs, hn, by omega, by omega, fun H' d h1 h2 h3 h4 => ?_⟩
  obtain ⟨j, rfl⟩ := Int.eq_ofNat_of_zero_le h3
  have hj : j < xs.length := by omega
  refine ⟨p, xs, j, xs[j], rfl, rfl, SqL.of (h1 _ _ nps npl hp), atI_nat (by simp [hj]), ?_⟩
  exact hQ H' _ h1 h2 (List.getElem_mem hj)
/-! ### same, of texts and tuples -/
theorem walkZT {K : PySem.W.Frag} {a b : Addr} {xs ys : List V} (e : xs.length = ys.length) : Walk (RZ.ItzT K a b) xs.length (fun H => SqT K H a xs ∧ SqT K H b ys) (YPair (fun i => xs[i]?) (fun i => ys[i]?)) := by
  constructor
  · intro j _ hj ⟨ea, eb⟩
    have hj2 : j < ys.length := e ▸ hj
    exact ⟨xs, ys, _, _, ea, eb, List.getElem?_eq_getElem hj, List.getElem?_eq_getElem hj2⟩
  · intro _ ⟨ea, eb⟩
    exact ⟨xs, ys, ea, eb, Or.inl (Nat.le_refl _)⟩
  · intro j _ _ _ _ ⟨ea, eb⟩ ⟨T, x, z, k1, k2, k3, k4, k5⟩
    exact ⟨T, x, z, k1, k2, k3, k4 _ ea, k5 _ eb⟩
theorem walkZL {K : PySem.W.Frag} {a b : Addr} {xs ys : List V} (e : xs.length = ys.length) : Walk (Itz K a b) xs.length (fun H => SqL K H a xs ∧ SqL K H b ys) (YPair (fun i => xs[i]?) (fun i => ys[i]?)) := by
  constructor
  · intro j _ hj ⟨ea, eb⟩
    have hj2 : j < ys.length := e ▸ hj
    exact ⟨xs, ys, _, _, ea, eb, List.getElem?_eq_getElem hj, List.getElem?_eq_getElem hj2⟩
  · intro _ ⟨ea, eb⟩
    exact ⟨xs, ys, ea, eb, Or.inl (Nat.le_refl _)⟩
  · intro j _ _ _ _ ⟨ea, eb⟩ ⟨T, x, z, k1, k2, k3, k4, k5⟩
    exact ⟨T, x, z, k1, k2, k3, k4 _ ea, k5 _ eb⟩
/-- what is the same, up to n deep -/
inductive SameD (H : Hp) : Nat → V → V → Prop where
  | str (n : Nat) (x : Str) : SameD H (n + 1) (.str x) (.str x)
  | non (n : Nat) : SameD H (n + 1) .non .non
  | int (n : Nat) (i : Int) : SameD H (n + 1) (.int i) (.int i)
  | bl (n : Nat) (b : Bool) : SameD H (n + 1) (.bl b) (.bl b)
  | tup {n : Nat} {a b : Addr} {xs ys : List V} (ha : H a = some (.tup xs)) (hb : H b = some (.tup ys)) (hl : xs.length = ys.length) (hs : xs.length ≤ 1000000) (h : ∀ (i : Nat) (x y : V), xs[i]? = some x → ys[i]? = some y → SameD H n x y) : SameD H (n + 1) (.ref a) (.ref b)
  | lst {n : Nat} {a b : Addr} {xs ys : List V} (ha : H a = some (.lst xs)) (hb : H b = some (.lst ys)) (hl : xs.length = ys.length) (hs : xs.length ≤ 1000000) (h : ∀ (i : Nat) (x y : V), xs[i]? = some x → ys[i]? = some y → SameD H n x y) : SameD H (n + 1) (.ref a) (.ref b)
  | dct {n : Nat} {a b : Addr} {ts us : List (Str × Int)} (ha : H a = some (.dK (intK ts))) (hb : H b = some (.dK (intK us))) (ne : a ≠ b) (pm : ts.Perm us) (nd : (ts.map (·.1)).Nodup) (hl : ts.length < 64) : SameD H (n + 2) (.ref a) (.ref b)
theorem SameD.same {H H' : Hp} (s : Same H H') : ∀ {n : Nat} {x y : V}, SameD H n x y → SameD H' n x y
  | _, _, _, .str n x => .str n x
  | _, _, _, .non n => .non n
  | _, _, _, .int n i => .int n i
  | _, _, _, .bl n b => .bl n b
  | _, _, _, .tup ha hb hl hs h => .tup (s _ _ ha) (s _ _ hb) hl hs fun i x y hx hy => (h i x y hx hy).same s
  | _, _, _, .lst ha hb hl hs h => .lst (s _ _ ha) (s _ _ hb) hl hs fun i x y hx hy => (h i x y hx hy).same s
  | _, _, _, .dct ha hb ne pm nd hl => .dct (s _ _ ha) (s _ _ hb) ne pm nd hl
def spSame (n : Nat) : Sp := fun vs H Q _ => ∃ x y : V, vs = [x, y] ∧ SameD H n x y ∧ ∀ H', Same H H' → Q (.bl true) H'
theorem ok_same {f : Addr} (T : Txt P w K mg) (F : Stands K "_law_same" "_law_same" s__law_same [] f) (e : f = He.ga K "_law_same") : ∀ n : Nat, Callable P w K mg base (n + 1) f ["_law_found", "_law_due"] [] (spSame n)
  | 0 => by
    refine F.call0 sc__law_same (fun vs H Q E h => ?_) (fun cdv A outer s H vs Q E hr h => ?_) (fun _ _ _ _ _ _ us hl => match us, hl with | [_, _], _ => rfl)
    · obtain ⟨x, y, rfl, _⟩ := h; rfl
    · obtain ⟨x, y, rfl, h, _⟩ := h; cases h
  | n + 1 => by
    have c__law_same := ok_same T F e n
    rw [e] at c__law_same
    refine F.call0 sc__law_same (fun vs H Q E h => ?_) (fun cdv A outer s H vs Q E hr h => ?_) (fun _ _ _ _ _ _ us hl => match us, hl with | [_, _], _ => rfl)
    · obtain ⟨x, y, rfl, _⟩ := h; rfl
    obtain ⟨x, y, rfl, h, hQ⟩ := h
    refine ⟨_, (pss_cons (ps_if (pt_val (pe_callB call_isi (by rfl) T.b_isinstance (by decide +kernel) (pa_cons (pv 1) (pa_cons (pe_bltn (v := .ty "dict") (u := .type "dict") (by rfl) T.b_dict (by decide +kernel) rfl) pa_nil)))) (pss_cons (ps_if (PW.pt (pw_or (pt_not (pt_val (pe_callB call_isi (by rfl) T.b_isinstance (by decide +kernel) (pa_cons (pv 0) (pa_cons (pe_bltn (v := .ty "dict") (u := .type "dict") (by rfl) T.b_dict (by decide +kernel) rfl) pa_nil))))) (pw_or1 (pt_cmpR (RY.op_neV (Nat.lt_of_succ_lt (hu_of hr))) (pe_callB cr_sortedS (by rfl) T.b_sorted (by decide +kernel) (pa_cons (pe_callTy (call_list_dK rfl) (by rfl) T.b_list (by decide +kernel) (pa_cons (pv 0) pa_nil)) pa_nil)) (pe_callB cr_sortedS (by rfl) T.b_sorted (by decide +kernel) (pa_cons (pe_callTy (call_list_dK rfl) (by rfl) T.b_list (by decide +kernel) (pa_cons (pv 1) pa_nil)) pa_nil)) (nomark _))))) (pss_one (ps_ret pe_bl)) pss_nil)
      (pss_one (ps_ret (pe_callB (cr_all rfl) (by rfl) T.b_all (by decide +kernel) (pa_cons (pe_lock (pe_lc (own := [("_law_key", 2)]) (by rfl) sc__law_same.nd (pi_keys (pv 1)) (blkOk_by (own := [("_law_key", 2)]) (N := nm__law_same) (sc := defScope s__law_same) (by decide +kernel)) (fun _ _ _ _ _ => (pg_name (i := 2) sc__law_same.nd rfl (by first | exact Or.inl rfl | exact Or.inr rfl))) (fun _ _ _ _ _ => pts_nil) (fun _ _ _ _ _ => (pe_fn T.g__law_same c__law_same (hr.mono (by first | decide | exact Nat.le_refl _)) (by rfl) (pa_cons (pe_dget (hu_of hr) (pv 0) (pv 2) (fun _ _ => rfl)) (pa_cons (pe_dget (hu_of hr) (pv 1) (pv 2) (fun _ _ => rfl)) pa_nil)))))) pa_nil))))) pss_nil)
      (pss_cons (ps_if (pt_val (pe_callB call_isiT (by rfl) T.b_isinstance (by decide +kernel) (pa_cons (pv 1) (pa_cons (pe_tup (pa_cons (pe_bltn (v := .ty "list") (u := .type "list") (by rfl) T.b_list (by decide +kernel) rfl) (pa_cons (pe_bltn (v := .ty "tuple") (u := .type "tuple") (by rfl) T.b_tuple (by decide +kernel) rfl) pa_nil))) pa_nil)))) (pss_cons (ps_if (PW.pt (pw_or (pt_cmpR op_ne (pe_callB call_isi (by rfl) T.b_isinstance (by decide +kernel) (pa_cons (pv 0) (pa_cons (pe_bltn (v := .ty "list") (u := .type "list") (by rfl) T.b_list (by decide +kernel) rfl) pa_nil))) (pe_callB call_isi (by rfl) T.b_isinstance (by decide +kernel) (pa_cons (pv 1) (pa_cons (pe_bltn (v := .ty "list") (u := .type "list") (by rfl) T.b_list (by decide +kernel) rfl) pa_nil))) (nomark _)) (pw_or1 (pt_cmpR op_ne (pe_callB call_isi (by rfl) T.b_isinstance (by decide +kernel) (pa_cons (pv 0) (pa_cons (pe_bltn (v := .ty "tuple") (u := .type "tuple") (by rfl) T.b_tuple (by decide +kernel) rfl) pa_nil))) (pe_callB call_isi (by rfl) T.b_isinstance (by decide +kernel) (pa_cons (pv 1) (pa_cons (pe_bltn (v := .ty "tuple") (u := .type "tuple") (by rfl) T.b_tuple (by decide +kernel) rfl) pa_nil))) (nomark _))))) (pss_one (ps_ret pe_bl)) pss_nil)
      (pss_one (ps_ret (pe_and (pe_cmpR op_eq (pe_callB call_len (by rfl) T.b_len (by decide +kernel) (pa_cons (pv 0) pa_nil)) (pe_callB call_len (by rfl) T.b_len (by decide +kernel) (pa_cons (pv 1) pa_nil)) (nomark _)) (pe_one (pe_callB (cr_all rfl) (by rfl) T.b_all (by decide +kernel) (pa_cons (pe_lc (own := [("_law_one", 3), ("_law_other", 4)]) (by rfl) sc__law_same.nd (RZ.pi_zipA (by rfl) T.b_zip (pa_cons (pv 0) (pa_cons (pv 1) pa_nil))) (blkOk_by (own := [("_law_one", 3), ("_law_other", 4)]) (N := nm__law_same) (sc := defScope s__law_same) (by decide +kernel)) (fun _ _ _ _ _ => (RG.pg_tupK (K := K) (n := 2) (by rfl) (pgs_cons (pg_name (i := 3) sc__law_same.nd rfl (by first | exact Or.inl rfl | exact Or.inr rfl)) (pgs_cons (pg_name (i := 4) sc__law_same.nd rfl (by first | exact Or.inl rfl | exact Or.inr rfl)) pgs_nil)))) (fun _ _ _ _ _ => pts_nil) (fun _ _ _ _ _ => (pe_fn T.g__law_same c__law_same (hr.mono (by first | decide | exact Nat.le_refl _)) (by rfl) (pa_cons (pv 3) (pa_cons (pv 4) pa_nil))))) pa_nil))))))) pss_nil)
      (pss_cons (ps_if (pt_val (pe_callB call_isi (by rfl) T.b_isinstance (by decide +kernel) (pa_cons (pv 1) (pa_cons (pe_bltn (v := .ty "int") (u := .type "int") (by rfl) T.b_int (by decide +kernel) rfl) pa_nil)))) (pss_one (ps_ret (pe_and (pe_callB call_isi (by rfl) T.b_isinstance (by decide +kernel) (pa_cons (pv 0) (pa_cons (pe_bltn (v := .ty "int") (u := .type "int") (by rfl) T.b_int (by decide +kernel) rfl) pa_nil))) (pe_and (pe_cmpR op_eq (pe_callB call_isi (by rfl) T.b_isinstance (by decide +kernel) (pa_cons (pv 0) (pa_cons (pe_bltn (v := .ty "bool") (u := .type "bool") (by rfl) T.b_bool (by decide +kernel) rfl) pa_nil))) (pe_callB call_isi (by rfl) T.b_isinstance (by decide +kernel) (pa_cons (pv 1) (pa_cons (pe_bltn (v := .ty "bool") (u := .type "bool") (by rfl) T.b_bool (by decide +kernel) rfl) pa_nil))) (nomark _)) (pe_one (pe_cmpR op_eq (pv 0) (pv 1) (nomark _))))))) pss_nil)
      (pss_one (ps_ret (pe_and (pe_cmpR op_eq (pv 0) (pv 1) (nomark _)) (pe_one (pe_not (pe_callB call_isiT (by rfl) T.b_isinstance (by decide +kernel) (pa_cons (pv 0) (pa_cons (pe_tup (pa_cons (pe_bltn (v := .ty "int") (u := .type "int") (by rfl) T.b_int (by decide +kernel) rfl) (pa_cons (pe_bltn (v := .ty "list") (u := .type "list") (by rfl) T.b_list (by decide +kernel) rfl) (pa_cons (pe_bltn (v := .ty "tuple") (u := .type "tuple") (by rfl) T.b_tuple (by decide +kernel) rfl) (pa_cons (pe_bltn (v := .ty "dict") (u := .type "dict") (by rfl) T.b_dict (by decide +kernel) rfl) pa_nil))))) pa_nil))))))))))), ?_⟩
    walk_at "in"
    cases h with
    | str _ x =>
      walk_at "gi"
      refine iteT' (decide_eq_true rfl) ?_
      walk_at "gi"
      exact hQ _ (by walk_at "sm")
    | non =>
      walk_at "gi"
      exact hQ _ (by walk_at "sm")
    | int _ i =>
      walk_at "gi"
      rw [show decide (V.int i = V.int i) = true from decide_eq_true rfl]
      exact hQ _ (by walk_at "sm")
    | bl _ i =>
      walk_at "gi"
      rw [show decide (V.bl i = V.bl i) = true from decide_eq_true rfl]
      exact hQ _ (by walk_at "sm")
    | @tup _ a b xs ys ha hb hl hs h =>
      walk_at "gi"
      have el : decide (V.int xs.length = V.int ys.length) = true := by rw [hl]; exact decide_eq_true rfl
      walk_at "gi"
      rename_i T0 fT0
      have s0 : Same H (upd H T0 (.tup [.ty "list", .ty "tuple"])) := same_new fT0 _
      generalize upd H T0 (.tup [.ty "list", .ty "tuple"]) = H1 at s0 ⊢
      refine .inr ⟨SqT.of (s0 _ _ ha), SqT.of (s0 _ _ hb), fun D fD' => ?_⟩
      refine lc_it (walkZT (xs := xs) (ys := ys) hl) (fun i H' => Same H1 H' ∧ H' D = some (.lst ((List.replicate i true).map V.bl))) ⟨same_new fD' _, upd_same⟩ (fun i H' _ h => ⟨SqT.of (h.1 _ _ (s0 _ _ ha)), SqT.of (h.1 _ _ (s0 _ _ hb))⟩) (fun i v H2 H3 hi hP hv => ?_) (fun H2 hP => ?_)
      · obtain ⟨T, x, y, rfl, fT, rfl, hx, hy⟩ := hv
        obtain ⟨s2, d2⟩ := hP
        have s23 : Same H1 (upd H2 T (.tup [x, y])) := s2.trans (same_new fT _)
        have hd := (h i x y hx hy).same (s0.trans s23)
        have d3 : upd H2 T (.tup [x, y]) D = some (.lst ((List.replicate i true).map V.bl)) := same_new fT _ _ _ d2
        have q3 : upd H2 T (.tup [x, y]) T = some (.tup [x, y]) := upd_same
        clear fT
        generalize upd H2 T (.tup [x, y]) = H3 at hd d3 q3 s23
        walk_at "go"
        intro H4 s4
        walk_at "go"
        rw [upd_same, List.replicate_succ', List.map_append]; rfl
      · obtain ⟨s2, d2⟩ := hP
        refine ⟨D, List.replicate xs.length true, rfl, SqL.of d2, ?_⟩
        rw [show (List.replicate xs.length true).all id = true from by simp]
        exact hQ _ (s0.trans s2)
    | @lst _ a b xs ys ha hb hl hs h =>
      walk_at "gi"
      have el : decide (V.int xs.length = V.int ys.length) = true := by rw [hl]; exact decide_eq_true rfl
      walk_at "gi"
      rename_i T0 fT0
      have s0 : Same H (upd H T0 (.tup [.ty "list", .ty "tuple"])) := same_new fT0 _
      generalize upd H T0 (.tup [.ty "list", .ty "tuple"]) = H1 at s0 ⊢
      refine .inl ⟨SqL.of (s0 _ _ ha), SqL.of (s0 _ _ hb), fun D fD' => ?_⟩
      refine lc_it (walkZL (xs := xs) (ys := ys) hl) (fun i H' => Same H1 H' ∧ H' D = some (.lst ((List.replicate i true).map V.bl))) ⟨same_new fD' _, upd_same⟩ (fun i H' _ h => ⟨SqL.of (h.1 _ _ (s0 _ _ ha)), SqL.of (h.1 _ _ (s0 _ _ hb))⟩) (fun i v H2 H3 hi hP hv => ?_) (fun H2 hP => ?_)
      · obtain ⟨T, x, y, rfl, fT, rfl, hx, hy⟩ := hv
        obtain ⟨s2, d2⟩ := hP
        have s23 : Same H1 (upd H2 T (.tup [x, y])) := s2.trans (same_new fT _)
        have hd := (h i x y hx hy).same (s0.trans s23)
        have d3 : upd H2 T (.tup [x, y]) D = some (.lst ((List.replicate i true).map V.bl)) := same_new fT _ _ _ d2
        have q3 : upd H2 T (.tup [x, y]) T = some (.tup [x, y]) := upd_same
        clear fT
        generalize upd H2 T (.tup [x, y]) = H3 at hd d3 q3 s23
        walk_at "go"
        intro H4 s4
        walk_at "go"
        rw [upd_same, List.replicate_succ', List.map_append]; rfl
      · obtain ⟨s2, d2⟩ := hP
        refine ⟨D, List.replicate xs.length true, rfl, SqL.of d2, ?_⟩
        rw [show (List.replicate xs.length true).all id = true from by simp]
        exact hQ _ (s0.trans s2)
    | @dct n2 a b ts us ha hb ne pm nd hl =>
      have ek : ∀ ts : List (Str × Int), (intK ts).map (fun kv => kV kv.1) = (ts.map (·.1)).map V.str := fun ts => by show ((ts.map _).map _) = _; rw [List.map_map, List.map_map]; rfl
      have hl2 : us.length < 64 := by rw [← pm.length_eq]; exact hl
      walk_at "gi"
      rotate_left
      · exact ts.map (·.1)
      rename_i q fq
      rw [ek]
      refine ⟨SqL.of upd_same, by rw [List.length_map]; exact hl, fun ys p1 hp1 so1 fp1 => ?_⟩
      have s1 := (same_new fq (.lst ((ts.map (·.1)).map V.str))).trans (same_new fp1 (.lst (ys.map V.str)))
      have hp1' := upd_same (H := upd H q (.lst ((ts.map (·.1)).map V.str))) (a := p1) (o := .lst (ys.map V.str))
      generalize upd (upd H q (.lst ((ts.map (·.1)).map V.str))) p1 (.lst (ys.map V.str)) = H1 at s1 hp1' ⊢
      have hb1 := s1 _ _ hb
      clear fq fp1
      walk_at "gi"
      rotate_left
      · exact us.map (·.1)
      rename_i q2 fq2
      rw [ek]
      refine ⟨SqL.of upd_same, by rw [List.length_map]; exact hl2, fun zs p2 hp2 so2 fp2 => ?_⟩
      obtain rfl : ys = zs := RE.uniq (hp1.trans ((pm.map _).trans hp2.symm)) (RE.sorted_pw so1) (RE.sorted_pw so2)
      have s2 := (same_new fq2 (.lst ((us.map (·.1)).map V.str))).trans (same_new fp2 (.lst (ys.map V.str)))
      have hp2' := upd_same (H := upd H1 q2 (.lst ((us.map (·.1)).map V.str))) (a := p2) (o := .lst (ys.map V.str))
      generalize upd (upd H1 q2 (.lst ((us.map (·.1)).map V.str))) p2 (.lst (ys.map V.str)) = H2 at s2 hp2' ⊢
      have hp12 := s2 _ _ hp1'
      have s02 := s1.trans s2
      have ha2 := s02 _ _ ha
      have hb2 := s02 _ _ hb
      clear fq2 fp2 hb1
      have fl : (ys.map V.str).all RY.flatW = true := by rw [List.all_map]; exact List.all_eq_true.mpr fun _ _ => rfl
      refine ⟨p1, p2, ys.map V.str, rfl, rfl, SqL.of hp12, SqL.of hp2', fl, ?_⟩
      refine ⟨_, rfl, ?_⟩
      refine iteF' rfl ?_
      refine ⟨b, _, hb2, trivial, fun od => ?_⟩
      have hF := upd_same (H := H2) (a := b) (o := .frz od (.dK (intK us)))
      have haF : upd H2 b (.frz od (.dK (intK us))) a = some (.dK (intK ts)) := by rw [upd_ne ne]; exact ha2
      refine ⟨_, rfl, b, od, rfl, .inl ⟨_, hF, fun D hD => ?_⟩⟩
      refine lc_it walk_keys (fun i H' => Same (upd H2 b (.frz od (.dK (intK us)))) H' ∧ H' D = some (.lst ((List.replicate i true).map V.bl))) ⟨same_new hD _, upd_same⟩ (fun i H' _ h => h.1 _ _ hF) (fun i x H3 H4 hi hP hx => ?_) (fun H3 hP => ?_)
      · obtain ⟨rfl, kx, vx, hx, rfl⟩ := hx
        obtain ⟨s4, d4⟩ := hP
        have hF4 := s4 _ _ hF
        have haF4 := s4 _ _ haF
        have hx : (us.map fun e => ((Sum.inr e.1 : Key), V.int e.2))[i]? = some (kx, vx) := hx
        rw [List.getElem?_map] at hx
        obtain ⟨e, he0, hee⟩ := Option.map_eq_some_iff.mp hx
        cases hee
        have hi2 : i < us.length := (List.getElem?_eq_some_iff.mp he0).1
        have nd2 : (us.map (·.1)).Nodup := (pm.map _).nodup_iff.mp nd
        have lk2 := lk_mem nd2 (List.mem_of_getElem? he0)
        have hv := val_int ts e.1
        rw [lk_perm pm nd, lk2] at hv
        have hv2 := val_int us e.1
        rw [lk2] at hv2
        have g1 : DGet H4 a (.str e.1) (some (.int e.2)) := RW.dget_s haF4 hv
        have g2 : DGet H4 b (.str e.1) (some (.int e.2)) := RW.dget_sF hF4 hv2
        have hll : ((List.replicate i true).map V.bl).length < sizeLine := by rw [List.length_map, List.length_replicate, sizeLine_eq]; omega
        refine ⟨rfl, yes_if ?_⟩
        refine ⟨_, rfl, _, rfl, a, _, rfl, g1, _, rfl, _, rfl, b, _, rfl, g2, ?_⟩
        refine ⟨_, _, rfl, .int n2 e.2, fun H5 s5 => ?_⟩
        refine ⟨_, s5 _ _ d4, hll, fun c o hc => ?_, by rw [upd_same, List.replicate_succ', List.map_append]; rfl⟩
        rw [upd_ne (ne_of_none hc hD)]; exact (s4.trans s5) _ _ hc
      · obtain ⟨s4, d4⟩ := hP
        have nDb : D ≠ b := (upd_none hD).1
        refine ⟨s4 _ _ hF, D, List.replicate (intK us).length true, rfl, SqL.of (by rw [upd_ne nDb]; exact d4), ?_⟩
        rw [show (List.replicate (intK us).length true).all id = true from by simp]
        refine hQ _ fun c o hc => ?_
        by_cases z : c = b
        · subst z; rw [upd_same, ← hc]; exact hb.symm
        · rw [upd_ne z]; exact s4 _ _ (by rw [upd_ne z]; exact s02 _ _ hc)
end
end K17

set_option Elab.async false
set_option linter.all false
set_option maxRecDepth 100000
set_option maxHeartbeats 0

namespace K17
open PySem PySem.Spec PyProof.Rows L2 RC
section
variable {P : Program} {w : World} {K : PySem.W.Frag} {mg : Str → Option Value} {base : Heap}
/-! ### copies -/
theorem merge_nil : ∀ (more kvs : List (Key × V)), (∀ e ∈ more, ∀ g ∈ kvs, g.1 ≠ e.1) → (more.map (·.1)).Nodup → mergeK kvs more = kvs ++ more
  | [], kvs, _, _ => (List.append_nil _).symm
  | e :: r, kvs, h, nd => by
    have hp : putK kvs e.1 e.2 = kvs ++ [e] := by
      unfold putK
      have : kvs.any (fun p => decide (p.1 = e.1)) = false := by
        rw [List.any_eq_false]
        intro g hg
        rw [decide_eq_false (h e List.mem_cons_self g hg)]
        decide
      rw [this]; rfl
    show mergeK (putK kvs e.1 e.2) r = _
    obtain ⟨n1, n2⟩ := List.nodup_cons.mp nd
    rw [hp, merge_nil r (kvs ++ [e]) (fun g hg f hf => ?_) n2, List.append_assoc]; · rfl
    rcases List.mem_append.mp hf with k | k
    · exact h g (List.mem_cons_of_mem _ hg) f k
    · rw [List.mem_singleton.mp k]
      exact fun z => n1 (by show e.1 ∈ _; rw [z]; exact List.mem_map_of_mem hg)
theorem pr_snoc {α β : Type} {F : α → β → Prop} {a : α} {b : β} (h : F a b) : ∀ {xs : List α} {ys : List β}, Paired F xs ys → Paired F (xs ++ [a]) (ys ++ [b])
  | _, _, .nil => .cons h .nil
  | _, _, .cons r t => .cons r (pr_snoc h t)
theorem intK_keys (ts : List (Str × Int)) (nd : (ts.map (·.1)).Nodup) : ((intK ts).map (·.1)).Nodup := by
  have e : (intK ts).map (·.1) = (ts.map (·.1)).map (Sum.inr : Str → Key) := by show (ts.map _).map _ = _; rw [List.map_map, List.map_map]; rfl
  rw [e]
  exact List.Pairwise.map _ (fun a b h z => h (Sum.inr.inj z)) nd
theorem SameD.fl {H : Hp} {x : V} (h : Fl x) (n : Nat) : SameD H (n + 1) x x := by
  cases h with
  | int i => exact .int n i
  | str z => exact .str n z
/-- v is a copy of x, made since -/
def Cp (H H' : Hp) (x v : V) : Prop := ((∀ a, x ≠ .ref a) ∧ v = x) ∨ ∃ a b o, x = .ref a ∧ v = .ref b ∧ H a = some o ∧ H b = none ∧ H' b = some o
theorem Cp.sameD {H : Hp} {x : V} (th : Th H x) {v : V} (h : ((∀ a, x ≠ .ref a) ∧ v = x) ∨ ∃ a b o, x = .ref a ∧ v = .ref b ∧ a ≠ b ∧ H a = some o ∧ H b = some o) : SameD H 3 x v := by
  rcases h with ⟨h, rfl⟩ | ⟨a, b, o, rfl, rfl, ne, ha, hb⟩
  · cases th with
    | int i => exact .int 2 i
    | str z => exact .str 2 z
    | bl b => exact .bl 2 b
    | non => exact .non 2
    | lst h1 _ _ => exact absurd rfl (h _)
    | tup h1 _ _ => exact absurd rfl (h _)
    | dct h1 _ _ => exact absurd rfl (h _)
  · cases th with
    | lst h1 hf hl =>
      rw [h1] at ha; cases ha
      exact .lst h1 hb rfl (by omega) fun i x y hx hy => by rw [hx] at hy; cases hy; exact SameD.fl (hf x (List.mem_of_getElem? hx)) 1
    | tup h1 hf hl =>
      rw [h1] at ha; cases ha
      exact .tup h1 hb rfl (by omega) fun i x y hx hy => by rw [hx] at hy; cases hy; exact SameD.fl (hf x (List.mem_of_getElem? hx)) 1
    | dct h1 nd hl =>
      rw [h1] at ha; cases ha
      exact .dct h1 hb ne (List.Perm.refl _) nd (by omega)
/-- a copy, the same at every depth -/
def spCop (K : PySem.W.Frag) (n : Nat) : Sp := fun vs H Q _ => ∃ x : V, vs = [x] ∧ ((1 ≤ n ∧ Fl x ∧ Q x H) ∨ (2 ≤ n ∧ Th H x ∧ ∀ H' v, Same H H' → Cp H H' x v → Q v H'))
theorem take_more2 {α : Type} {xs : List α} {i : Nat} {x : α} (h : xs[i]? = some x) : xs.take (i + 1) = xs.take i ++ [x] := by rw [List.take_add_one, h]; rfl
theorem ok_cop {f : Addr} (T : Txt P w K mg) (F : Stands K "_law_copied" "_law_copied" s__law_copied [] f) (e : f = He.ga K "_law_copied") : ∀ n : Nat, Callable P w K mg base (n + 1) f ["_law_thing"] [] (spCop K n)
  | 0 => by
    refine F.call0 sc__law_copied (fun vs H Q E h => ?_) (fun cdv A outer s H vs Q E hr h => ?_) (fun _ _ _ _ _ _ us hl => match us, hl with | [_], _ => rfl)
    · obtain ⟨x, rfl, _⟩ := h; rfl
    · obtain ⟨x, rfl, ⟨h, _⟩ | ⟨h, _⟩⟩ := h <;> omega
  | n + 1 => by
    have c__law_copied := ok_cop T F e n
    rw [e] at c__law_copied
    refine F.call0 sc__law_copied (fun vs H Q E h => ?_) (fun cdv A outer s H vs Q E hr h => ?_) (fun _ _ _ _ _ _ us hl => match us, hl with | [_], _ => rfl)
    · obtain ⟨x, rfl, _⟩ := h; rfl
    refine ⟨_, (pss_cons (ps_if (pt_val (pe_callB call_isi (by rfl) T.b_isinstance (by decide +kernel) (pa_cons (pv 0) (pa_cons (pe_bltn (v := .ty "list") (u := .type "list") (by rfl) T.b_list (by decide +kernel) rfl) pa_nil)))) (pss_one (ps_ret (pe_lc (own := [("_law_part", 1)]) (by rfl) sc__law_copied.nd (pi_list (pv 0)) (blkOk_by (own := [("_law_part", 1)]) (N := nm__law_copied) (sc := defScope s__law_copied) (by decide +kernel)) (fun _ _ _ _ _ => (pg_name (i := 1) sc__law_copied.nd rfl (by first | exact Or.inl rfl | exact Or.inr rfl))) (fun _ _ _ _ _ => pts_nil) (fun _ _ _ _ _ => (pe_fn T.g__law_copied c__law_copied (hr.mono (by first | decide | exact Nat.le_refl _)) (by rfl) (pa_cons (pv 1) pa_nil)))))) pss_nil)
      (pss_cons (ps_if (pt_val (pe_callB call_isi (by rfl) T.b_isinstance (by decide +kernel) (pa_cons (pv 0) (pa_cons (pe_bltn (v := .ty "tuple") (u := .type "tuple") (by rfl) T.b_tuple (by decide +kernel) rfl) pa_nil)))) (pss_one (ps_ret (pe_callTy call_tuple_of (by rfl) T.b_tuple (by decide +kernel) (pa_cons (pe_lc (own := [("_law_part", 1)]) (by rfl) sc__law_copied.nd (pi_tup (pv 0)) (blkOk_by (own := [("_law_part", 1)]) (N := nm__law_copied) (sc := defScope s__law_copied) (by decide +kernel)) (fun _ _ _ _ _ => (pg_name (i := 1) sc__law_copied.nd rfl (by first | exact Or.inl rfl | exact Or.inr rfl))) (fun _ _ _ _ _ => pts_nil) (fun _ _ _ _ _ => (pe_fn T.g__law_copied c__law_copied (hr.mono (by first | decide | exact Nat.le_refl _)) (by rfl) (pa_cons (pv 1) pa_nil)))) pa_nil)))) pss_nil)
      (pss_one (ps_ret (pe_ifExp (pt_val (pe_callB call_isi (by rfl) T.b_isinstance (by decide +kernel) (pa_cons (pv 0) (pa_cons (pe_bltn (v := .ty "dict") (u := .type "dict") (by rfl) T.b_dict (by decide +kernel) rfl) pa_nil)))) (pe_callTy (call_dictP rfl) (by rfl) T.b_dict (by decide +kernel) (pa_cons (pe_lock (pe_lc (own := [("_law_key", 2)]) (by rfl) sc__law_copied.nd (pi_keys (pv 0)) (blkOk_by (own := [("_law_key", 2)]) (N := nm__law_copied) (sc := defScope s__law_copied) (by decide +kernel)) (fun _ _ _ _ _ => (pg_name (i := 2) sc__law_copied.nd rfl (by first | exact Or.inl rfl | exact Or.inr rfl))) (fun _ _ _ _ _ => pts_nil) (fun _ _ _ _ _ => (pe_tup (pa_cons (pv 2) (pa_cons (pe_fn T.g__law_copied c__law_copied (hr.mono (by first | decide | exact Nat.le_refl _)) (by rfl) (pa_cons (pe_dget (hu_of hr) (pv 0) (pv 2) (fun _ _ => rfl)) pa_nil)) pa_nil)))))) pa_nil)) (pv 0)))))), ?_⟩
    walk_at "in"
    obtain ⟨x, rfl, h⟩ := h
    rcases h with ⟨_, hx, hQ⟩ | ⟨hn, th, hQ⟩
    · cases hx with
      | int i => walk_at "go"; exact hQ
      | str z => walk_at "go"; exact hQ
    cases th with
    | int i => walk_at "go"; exact hQ _ _ (Same.refl H) (.inl ⟨(fun _ z => nomatch z), rfl⟩)
    | str z => walk_at "go"; exact hQ _ _ (Same.refl H) (.inl ⟨(fun _ z => nomatch z), rfl⟩)
    | bl b => walk_at "go"; exact hQ _ _ (Same.refl H) (.inl ⟨(fun _ z => nomatch z), rfl⟩)
    | non => walk_at "go"; exact hQ _ _ (Same.refl H) (.inl ⟨(fun _ z => nomatch z), rfl⟩)
    | @lst a xs ha hf hl =>
      walk_at "go"
      intro D hD
      refine lc_it (walk_list (xs := xs)) (fun i H' => Same H H' ∧ H' D = some (.lst (xs.take i))) ⟨same_new hD _, upd_same⟩ (fun i H' _ h => SqL.of (h.1 _ _ ha)) (fun i x H2 H3 hi hP hy => ?_) (fun H2 hP => ?_)
      · obtain ⟨rfl, hy⟩ := hy
        obtain ⟨s2, d2⟩ := hP
        have hm : x ∈ xs := List.mem_of_getElem? hy
        have hll : (xs.take i).length < sizeLine := by rw [List.length_take, sizeLine_eq]; omega
        refine ⟨rfl, yes_if ?_⟩
        refine ⟨_, rfl, x, rfl, .inl ⟨by omega, hf x hm, ?_⟩⟩
        refine ⟨_, d2, hll, fun c o hc => ?_, by rw [upd_same, take_more2 hy]⟩
        rw [upd_ne (ne_of_none hc hD)]; exact s2 _ _ hc
      · obtain ⟨s2, d2⟩ := hP
        rw [List.take_length] at d2
        exact hQ _ _ s2 (.inr ⟨a, D, _, rfl, rfl, ha, hD, d2⟩)
    | @tup a xs ha hf hl =>
      walk_at "go"
      intro D hD
      refine lc_it (walk_tup (xs := xs)) (fun i H' => Same H H' ∧ H' D = some (.lst (xs.take i))) ⟨same_new hD _, upd_same⟩ (fun i H' _ h => SqT.of (h.1 _ _ ha)) (fun i x H2 H3 hi hP hy => ?_) (fun H2 hP => ?_)
      · obtain ⟨rfl, hy⟩ := hy
        obtain ⟨s2, d2⟩ := hP
        have hm : x ∈ xs := List.mem_of_getElem? hy
        have hll : (xs.take i).length < sizeLine := by rw [List.length_take, sizeLine_eq]; omega
        refine ⟨rfl, yes_if ?_⟩
        refine ⟨_, rfl, x, rfl, .inl ⟨by omega, hf x hm, ?_⟩⟩
        refine ⟨_, d2, hll, fun c o hc => ?_, by rw [upd_same, take_more2 hy]⟩
        rw [upd_ne (ne_of_none hc hD)]; exact s2 _ _ hc
      · obtain ⟨s2, d2⟩ := hP
        rw [List.take_length] at d2
        refine ⟨D, xs, rfl, .inl ⟨SqL.of d2, fun t ht => ?_⟩⟩
        have s3 := s2.trans (same_new ht (.tup xs))
        exact hQ _ _ s3 (.inr ⟨a, t, _, rfl, rfl, ha, s2.free ht, upd_same⟩)
    | @dct a ts ha nd hl =>
      refine ⟨_, rfl, _, _, _, _, _, rfl, .ty _, .base (.dK ha), kit_ty (b := "list") (by decide +kernel), _, rfl, iteF ?_⟩
      refine ⟨_, rfl, _, _, _, _, _, rfl, .ty _, .base (.dK ha), kit_ty (b := "tuple") (by decide +kernel), _, rfl, iteF ?_⟩
      refine ⟨_, rfl, _, _, _, _, _, rfl, .ty _, .base (.dK ha), kit_ty (b := "dict") (by decide +kernel), _, rfl, iteT ?_⟩
      refine ⟨a, _, ha, trivial, fun od => ?_⟩
      have k0 := upd_same (H := H) (a := a) (o := .frz od (.dK (intK ts)))
      have back : ∀ H', Same (upd H a (.frz od (.dK (intK ts)))) H' → Same H (upd H' a (.dK (intK ts))) := fun H' s2 b o e => by
        by_cases c : b = a
        · rw [c, upd_same]; rw [c, ha] at e; exact e
        · rw [upd_ne c]; exact s2 _ _ (by rw [upd_ne c]; exact e)
      refine ⟨_, rfl, a, od, rfl, ?_⟩
      generalize upd H a (.frz od (.dK (intK ts))) = H0 at k0 back ⊢
      refine .inl ⟨_, k0, fun D hD => ?_⟩
      have nDa : D ≠ a := fun z => by rw [z, k0] at hD; cases hD
      refine lc_it walk_keys (fun i H' => Same H0 H' ∧ ∃ tps : List Addr, H' D = some (.lst (tps.map V.ref)) ∧ tps.length = i ∧ Paired (fun p kv => H' p = some (.tup [kV kv.1, kv.2])) tps (intK (ts.take i))) ⟨same_new hD _, [], upd_same, rfl, .nil⟩ (fun i H' _ h => h.1 _ _ k0) (fun i x H9 H2 hi hP hx => ?_) (fun H2 hP => ?_)
      · obtain ⟨rfl, kx, vx, hx, rfl⟩ := hx
        obtain ⟨s2, tps, d2, tl, hpr⟩ := hP
        have hx : (ts.map fun e => ((Sum.inr e.1 : Key), V.int e.2))[i]? = some (kx, vx) := hx
        rw [List.getElem?_map] at hx
        obtain ⟨e, he0, hee⟩ := Option.map_eq_some_iff.mp hx
        cases hee
        have hi2 : i < ts.length := (List.getElem?_eq_some_iff.mp he0).1
        have hv := val_int ts e.1
        rw [lk_mem nd (List.mem_of_getElem? he0)] at hv
        have etk2 : ts.take (i + 1) = ts.take i ++ [e] := take_more2 he0
        have hll : (tps.map V.ref).length < sizeLine := by rw [List.length_map, tl, sizeLine_eq]; omega
        refine ⟨rfl, yes_if ?_⟩
        refine ⟨_, rfl, _, rfl, _, rfl, a, _, rfl, RW.dget_sF (s2 _ _ k0) hv, .int e.2, rfl, .inl ⟨by omega, .int _, ?_⟩⟩
        refine ⟨by show 2 ≤ sizeLine; decide, fun q fq => ?_⟩
        have d3 := same_new fq (.tup [.str e.1, .int e.2]) _ _ d2
        refine ⟨_, d3, hll, ?_, tps ++ [q], ?_, by rw [List.length_append, tl]; rfl, ?_⟩
        · intro b o hb
          rw [upd_ne (ne_of_none hb hD)]; exact same_new fq _ _ _ (s2 _ _ hb)
        · rw [upd_same, List.map_append]; rfl
        · have nqD : q ≠ D := fun z => by rw [z, d2] at fq; cases fq
          rw [etk2]
          show Paired _ _ ((ts.take i ++ [e]).map _)
          rw [List.map_append]
          refine pr_snoc ?_ (Paired.mapP hpr fun p kv h => ?_)
          · rw [upd_ne nqD]; exact upd_same
          · rw [upd_ne (fun z => by rw [z, d2] at h; cases h)]; exact same_new fq _ _ _ h
      · obtain ⟨s2, tps, d2, tl, hpr⟩ := hP
        refine ⟨s2 _ _ k0, ?_⟩
        have b2 := back _ s2
        rw [show (intK ts).length = ts.length from List.length_map _, List.take_length] at hpr
        have d3 : upd H2 a (.dK (intK ts)) D = some (.lst (tps.map V.ref)) := by rw [upd_ne nDa]; exact d2
        refine ⟨D, tps, intK ts, rfl, SqL.of d3, Paired.mapP hpr fun p kv h => SqT.of (by rw [upd_ne (fun z => by rw [z, s2 _ _ k0] at h; cases h)]; exact h), fun p fp => ?_⟩
        rw [merge_nil _ [] (fun _ _ _ h => by cases h) (intK_keys _ nd), List.nil_append]
        have s3 := b2.trans (same_new fp (.dK (intK ts)))
        exact hQ _ _ s3 (.inr ⟨a, p, _, rfl, rfl, ha, b2.free fp, upd_same⟩)
end
end K17

set_option Elab.async false
set_option linter.all false
set_option maxRecDepth 100000
set_option maxHeartbeats 0

namespace K17
open PySem PySem.Spec PyProof.Rows L2 RC
section
variable {P : Program} {w : World} {K : PySem.W.Frag} {mg : Str → Option Value} {base : Heap}
/-! ### one of four things asked for its level -/
section
variable {H : Hp} {s l : Addr} {n : Nat} {S : YS} {a : Ro → Addr} {cs : List RS.Comp} {G : Hp}
end
theorem seq_of {a b : TS} {D : Ends} {σ : L2.St} {H : Hp} (Mid : L2.St → Hp → Prop) (hA : ∀ b' : TS, (∀ σ' H', Mid σ' H' → b' D σ' H') → tSeq a b' D σ H) (hB : ∀ σ' H', Mid σ' H' → b D σ' H') : tSeq a b D σ H := hA b hB
def spAsked (K : PySem.W.Frag) : Sp := fun vs H Q _ => ∃ (s l : Addr) (n : Nat) (S : YS) (a : Ro → Addr) (G : Hp) (cs : List RS.Comp) (way : Nat) (x : V), vs = [.int (way : Int), .ref (a .y), .ref (a .h), x] ∧ way < 4 ∧ RS.Wd H s l n (cY K S a :: RS.cG G :: cs) ∧ S.hm = true ∧ (∀ i, lvO S.U x = some i → i.natAbs < 2 ^ 63) ∧ Th G x ∧
  (∀ i, lvO S.U x = some i → ∀ H' S' a', Sm S S' → a' .y = a .y → a' .h = a .h → RS.Wd H' s l n (cY K S' a' :: RS.cG G :: cs) → Q (.int i) H') ∧
  (lvO S.U x = none → ∀ H' S' a' G' p, Sm S S' → a' .y = a .y → a' .h = a .h → Same G G' → G' p = some (.tup [.str "bad", x, .int 3, .int 4, .int 5]) → RS.Wd H' s l n (cY K S' a' :: RS.cG G' :: cs) → Q (.ref p) H')
theorem ok_asked {f : Addr} (T : Txt P w K mg) (F : Stands K "_law_asked" "_law_asked" s__law_asked [] f)
    (c_Yard_getLogger : Callable P w K mg base 4 (He.ma K (He.ga K "Yard") "getLogger") ["self", "name"] [] (spGetLog K))
    (c_Logger_setLevel : RQ.CallX P w K mg base 4 (He.ma K (He.ga K "Logger") "setLevel") ["self", "level"] [] (spSetLX K (He.ga K "Logger")))
    (c_NullHandler_setLevel : RQ.CallX P w K mg base 4 (He.ma K (He.ga K "NullHandler") "setLevel") ["self", "level"] [] (spSetLX K (CN K)))
    (c_Yard_disable : RQ.CallX P w K mg base 4 (He.ma K (He.ga K "Yard") "disable") ["self", "level"] [] (spDisX K))
    (c_Yard_make_record_d2 : RQ.CallX P w K mg base 5 (He.ma K (He.ga K "Yard") "make_record") ["self", "name", "level", "msg", "args", "extra"] [.ref (He.dflAt ("Yard", some "make_record") 0 K), .non] (spMakeX K))
    (c_Yard_bar : Callable P w K mg base 1 (He.ma K (He.ga K "Yard") "bar") ["self"] [] (spBar K)) (i_Yard_bar : RI.CallI P w K mg base 1 (He.ma K (He.ga K "Yard") "bar") ["self"] (spBar K)) : Callable P w K mg base 7 f ["_law_way", "_law_yard", "_law_handler", "_law_thing"] [] (spAsked K) := by
  refine F.call0 sc__law_asked (fun vs H Q E h => ?_) (fun cdv A outer s0 H vs Q E hr h => ?_) (fun _ _ _ _ _ _ us hl => match us, hl with | [_, _, _, _], _ => rfl)
  · obtain ⟨s, l, n, S, a, G, cs, way, x, rfl, _⟩ := h; rfl
  obtain ⟨s, l, n, S, a, G, cs, way, x, rfl, hway, W, hm, hb, th, hQ, hE⟩ := h
  generalize e1 : spGetLog K = S1 at c_Yard_getLogger
  generalize e2 : spSetLX K (He.ga K "Logger") = S2 at c_Logger_setLevel
  generalize e3 : spSetLX K (CN K) = S3 at c_NullHandler_setLevel
  generalize e4 : spDisX K = S4 at c_Yard_disable
  generalize e5 : spMakeX K = S5 at c_Yard_make_record_d2
  refine ⟨_, (pss_cons (ps_set (i := 4) sc__law_asked.nd rfl (by first | exact Or.inl rfl | exact Or.inr rfl) (pe_mt T.c_Yard T.m_Yard_getLogger c_Yard_getLogger (hr.mono (by first | decide | exact Nat.le_refl _)) (pv 1) (pa_cons pe_str pa_nil)))
      (pss_cons (ps_expr (RQ.pe_mtX takes_none5 T.c_Logger T.m_Logger_setLevel c_Logger_setLevel (hr.mono (by first | decide | exact Nat.le_refl _)) (pv 4) (pa_cons pe_int pa_nil)))
      (pss_cons (ps_expr (RQ.pe_mtX takes_none5 T.c_NullHandler T.m_NullHandler_setLevel c_NullHandler_setLevel (hr.mono (by first | decide | exact Nat.le_refl _)) (pv 2) (pa_cons pe_int pa_nil)))
      (pss_cons (ps_expr (RQ.pe_mtX takes_none5 T.c_Yard T.m_Yard_disable c_Yard_disable (hr.mono (by first | decide | exact Nat.le_refl _)) (pv 1) (pa_cons pe_int pa_nil)))
      (pss_cons (RQ.ps_tryA rfl rfl takes_none5 (fun W pn xe tk _ => (pss_cons (ps_if (pt_cmpR op_eq (pv 0) pe_int (nomark _)) (pss_one (ps_expr (RQ.pe_mtX tk T.c_Logger T.m_Logger_setLevel c_Logger_setLevel (hr.mono (by first | decide | exact Nat.le_refl _)) (pv 4) (pa_cons (pv 3) pa_nil)))) pss_nil)
      (pss_cons (ps_if (pt_cmpR op_eq (pv 0) pe_int (nomark _)) (pss_one (ps_expr (RQ.pe_mtX tk T.c_NullHandler T.m_NullHandler_setLevel c_NullHandler_setLevel (hr.mono (by first | decide | exact Nat.le_refl _)) (pv 2) (pa_cons (pv 3) pa_nil)))) pss_nil)
      (pss_cons (ps_if (pt_cmpR op_eq (pv 0) pe_int (nomark _)) (pss_one (ps_expr (RQ.pe_mtX tk T.c_Yard T.m_Yard_disable c_Yard_disable (hr.mono (by first | decide | exact Nat.le_refl _)) (pv 1) (pa_cons (pv 3) pa_nil)))) pss_nil)
      (pss_one (ps_if (pt_cmpR op_eq (pv 0) pe_int (nomark _)) (pss_one (ps_ret (pe_fldK (K := K) (RQ.pe_mtX tk T.c_Yard T.m_Yard_make_record c_Yard_make_record_d2 (hr.mono (by first | decide | exact Nat.le_refl _)) (pv 1) (pa_cons pe_str (pa_cons (pv 3) (pa_cons pe_str pa_nil)))) rfl))) pss_nil)))))) (RQ.HdA.named (i := 5) sc__law_asked.nd rfl rfl ⟨by rfl, by decide, .inl T.g_BadLevel⟩ (fun a oe cls dd pn hz hf => (pss_one (ps_ret (pe_tup (pa_cons pe_str (pa_cons (pe_xf T.x_BadLevel.xf T.x_BadLevel.no hz hf (pv 5)) (pa_cons (pe_fldK (K := K) (pv 4) rfl) (pa_cons (pe_fldK (K := K) (pv 2) rfl) (pa_cons (RI.pe_mtI0 (pv 1) T.c_Yard T.m_Yard_bar i_Yard_bar (RI.room_suite (hr.mono (by first | decide | exact Nat.le_refl _))) RI.held_of) pa_nil))))))))) RQ.HdA.nil))
      (pss_one (ps_ret (pe_ix ix_list (pe_lst (pa_cons (pe_fldK (K := K) (pv 4) rfl) (pa_cons (pe_fldK (K := K) (pv 2) rfl) (pa_cons (pe_mt0 T.c_Yard T.m_Yard_bar c_Yard_bar (hr.mono (by first | decide | exact Nat.le_refl _)) (pv 1)) pa_nil)))) (pv 0) (fun _ _ => rfl))))))))), ?_⟩
  walk_at "in"
  refine seq_of (fun σ' H' => ∃ S' a', RS.Wd H' s l n (cY K S' a' :: RS.cG G :: cs) ∧ S'.lgm = true ∧ Sm S S' ∧ a' .y = a .y ∧ a' .h = a .h ∧ σ' = [some (.int (way : Int)), some (.ref (a .y)), some (.ref (a .h)), some x, some (.ref (a' .lg)), none]) (fun b' kb => ?_) (fun σ' H1 hm1 => ?_)
  · have hy := (show YR K S a H from W.hd).y_
    walk_at "go"
    refine (?_ : S1 [.ref (a .y), .str "a"] H _ E0)
    rw [← e1]
    refine get_a W fun H' S' a' W' c m h1 h2 => ?_
    exact kb _ _ ⟨S', a', W', c, m, h1, h2, rfl⟩
  obtain ⟨S1', a1, W1, c1, m1, ay, ah, rfl⟩ := hm1
  have U1 : S1'.U = S.U := m1.U
  refine seq_of (fun σ' H' => RS.Wd H' s l n (cY K { S1' with lev := 3 } a1 :: RS.cG G :: cs) ∧ σ' = [some (.int (way : Int)), some (.ref (a .y)), some (.ref (a .h)), some x, some (.ref (a1 .lg)), none]) (fun b' kb => ?_) (fun σ' H2 hm2 => ?_)
  · have hg := (show YR K S1' a1 H1 from W1.hd).lg_ c1
    walk_at "go"
    refine (?_ : S2 [.ref (a1 .lg), .int 3] H1 _ E0)
    rw [← e2]
    refine set_lg W1 c1 (.int 3) (fun i hi H' W' => ?_) (fun z => nomatch z)
    cases hi
    exact kb _ _ ⟨W', rfl⟩
  obtain ⟨W2, rfl⟩ := hm2
  refine seq_of (fun σ' H' => RS.Wd H' s l n (cY K { S1' with lev := 3, hl := 4 } a1 :: RS.cG G :: cs) ∧ σ' = [some (.int (way : Int)), some (.ref (a .y)), some (.ref (a .h)), some x, some (.ref (a1 .lg)), none]) (fun b' kb => ?_) (fun σ' H3 hm3 => ?_)
  · have hg := (show YR K _ a1 H2 from W2.hd).h_ (m1.h.trans hm)
    rw [ah] at hg
    walk_at "go"
    refine (?_ : S3 [.ref (a .h), .int 4] H2 _ E0)
    rw [← e3, ← ah]
    refine set_h W2 (m1.h.trans hm) (.int 4) (fun i hi H' W' => ?_) (fun z => nomatch z)
    cases hi
    exact kb _ _ ⟨W', by rw [ah]⟩
  obtain ⟨W3, rfl⟩ := hm3
  refine seq_of (fun σ' H' => RS.Wd H' s l n (cY K { S1' with lev := 3, hl := 4, bar := 5 } a1 :: RS.cG G :: cs) ∧ σ' = [some (.int (way : Int)), some (.ref (a .y)), some (.ref (a .h)), some x, some (.ref (a1 .lg)), none]) (fun b' kb => ?_) (fun σ' H4 hm4 => ?_)
  · have hg := (show YR K _ a1 H3 from W3.hd).y_
    rw [ay] at hg
    walk_at "go"
    refine (?_ : S4 [.ref (a .y), .int 5] H3 _ E0)
    rw [← e4, ← ay]
    refine set_b W3 (.int 5) (fun i hi H' W' => ?_) (fun z => nomatch z)
    cases hi
    exact kb _ _ ⟨W', by rw [ay]⟩
  obtain ⟨W4, rfl⟩ := hm4
  have R4 : YR K _ a1 H4 := W4.hd
  have hy := R4.y_
  have hlg := R4.lg_ c1
  have hh := R4.h_ (m1.h.trans hm)
  rw [ay] at hy
  rw [ah] at hh
  have th4 : Th H4 x := th.same W4.g1
  have sm : ∀ lev hl bar, Sm S { S1' with lev := lev, hl := hl, bar := bar } := fun _ _ _ => ⟨m1.T, m1.U, m1.c, m1.h⟩
  have bad : ∀ (d : Addr), lvO S.U x = none → H4 d = none → ∀ (p : Addr), upd H4 d (.xd [("level", x)]) p = none → Q (.ref p) (upd (upd H4 d (.xd [("level", x)])) p (.tup [.str "bad", x, .int 3, .int 4, .int 5])) := fun d hn hd p hp => by
    have W5 := W4.same (same_new hd (.xd [("level", x)]))
    obtain ⟨W6, sg⟩ := W5.up1.lay (o := .tup [.str "bad", x, .int 3, .int 4, .int 5]) hp
    exact hE hn _ _ a1 _ p (sm 3 4 5) ay ah sg upd_same W6.up1
  have hU : ∀ {z : Option Int}, lvO S1'.U x = z → lvO S.U x = z := fun h => by rw [← U1]; exact h
  match way, hway with
  | 0, _ =>
    walk_at "go"
    refine (?_ : S2 [.ref (a1 .lg), x] H4 _ _)
    rw [← e2]
    refine set_lg W4 c1 th4 (fun i hi H' W' => ?_) (fun hn d hd => ?_)
    · have R' : YR K _ a1 H' := W'.hd
      have hy' := R'.y_
      have hlg' := R'.lg_ c1
      have hh' := R'.h_ (m1.h.trans hm)
      rw [ay] at hy'
      rw [ah] at hh'
      clear hy hlg hh
      skip
      walk_at "go"
      intro p fp
      refine ⟨_, rfl, p, _, 0, _, rfl, rfl, SqL.of upd_same, atI_nat rfl, ?_⟩
      exact hQ i (hU hi) _ _ a1 (sm i 4 5) ay ah (W'.same (same_new fp _))
    · skip
      refine ⟨true, T.e_BadLevel_BadLevel, fun _ q fq => ?_, fun z => nomatch z⟩
      have s5 := same_new hd (.xd [("level", x)])
      have hd5 := upd_same (H := H4) (a := d) (o := .xd [("level", x)])
      have bad := bad d (hU hn) hd
      generalize upd H4 d (.xd [("level", x)]) = H5 at s5 hd5 bad ⊢
      have hy' := s5 _ _ hy
      have hlg' := s5 _ _ hlg
      have hh' := s5 _ _ hh
      clear hy hlg hh
      walk_at "go"
      intro p fp
      exact bad p fp
  | 1, _ =>
    walk_at "go"
    refine (?_ : S3 [.ref (a .h), x] H4 _ _)
    rw [← e3, ← ah]
    refine set_h W4 (m1.h.trans hm) th4 (fun i hi H' W' => ?_) (fun hn d hd => ?_)
    · have R' : YR K _ a1 H' := W'.hd
      have hy' := R'.y_
      have hlg' := R'.lg_ c1
      have hh' := R'.h_ (m1.h.trans hm)
      rw [ay] at hy'
      rw [ah] at hh'
      clear hy hlg hh
      rw [ah]
      walk_at "go"
      intro p fp
      refine ⟨_, rfl, p, _, 1, _, rfl, rfl, SqL.of upd_same, atI_nat rfl, ?_⟩
      exact hQ i (hU hi) _ _ a1 (sm 3 i 5) ay ah (W'.same (same_new fp _))
    · rw [ah]
      refine ⟨true, T.e_BadLevel_BadLevel, fun _ q fq => ?_, fun z => nomatch z⟩
      have s5 := same_new hd (.xd [("level", x)])
      have hd5 := upd_same (H := H4) (a := d) (o := .xd [("level", x)])
      have bad := bad d (hU hn) hd
      generalize upd H4 d (.xd [("level", x)]) = H5 at s5 hd5 bad ⊢
      have hy' := s5 _ _ hy
      have hlg' := s5 _ _ hlg
      have hh' := s5 _ _ hh
      clear hy hlg hh
      walk_at "go"
      intro p fp
      exact bad p fp
  | 2, _ =>
    walk_at "go"
    refine (?_ : S4 [.ref (a .y), x] H4 _ _)
    rw [← e4, ← ay]
    refine set_b W4 th4 (fun i hi H' W' => ?_) (fun hn d hd => ?_)
    · have R' : YR K _ a1 H' := W'.hd
      have hy' := R'.y_
      have hlg' := R'.lg_ c1
      have hh' := R'.h_ (m1.h.trans hm)
      try rw [ay] at hy'
      rw [ah] at hh'
      clear hy hlg hh
      rw [ay]
      walk_at "go"
      intro p fp
      refine ⟨_, rfl, p, _, 2, _, rfl, rfl, SqL.of upd_same, atI_nat rfl, ?_⟩
      exact hQ i (hU hi) _ _ a1 (sm 3 4 i) ay ah (W'.same (same_new fp _))
    · rw [ay]
      refine ⟨true, T.e_BadLevel_BadLevel, fun _ q fq => ?_, fun z => nomatch z⟩
      have s5 := same_new hd (.xd [("level", x)])
      have hd5 := upd_same (H := H4) (a := d) (o := .xd [("level", x)])
      have bad := bad d (hU hn) hd
      generalize upd H4 d (.xd [("level", x)]) = H5 at s5 hd5 bad ⊢
      have hy' := s5 _ _ hy
      have hlg' := s5 _ _ hlg
      have hh' := s5 _ _ hh
      clear hy hlg hh
      walk_at "go"
      intro p fp
      exact bad p fp
  | 3, _ =>
    have hT := T.dt_Yard_make_record_0 H4
    walk_at "go"
    refine (?_ : S5 [.ref (a .y), .str "a", x, .str "m", .ref (He.dflAt ("Yard", some "make_record") 0 K), .non] H4 _ _)
    rw [← e5]
    have nz : NmsOk (txtK S1'.T) := fun k v hv => by
      unfold valV at hv
      obtain ⟨e, he, rfl⟩ := Option.map_eq_some_iff.mp hv
      obtain ⟨e2, _, rfl⟩ := List.mem_map.mp (List.mem_of_find?_eq_some he)
      exact ⟨_, rfl⟩
    refine ⟨a .y, _, a1 .na, a1 .nu, _, _, txtK S1'.T, S1'.U, "a", "m", x, S1'.clk, rfl, hT, hy, rfl, rfl, rfl, rfl, rfl, R4.na_, R4.nu_, nz, th4, fun i hi => hb i (hU hi), fun i hi H' r g e s5 hr0 hg0 he0 hr1 hg1 he1 => ?_, fun hn d hd => ?_⟩
    · obtain ⟨dx, hr1⟩ := hr1
      walk_at "go"
      exact hQ i (hU hi) _ _ a1 (sm 3 4 5) ay ah (W4.same s5)
    · refine ⟨true, T.e_BadLevel_BadLevel, fun _ q fq => ?_, fun z => nomatch z⟩
      have s5 := same_new hd (.xd [("level", x)])
      have hd5 := upd_same (H := H4) (a := d) (o := .xd [("level", x)])
      have bad := bad d (hU hn) hd
      generalize upd H4 d (.xd [("level", x)]) = H5 at s5 hd5 bad ⊢
      have hy' := s5 _ _ hy
      have hlg' := s5 _ _ hlg
      have hh' := s5 _ _ hh
      clear hy hlg hh
      walk_at "go"
      intro p fp
      exact bad p fp
end
end K17

set_option Elab.async false
set_option linter.all false
set_option maxRecDepth 100000
set_option maxHeartbeats 0

namespace K17
open PySem PySem.Spec PyProof.Rows L2 RC
section
variable {P : Program} {w : World} {K : PySem.W.Frag} {mg : Str → Option Value} {base : Heap}
/-! ### the law's tables -/
inductive Lo
  | wd | nb | t
def L1c (T : List (Int × Str)) (UL : List (Str × Int)) (bd : Lo → Addr) : Lo → Option HO
  | .wd => some (.dK (txtK T))
  | .nb => some (.dK (intK UL))
  | .t => some (.lst [.ref (bd .wd), .ref (bd .nb)])
def cT (T : List (Int × Str)) (UL : List (Str × Int)) (bd : Lo → Addr) : RS.Comp := ⟨Lo, L1c T UL bd, bd⟩
abbrev LR (T : List (Int × Str)) (UL : List (Str × Int)) (bd : Lo → Addr) (H : Hp) : Prop := RR.Rep (L1c T UL bd) bd H
def UL0 : List (Str × Int) := [("CRITICAL", 50), ("ERROR", 40), ("WARNING", 30), ("INFO", 20), ("DEBUG", 10), ("NOTSET", 0), ("FATAL", 50), ("WARN", 30)]
def spNum : Sp := fun vs H Q _ => ∃ (x : V) (t wd nb : Addr) (UL : List (Str × Int)), vs = [x, .ref t] ∧ Th H x ∧ H t = some (.lst [.ref wd, .ref nb]) ∧ H nb = some (.dK (intK UL)) ∧ (∀ i, lvO UL x = some i → Q (.int i) H) ∧ (lvO UL x = none → Q .non H)
theorem ok_num {f : Addr} (T : Txt P w K mg) (F : Stands K "_law_number" "_law_number" s__law_number [] f) : Callable P w K mg base 1 f ["_law_thing", "_law_tables"] [] spNum := by
  refine F.call0 sc__law_number (fun vs H Q E h => ?_) (fun cdv A outer s H vs Q E hr h => ?_) (fun _ _ _ _ _ _ us hl => match us, hl with | [_, _], _ => rfl)
  · obtain ⟨x, t, wd, nb, UL, rfl, _⟩ := h; rfl
  obtain ⟨x, t, wd, nb, UL, rfl, th, ht, hnb, hQ, hN⟩ := h
  refine ⟨_, (pss_cons (ps_if (pt_val (pe_callB call_isi (by rfl) T.b_isinstance (by decide +kernel) (pa_cons (pv 0) (pa_cons (pe_bltn (v := .ty "str") (u := .type "str") (by rfl) T.b_str (by decide +kernel) rfl) pa_nil)))) (pss_one (ps_ret (pe_dget1 (hu_of hr) (pe_ix ix_list (pv 1) pe_int (fun _ _ => rfl)) (pv 0) ⟨rfl, rfl, rfl, rfl⟩))) pss_nil)
      (pss_one (ps_ret (pe_ifExp (PW.pt (pw_and (pt_val (pe_callB call_isi (by rfl) T.b_isinstance (by decide +kernel) (pa_cons (pv 0) (pa_cons (pe_bltn (v := .ty "int") (u := .type "int") (by rfl) T.b_int (by decide +kernel) rfl) pa_nil)))) (pw_and1 (pt_not (pt_val (pe_callB call_isi (by rfl) T.b_isinstance (by decide +kernel) (pa_cons (pv 0) (pa_cons (pe_bltn (v := .ty "bool") (u := .type "bool") (by rfl) T.b_bool (by decide +kernel) rfl) pa_nil)))))))) (pv 0) pe_non)))), ?_⟩
  walk_at "in"
  cases th with
  | int i => walk_at "go"; exact hQ i rfl
  | str z =>
    walk_at "go"
    have hv := val_int UL z
    show Q ((valV (intK UL) (Sum.inr z)).getD V.non) H
    rw [hv]
    cases e : lkp UL z with
    | none => exact hN e
    | some i => exact hQ i e
  | bl b => walk_at "go"; exact hN rfl
  | non => walk_at "go"; exact hN rfl
  | lst h hf hl => walk_at "go"; exact hN rfl
  | tup h hf hl => walk_at "go"; exact hN rfl
  | dct h nd hl => walk_at "go"; exact hN rfl
def spRight (K : PySem.W.Frag) : Sp := fun vs H Q _ => ∃ (s : YS) (a : Ro → Addr) (UL : List (Str × Int)) (bd : Lo → Addr), vs = [.ref (a .y), .ref (bd .t)] ∧ YR K s a H ∧ LR s.T UL bd H ∧ s.U.Perm UL ∧ (s.U.map (·.1)).Nodup ∧ s.U.length < 64 ∧ s.T.length ≤ 900 ∧ (∀ e ∈ s.T, e.1.natAbs < 2 ^ 63) ∧ ∀ H', Same H H' → Q (.bl true) H'
theorem ok_right {f : Addr} (T : Txt P w K mg) (F : Stands K "_law_named_right" "_law_named_right" s__law_named_right [] f)
    (c_Yard_level_names : Callable P w K mg base 1 (He.ma K (He.ga K "Yard") "level_names") ["self"] [] (spNames K))
    (c_Yard_level_name : Callable P w K mg base 1 (He.ma K (He.ga K "Yard") "level_name") ["self", "level"] [] (spLevelName K))
    (c__law_same : Callable P w K mg base 5 (He.ga K "_law_same") ["_law_found", "_law_due"] [] (spSame 4)) : Callable P w K mg base 6 f ["_law_yard", "_law_tables"] [] (spRight K) := by
  refine F.call0 sc__law_named_right (fun vs H Q E h => ?_) (fun cdv A outer s0 H vs Q E hr h => ?_) (fun _ _ _ _ _ _ us hl => match us, hl with | [_, _], _ => rfl)
  · obtain ⟨s, a, UL, bd, rfl, _⟩ := h; rfl
  obtain ⟨s, a, UL, bd, rfl, R, L, pm, nd, hl, hlt, hb, hQ⟩ := h
  generalize e1 : spSame 4 = S1 at c__law_same
  generalize e2 : spLevelName K = S2 at c_Yard_level_name
  refine ⟨_, (pss_cons (ps_asg (pv 1) (RUl.pg_unL (K := K) (n := 2) (by rfl) (pgs_cons (pg_name (i := 2) sc__law_named_right.nd rfl (by first | exact Or.inl rfl | exact Or.inr rfl)) (pgs_cons (pg_name (i := 3) sc__law_named_right.nd rfl (by first | exact Or.inl rfl | exact Or.inr rfl)) pgs_nil))))
      (pss_cons (ps_for PassesOwn.never rfl (pi_range1 (by rfl) T.b_range (pa_cons pe_int pa_nil)) (pg_name (i := 4) sc__law_named_right.nd rfl (by first | exact Or.inl rfl | exact Or.inr rfl)) (pss_cons (ps_set (i := 5) sc__law_named_right.nd rfl (by first | exact Or.inl rfl | exact Or.inr rfl) (pe_mt0 T.c_Yard T.m_Yard_level_names c_Yard_level_names (hr.mono (by first | decide | exact Nat.le_refl _)) (pv 0)))
      (pss_cons (ps_if (pt_not (pt_val (pe_fn T.g__law_same c__law_same (hr.mono (by first | decide | exact Nat.le_refl _)) (by rfl) (pa_cons (pv 5) (pa_cons (pv 3) pa_nil))))) (pss_one (ps_ret pe_bl)) pss_nil)
      (pss_one (ps_expr (pe_dclear (pv 5)))))))
      (pss_cons (ps_set (i := 6) sc__law_named_right.nd rfl (by first | exact Or.inl rfl | exact Or.inr rfl) (pe_op op_cat (pe_callTy (call_list_dK rfl) (by rfl) T.b_list (by decide +kernel) (pa_cons (pv 2) pa_nil)) (pe_lst (pa_cons pe_int (pa_cons pe_int (pa_cons (pe_un un_neg pe_int) (pa_cons pe_int (pa_cons pe_int (pa_cons pe_int (pa_cons pe_int (pa_cons (pe_op op_pow pe_int pe_int) pa_nil)))))))))))
      (pss_one (ps_ret (pe_callB (cr_all rfl) (by rfl) T.b_all (by decide +kernel) (pa_cons (pe_lc (own := [("_law_number_here", 7)]) (by rfl) sc__law_named_right.nd (pi_list (pv 6)) (blkOk_by (own := [("_law_number_here", 7)]) (N := nm__law_named_right) (sc := defScope s__law_named_right) (by decide +kernel)) (fun _ _ _ _ _ => (pg_name (i := 7) sc__law_named_right.nd rfl (by first | exact Or.inl rfl | exact Or.inr rfl))) (fun _ _ _ _ _ => pts_nil) (fun _ _ _ _ _ => (pe_cmpR op_eq (pe_mt T.c_Yard T.m_Yard_level_name c_Yard_level_name (hr.mono (by first | decide | exact Nat.le_refl _)) (pv 0) (pa_cons (pv 7) pa_nil)) (pe_dget2 (hu_of hr) (pv 2) (pv 7) (pe_op op_add_str pe_str (pe_callTy call_str_int (by rfl) T.b_str (by decide +kernel) (pa_cons (pv 7) pa_nil))) ⟨rfl, rfl, rfl, rfl⟩) (nomark _)))) pa_nil))))))), ?_⟩
  walk_at "in"
  have hy := R.y_
  have hna := R.na_
  have hnu := R.nu_
  have ht : H (bd .t) = some (.lst [.ref (bd .wd), .ref (bd .nb)]) := L.at_ .t _ rfl
  have hwd : H (bd .wd) = some (.dK (txtK s.T)) := L.at_ .wd _ rfl
  have hnb : H (bd .nb) = some (.dK (intK UL)) := L.at_ .nb _ rfl
  refine ⟨_, rfl, bd .t, _, rfl, SqL.of ht, rfl, ?_⟩
  walk_at "go"
  refine for_it walk_range (fun i σ H' => Same H H' ∧ ∃ o4 o5, σ = [some (.ref (a .y)), some (.ref (bd .t)), some (.ref (bd .wd)), some (.ref (bd .nb)), o4, o5, none, none]) ⟨Same.refl H, _, _, rfl⟩ (fun _ _ _ _ _ => trivial) (fun i x σ H9 H1 hi hP hx => ?_) (fun σ H1 hP => ?_)
  · obtain ⟨rfl, rfl⟩ := hx
    obtain ⟨s1, o4, o5, rfl⟩ := hP
    have hy1 := s1 _ _ hy
    have hnu1 := s1 _ _ hnu
    have hnb1 := s1 _ _ hnb
    walk_at "go"
    intro d fd
    have s2 := s1.trans (same_new fd (.dK (intK s.U)))
    have hd2 := upd_same (H := H1) (a := d) (o := .dK (intK s.U))
    have fdH : H d = none := s1.free fd
    generalize upd H1 d (.dK (intK s.U)) = H2 at s2 hd2 ⊢
    have hnb2 := s2 _ _ hnb
    have nd2 : d ≠ bd .nb := fun z => by rw [z, hnb] at fdH; cases fdH
    walk_at "go"
    refine (?_ : S1 [.ref d, .ref (bd .nb)] H2 _ E0)
    rw [← e1]
    refine ⟨_, _, rfl, .dct hd2 hnb2 nd2 pm nd hl, fun H3 s3 => ?_⟩
    have hd3 := s3 _ _ hd2
    have s13 := s2.trans s3
    walk_at "go"
    have s4 : Same H (upd H3 d (.dK [])) := fun b o hb => by rw [upd_ne (ne_of_none hb fdH)]; exact s13 _ _ hb
    refine ⟨.inr (.inr (.inl ⟨rfl, .inl ⟨_, hd3⟩⟩)), d, _, rfl, rfl, hd3, ?_⟩
    exact ⟨s4, _, _, rfl⟩
  · obtain ⟨s1, o4, o5, rfl⟩ := hP
    have hwd1 := s1 _ _ hwd
    walk_at "go"
    intro q fq
    have ek : (txtK s.T).map (fun kv => kV kv.1) = s.T.map fun e => V.int e.1 := by show ((s.T.map _).map _) = _; rw [List.map_map]; rfl
    rw [ek]
    have s2 := s1.trans (same_new fq (.lst (s.T.map fun e => V.int e.1)))
    have hq2 := upd_same (H := H1) (a := q) (o := .lst (s.T.map fun e => V.int e.1))
    generalize upd H1 q (.lst (s.T.map fun e => V.int e.1)) = H2 at s2 hq2 ⊢
    clear fq
    walk_at "go"
    intro p fp
    have s3 := s2.trans (same_new fp (.lst [V.int 1, V.int 7, V.int (-1), V.int 25, V.int 26, V.int 49, V.int 51, V.int (10 ^ 18)]))
    have hp3 := upd_same (H := H2) (a := p) (o := .lst [V.int 1, V.int 7, V.int (-1), V.int 25, V.int 26, V.int 49, V.int 51, V.int (10 ^ 18)])
    have hq3 := (same_new fp (.lst [V.int 1, V.int 7, V.int (-1), V.int 25, V.int 26, V.int 49, V.int 51, V.int (10 ^ 18)])) _ _ hq2
    refine (?_ : (fun H3 : Hp => rCat (V.ref q) (V.ref p) H3 _) (upd H2 p (.lst [V.int 1, V.int 7, V.int (-1), V.int 25, V.int 26, V.int 49, V.int 51, V.int (10 ^ 18)])))
    generalize upd H2 p (.lst [V.int 1, V.int 7, V.int (-1), V.int 25, V.int 26, V.int 49, V.int 51, V.int (10 ^ 18)]) = H3 at s3 hp3 hq3 ⊢
    clear fp
    have hl3 : (s.T.map fun e => V.int e.1).length ≤ 900 := by rw [List.length_map]; exact hlt
    refine ⟨q, p, _, _, rfl, rfl, hq3, hp3, (by rw [sizeLine_eq]; show _ + 8 ≤ _; omega), fun c fc => ?_⟩
    have hxs : ∀ x ∈ (s.T.map fun e => V.int e.1) ++ [V.int 1, V.int 7, V.int (-1), V.int 25, V.int 26, V.int 49, V.int 51, V.int (10 ^ 18)], ∃ n : Int, x = .int n ∧ n.natAbs < 2 ^ 63 := fun x hx => by
      rcases List.mem_append.mp hx with h | h
      · obtain ⟨e, he, rfl⟩ := List.mem_map.mp h
        exact ⟨_, rfl, hb e he⟩
      · simp only [List.mem_cons, List.not_mem_nil, or_false] at h
        rcases h with rfl | rfl | rfl | rfl | rfl | rfl | rfl | rfl <;> exact ⟨_, rfl, by decide⟩
    have hxl : ((s.T.map fun e => V.int e.1) ++ [V.int 1, V.int 7, V.int (-1), V.int 25, V.int 26, V.int 49, V.int 51, V.int (10 ^ 18)]).length ≤ 908 := by rw [List.length_append]; show _ + 8 ≤ _; omega
    generalize (s.T.map fun e => V.int e.1) ++ [V.int 1, V.int 7, V.int (-1), V.int 25, V.int 26, V.int 49, V.int 51, V.int (10 ^ 18)] = xs at hxs hxl ⊢
    have s4 := s3.trans (same_new fc (.lst xs))
    have hc4 := upd_same (H := H3) (a := c) (o := .lst xs)
    generalize upd H3 c (.lst xs) = H4 at s4 hc4 ⊢
    clear fc hq3 hp3
    have nz : NmsOk (txtK s.T) := fun k v hv => by
      unfold valV at hv
      obtain ⟨e, he, rfl⟩ := Option.map_eq_some_iff.mp hv
      obtain ⟨e2, _, rfl⟩ := List.mem_map.mp (List.mem_of_find?_eq_some he)
      exact ⟨_, rfl⟩
    walk_at "go"
    intro D hD
    refine lc_it (walk_list (xs := xs)) (fun i H' => Same H4 H' ∧ H' D = some (.lst ((List.replicate i true).map V.bl))) ⟨same_new hD _, upd_same⟩ (fun i H' _ h => SqL.of (h.1 _ _ hc4)) (fun i x H9 H5 hi hP hx => ?_) (fun H5 hP => ?_)
    · obtain ⟨rfl, hx⟩ := hx
      obtain ⟨s5, d5⟩ := hP
      obtain ⟨n, rfl, hn⟩ := hxs x (List.mem_of_getElem? hx)
      have s45 := s4.trans s5
      have hy5 := s45 _ _ hy
      have hna5 := s45 _ _ hna
      have hwd5 := s45 _ _ hwd
      have hll : ((List.replicate i true).map V.bl).length < sizeLine := by rw [List.length_map, List.length_replicate, sizeLine_eq]; omega
      refine ⟨rfl, yes_if ?_⟩
      walk_at "go"
      refine (?_ : S2 [.ref (a .y), .int n] H5 _ E0)
      rw [← e2]
      refine ⟨a .y, _, a .na, _, txtK s.T, n, rfl, hy5, rfl, hna5, nz, hn, ?_⟩
      walk_at "go"
      have lk2 := RN.len_toString n
      have hl2 : n.natAbs.log2 < 63 := by
        by_cases c : n.natAbs = 0
        · rw [c]; decide
        · exact (Nat.log2_lt c).mpr hn
      have hvx := val_txt s.T n
      have gd := DGet.k (k := Sum.inl n) hwd5
      refine ⟨by omega, _, _, rfl, rfl, ?_, _, gd, ?_⟩
      · show 6 + (Str.ofString (toString n)).length ≤ sizeLine
        rw [sizeLine_eq]; omega
      have ev : V.str (lvName (txtK s.T) n) = (valV (txtK s.T) (Sum.inl n)).getD (V.str (("Level " : Str) ++ (Str.ofString (toString n)))) := by
        unfold lvName
        rw [hvx]
        cases lkp s.T n <;> rfl
      show rEq (V.str (lvName (txtK s.T) n)) ((valV (txtK s.T) (Sum.inl n)).getD (V.str (("Level " : Str) ++ (Str.ofString (toString n))))) H5 _
      rw [← ev]
      refine ⟨rfl, _, d5, hll, ?_, ?_⟩
      · exact fun b o hb => by rw [upd_ne (ne_of_none hb hD)]; exact s5 _ _ hb
      · rw [upd_same, decide_eq_true rfl, List.replicate_succ', List.map_append]; rfl
    · obtain ⟨s5, d5⟩ := hP
      refine ⟨D, List.replicate xs.length true, rfl, SqL.of d5, ?_⟩
      rw [show (List.replicate xs.length true).all id = true from by simp]
      exact hQ _ (s4.trans s5)
end
end K17

set_option Elab.async false
set_option linter.all false
set_option maxRecDepth 100000
set_option maxHeartbeats 0

namespace K17
open PySem PySem.Spec PyProof.Rows L2 RC
section
variable {P : Program} {w : World} {K : PySem.W.Frag} {mg : Str → Option Value} {base : Heap}
/-! ### the law's first tables -/
def U6 : List (Str × Int) := [("CRITICAL", 50), ("ERROR", 40), ("WARNING", 30), ("INFO", 20), ("DEBUG", 10), ("NOTSET", 0)]
def spFirst : Sp := fun vs H Q _ => vs = [] ∧ ∀ (H' : Hp) (bd : Lo → Addr), Same H H' → LR T0 UL0 bd H' → (∀ r, H (bd r) = none) → Q (.ref (bd .t)) H'
theorem u6_eq : U6 = T0.map fun e => (e.2, e.1) := rfl
theorem ok_first {f : Addr} (T : Txt P w K mg) (F : Stands K "_law_first_names" "_law_first_names" s__law_first_names [] f) : Callable P w K mg base 1 f [] [] spFirst := by
  refine F.call0 sc__law_first_names (fun vs H Q E h => ?_) (fun cdv A outer s0 H vs Q E hr h => ?_) (fun _ _ _ _ _ _ us hl => match us, hl with | [], _ => rfl)
  · obtain ⟨rfl, _⟩ := h; rfl
  obtain ⟨rfl, hQ⟩ := h
  refine ⟨_, (pss_cons (ps_set (i := 0) sc__law_first_names.nd rfl (by first | exact Or.inl rfl | exact Or.inr rfl) (pe_disp (pps_cons pe_int pe_str (pps_cons pe_int pe_str (pps_cons pe_int pe_str (pps_cons pe_int pe_str (pps_cons pe_int pe_str (pps_cons pe_int pe_str pps_nil)))))) (by rfl) (by rfl) (fun z => by cases z) (by decide)))
      (pss_cons (ps_set (i := 1) sc__law_first_names.nd rfl (by first | exact Or.inl rfl | exact Or.inr rfl) (pe_callTy (call_dictP rfl) (by rfl) T.b_dict (by decide +kernel) (pa_cons (pe_lock (pe_lc (own := [("_law_number_here", 2)]) (by rfl) sc__law_first_names.nd (pi_keys (pv 0)) (blkOk_by (own := [("_law_number_here", 2)]) (N := nm__law_first_names) (sc := defScope s__law_first_names) (by decide +kernel)) (fun _ _ _ _ _ => (pg_name (i := 2) sc__law_first_names.nd rfl (by first | exact Or.inl rfl | exact Or.inr rfl))) (fun _ _ _ _ _ => pts_nil) (fun _ _ _ _ _ => (pe_tup (pa_cons (pe_dget (hu_of hr) (pv 0) (pv 2) (fun _ _ => rfl)) (pa_cons (pv 2) pa_nil)))))) pa_nil)))
      (pss_cons (ps_expr (pe_bm PySem.F.plainAttrs_dict PySem.F.slot_dict_update PySem.F.type_dict_update RF.mt_updD (pv 1) (pa_cons (pe_disp (pps_cons pe_str pe_int (pps_cons pe_str pe_int pps_nil)) (by rfl) (by rfl) (fun z => by cases z) (by decide)) pa_nil)))
      (pss_one (ps_ret (pe_lst (pa_cons (pv 0) (pa_cons (pv 1) pa_nil)))))))), ?_⟩
  walk_at "in"
  refine seq_of (fun σ' H' => ∃ wd, H wd = none ∧ H' = upd H wd (.dK (txtK T0)) ∧ σ' = [some (.ref wd), none, none]) (fun b' kb => ?_) (fun σ' H1 hm => ?_)
  · walk_at "go"
    intro wd fwd
    refine And.intro upd_same ⟨txtK T0, rfl, by decide, ?_⟩
    rw [show mergeK [] (txtK T0) = txtK T0 from rfl, upd_upd]
    exact kb _ _ ⟨wd, fwd, rfl, rfl⟩
  obtain ⟨wd, fwd, rfl, rfl⟩ := hm
  have hwd := upd_same (H := H) (a := wd) (o := .dK (txtK T0))
  have s1 := same_new fwd (.dK (txtK T0))
  generalize upd H wd (.dK (txtK T0)) = H1 at hwd s1 ⊢
  refine seq_of (fun σ' H' => ∃ nb, H1 nb = none ∧ Same H1 H' ∧ H' nb = some (.dK (intK U6)) ∧ σ' = [some (.ref wd), some (.ref nb), none]) (fun b' kb => ?_) (fun σ' H2 hm => ?_)
  · have nd : (T0.map (·.1)).Nodup := by decide +kernel
    refine ⟨wd, _, hwd, trivial, fun od => ?_⟩
    have k0 := upd_same (H := H1) (a := wd) (o := .frz od (.dK (txtK T0)))
    have back : ∀ H', Same (upd H1 wd (.frz od (.dK (txtK T0)))) H' → Same H1 (upd H' wd (.dK (txtK T0))) := fun H' s2 b o e => by
      by_cases c : b = wd
      · rw [c, upd_same]; rw [c, hwd] at e; exact e
      · rw [upd_ne c]; exact s2 _ _ (by rw [upd_ne c]; exact e)
    refine ⟨_, rfl, wd, od, rfl, ?_⟩
    generalize upd H1 wd (.frz od (.dK (txtK T0))) = H0 at k0 back ⊢
    refine .inl ⟨_, k0, fun D hD => ?_⟩
    have nDa : D ≠ wd := fun z => by rw [z, k0] at hD; cases hD
    refine lc_it walk_keys (fun i H' => Same H0 H' ∧ ∃ tps : List Addr, H' D = some (.lst (tps.map V.ref)) ∧ tps.length = i ∧ Paired (fun p kv => H' p = some (.tup [kV kv.1, kv.2])) tps (intK (U6.take i))) ⟨same_new hD _, [], upd_same, rfl, .nil⟩ (fun i H' _ h => h.1 _ _ k0) (fun i x H9 H2 hi hP hx => ?_) (fun H2 hP => ?_)
    · obtain ⟨rfl, kx, vx, hx, rfl⟩ := hx
      obtain ⟨s2, tps, d2, tl, hpr⟩ := hP
      have hx : (T0.map fun e => ((Sum.inl e.1 : Key), V.str e.2))[i]? = some (kx, vx) := hx
      rw [List.getElem?_map] at hx
      obtain ⟨e, he0, hee⟩ := Option.map_eq_some_iff.mp hx
      cases hee
      have hi2 : i < T0.length := (List.getElem?_eq_some_iff.mp he0).1
      have hi2 : i < 6 := hi2
      have hv := val_txt T0 e.1
      rw [lk_mem nd (List.mem_of_getElem? he0)] at hv
      have he6 : U6[i]? = some (e.2, e.1) := by rw [u6_eq, List.getElem?_map, he0]; rfl
      have etk2 : U6.take (i + 1) = U6.take i ++ [(e.2, e.1)] := take_more2 he6
      have hll : (tps.map V.ref).length < sizeLine := by rw [List.length_map, tl, sizeLine_eq]; omega
      have gd : DGet H2 wd (.int e.1) (some (.str e.2)) := .inl ⟨_, Sum.inl e.1, .inr ⟨od, s2 _ _ k0⟩, rfl, hv.symm⟩
      refine ⟨rfl, yes_if ?_⟩
      refine ⟨_, rfl, _, rfl, wd, _, rfl, gd, _, rfl, ?_⟩
      refine ⟨by show 2 ≤ sizeLine; decide, fun q fq => ?_⟩
      have d3 := same_new fq (.tup [.str e.2, .int e.1]) _ _ d2
      refine ⟨_, d3, hll, ?_, tps ++ [q], ?_, by rw [List.length_append, tl]; rfl, ?_⟩
      · intro b o hb
        rw [upd_ne (ne_of_none hb hD)]; exact same_new fq _ _ _ (s2 _ _ hb)
      · rw [upd_same, List.map_append]; rfl
      · have nqD : q ≠ D := fun z => by rw [z, d2] at fq; cases fq
        rw [etk2]
        show Paired _ _ ((U6.take i ++ [(e.2, e.1)]).map _)
        rw [List.map_append]
        refine pr_snoc ?_ (Paired.mapP hpr fun p kv h => ?_)
        · rw [upd_ne nqD]; exact upd_same
        · rw [upd_ne (fun z => by rw [z, d2] at h; cases h)]; exact same_new fq _ _ _ h
    · obtain ⟨s2, tps, d2, tl, hpr⟩ := hP
      refine ⟨s2 _ _ k0, ?_⟩
      have b2 := back _ s2
      have hpr : Paired _ tps (intK U6) := hpr
      have d3 : upd H2 wd (.dK (txtK T0)) D = some (.lst (tps.map V.ref)) := by rw [upd_ne nDa]; exact d2
      refine ⟨D, tps, intK U6, rfl, SqL.of d3, Paired.mapP hpr fun p kv h => SqT.of (by rw [upd_ne (fun z => by rw [z, s2 _ _ k0] at h; cases h)]; exact h), fun p fp => ?_⟩
      rw [merge_nil _ [] (fun _ _ _ h => by cases h) (intK_keys _ (by decide +kernel)), List.nil_append]
      exact kb _ _ ⟨p, b2.free fp, b2.trans (same_new fp _), upd_same, rfl⟩
  obtain ⟨nb, fnb, s2, hnb, rfl⟩ := hm
  have hwd2 := s2 _ _ hwd
  have nwn : wd ≠ nb := fun z => by rw [← z, hwd] at fnb; cases fnb
  have fnb0 := s1.free fnb
  have s02 := s1.trans s2
  refine ⟨_, rfl, .inr (.inr (.inl ⟨rfl, .inl ⟨_, hnb⟩⟩)), ?_⟩
  intro m fm
  refine And.intro upd_same ⟨intK [("FATAL", 50), ("WARN", 30)], rfl, by decide, ?_⟩
  rw [show mergeK [] (intK [("FATAL", 50), ("WARN", 30)]) = intK [("FATAL", 50), ("WARN", 30)] from rfl, upd_upd]
  have s3 := same_new fm (.dK (intK [("FATAL", 50), ("WARN", 30)]))
  have hm3 := upd_same (H := H2) (a := m) (o := .dK (intK [("FATAL", 50), ("WARN", 30)]))
  generalize upd H2 m (.dK (intK [("FATAL", 50), ("WARN", 30)])) = H3 at s3 hm3 ⊢
  have nnm : nb ≠ m := fun z => by rw [← z, hnb] at fm; cases fm
  have eU : mergeK (intK U6) (intK [("FATAL", 50), ("WARN", 30)]) = intK UL0 := rfl
  refine ⟨nb, m, _, _, rfl, rfl, s3 _ _ hnb, .inl hm3, nnm, by show 6 + 2 ≤ _; rw [sizeLine_eq]; decide, by rw [eU]; show 8 ≤ _; rw [sizeLine_eq]; decide, ?_⟩
  rw [eU]
  walk_at "go"
  intro t ft
  have s4 : Same H (upd H3 nb (.dK (intK UL0))) := fun b o hb => by rw [upd_ne (ne_of_none hb fnb0)]; exact (s02.trans s3) _ _ hb
  have wd4 : upd H3 nb (.dK (intK UL0)) wd = some (.dK (txtK T0)) := by rw [upd_ne nwn]; exact s3 _ _ hwd2
  have nb4 := upd_same (H := H3) (a := nb) (o := .dK (intK UL0))
  generalize upd H3 nb (.dK (intK UL0)) = H4 at s4 wd4 nb4 ft ⊢
  have s5 := same_new ft (.lst [.ref wd, .ref nb])
  have t5 := upd_same (H := H4) (a := t) (o := .lst [.ref wd, .ref nb])
  have ft0 := s4.free ft
  have ntw : t ≠ wd := fun z => by rw [z, wd4] at ft; cases ft
  have ntn : t ≠ nb := fun z => by rw [z, nb4] at ft; cases ft
  refine hQ _ (fun r => match r with | .wd => wd | .nb => nb | .t => t) (s4.trans s5) ⟨fun r o e => ?_, fun r r' o o' e e' z => ?_⟩ (fun r => ?_)
  · cases r with
    | wd => cases e; exact s5 _ _ wd4
    | nb => cases e; exact s5 _ _ nb4
    | t => cases e; exact t5
  · cases r <;> cases r' <;> first | rfl | (exact absurd z nwn) | (exact absurd z.symm nwn) | (exact absurd z ntw) | (exact absurd z.symm ntw) | (exact absurd z ntn) | (exact absurd z.symm ntn)
  · cases r with
    | wd => exact fwd
    | nb => exact fnb0
    | t => exact ft0
end
end K17

set_option Elab.async false
set_option linter.all false
set_option maxRecDepth 100000
set_option maxHeartbeats 0
namespace K17
open PySem PySem.Spec PyProof.Rows L2 RC
section
variable {P : Program} {w : World} {K : PySem.W.Frag} {mg : Str → Option Value} {base : Heap}
/-! ### both yards and the law's tables of them -/
def upB {α : Type} (f : Bool → α) (b : Bool) (v : α) : Bool → α := fun c => if c = b then v else f c
theorem upB_at {α : Type} (f : Bool → α) (b : Bool) (v : α) : upB f b v b = v := if_pos rfl
theorem upB_ne {α : Type} (f : Bool → α) (b : Bool) (v : α) : upB f b v (!b) = f (!b) := if_neg (by cases b <;> decide)
/-- both yards: S their states, UL the law's numbers of names -/
structure BW where
  S : Bool → YS
  UL : Bool → List (Str × Int)
  a : Bool → Ro → Addr
  bd : Bool → Lo → Addr
def BW.cs (K : PySem.W.Frag) (B : BW) (b : Bool) : List RS.Comp := [cY K (B.S b) (B.a b), cT (B.S b).T (B.UL b) (B.bd b)]
abbrev WB (K : PySem.W.Frag) (H : Hp) (s l : Addr) (n : Nat) (B : BW) (G : Hp) (b : Bool) : Prop := RS.Wd H s l n (B.cs K b ++ (B.cs K (!b) ++ [RS.cG G]))
structure SOk (s : YS) (UL : List (Str × Int)) (c : Nat) : Prop where
  hm : s.hm = true
  pm : s.U.Perm UL
  nd : (s.U.map (·.1)).Nodup
  ul : s.U.length ≤ 8 + c
  tl : s.T.length ≤ 6 + c
  ub : ∀ e ∈ s.U, e.2.natAbs < 2 ^ 63
  tb : ∀ e ∈ s.T, e.1.natAbs < 2 ^ 63
theorem SOk.mono {s : YS} {UL : List (Str × Int)} {c d : Nat} (h : SOk s UL c) (hd : c ≤ d) : SOk s UL d := { h with ul := by have := h.ul; omega, tl := by have := h.tl; omega }
theorem SOk.sm {s s' : YS} {UL : List (Str × Int)} {c : Nat} (h : SOk s UL c) (m : Sm s s') : SOk s' UL c := ⟨m.h.trans h.hm, by rw [m.U]; exact h.pm, by rw [m.U]; exact h.nd, by rw [m.U]; exact h.ul, by rw [m.T]; exact h.tl, by rw [m.U]; exact h.ub, by rw [m.T]; exact h.tb⟩
theorem SOk.put {s : YS} {UL : List (Str × Int)} {c : Nat} (h : SOk s UL c) {i : Int} (hi : i.natAbs < 2 ^ 63) (z : Str) : SOk { s with T := putL s.T i z, U := putL s.U z i } (putL UL z i) (c + 1) :=
  ⟨h.hm, putL_perm h.pm z i, putL_nd h.nd z i, Nat.le_trans (putL_length s.U z i) (by have := h.ul; omega), Nat.le_trans (putL_length s.T i z) (by have := h.tl; omega), putL_all h.ub hi, putL_all h.tb hi⟩
theorem SOk.lv {s : YS} {UL : List (Str × Int)} {c : Nat} (h : SOk s UL c) {z : Str} {i : Int} (e : lkp s.U z = some i) : i.natAbs < 2 ^ 63 := h.ub (z, i) (mem_lk e)
section
variable {H : Hp} {s l : Addr} {n : Nat} {B : BW} {G : Hp} {b : Bool}
theorem WB.swap (W : WB K H s l n B G b) : WB K H s l n B G (!b) := by
  refine RS.Wd.perm W ?_
  rw [Bool.not_not]
  rw [← List.append_assoc, ← List.append_assoc]
  exact (List.perm_append_comm).append_right _
theorem WB.to (W : WB K H s l n B G b) (c : Bool) : WB K H s l n B G c := by
  by_cases h : c = b
  · rw [h]; exact W
  · have : c = !b := by cases c <;> cases b <;> first | rfl | exact absurd rfl h
    rw [this]; exact W.swap
theorem WB.y (W : WB K H s l n B G b) (c : Bool) : YR K (B.S c) (B.a c) H := (W.to c).rep (cY K (B.S c) (B.a c)) (by unfold BW.cs; simp)
theorem WB.t (W : WB K H s l n B G b) (c : Bool) : LR (B.S c).T (B.UL c) (B.bd c) H := (W.to c).rep (cT (B.S c).T (B.UL c) (B.bd c)) (by unfold BW.cs; simp)
theorem WB.g (W : WB K H s l n B G b) : Same G H := RS.Wd.st W (by simp)
theorem WB.lay (W : WB K H s l n B G b) {p : Addr} {o : HO} (hp : H p = none) : WB K (upd H p o) s l n B (upd G p o) b ∧ Same G (upd G p o) := by
  have e : ∀ G : Hp, (RS.cG G :: (B.cs K b ++ B.cs K (!b))).Perm (B.cs K b ++ (B.cs K (!b) ++ [RS.cG G])) := fun G => by
    rw [← List.append_assoc]
    exact (List.perm_append_singleton _ _).symm
  obtain ⟨W2, sg⟩ := RS.Wd.lay (RS.Wd.perm W (e G)) (o := o) hp
  exact ⟨RS.Wd.perm W2 (e _).symm, sg⟩
end
theorem LR.putT {T : List (Int × Str)} {UL : List (Str × Int)} {bd : Lo → Addr} {H : Hp} (L : LR T UL bd H) (T' : List (Int × Str)) : LR T' UL bd (upd H (bd .wd) (.dK (txtK T'))) ∧ RR.Mv (L1c T UL bd) bd H (L1c T' UL bd) bd (upd H (bd .wd) (.dK (txtK T'))) :=
  RR.Rep.set L (M' := L1c T' UL bd) .wd rfl rfl (fun r hr => by
    cases r with
    | wd => exact absurd rfl hr
    | _ => rfl)
theorem LR.putU {T : List (Int × Str)} {UL : List (Str × Int)} {bd : Lo → Addr} {H : Hp} (L : LR T UL bd H) (U' : List (Str × Int)) : LR T U' bd (upd H (bd .nb) (.dK (intK U'))) ∧ RR.Mv (L1c T UL bd) bd H (L1c T U' bd) bd (upd H (bd .nb) (.dK (intK U'))) :=
  RR.Rep.set L (M' := L1c T U' bd) .nb rfl rfl (fun r hr => by
    cases r with
    | nb => exact absurd rfl hr
    | _ => rfl)
/-- both of the law's tables changed -/
theorem lput {H : Hp} {s l : Addr} {n : Nat} {S : YS} {a : Ro → Addr} {T : List (Int × Str)} {UL : List (Str × Int)} {bd : Lo → Addr} {cs : List RS.Comp} (W : RS.Wd H s l n (cY K S a :: cT T UL bd :: cs)) (hl1 : T.length ≤ 900) (hl2 : UL.length ≤ 900) (i : Int) (z : Str) :
    ∃ H1, DPut H (bd .wd) (.int i) (.str z) H1 ∧ DPut H1 (bd .nb) (.str z) (.int i) (upd H1 (bd .nb) (.dK (intK (putL UL z i)))) ∧ RS.Wd (upd H1 (bd .nb) (.dK (intK (putL UL z i)))) s l n (cY K S a :: cT (putL T i z) (putL UL z i) bd :: cs) := by
  have L : LR T UL bd H := W.up1.hd
  obtain ⟨L1, M1⟩ := LR.putT L (putL T i z)
  obtain ⟨L2, M2⟩ := LR.putU L1 (putL UL z i)
  have hwd : H (bd .wd) = some (.dK (txtK T)) := L.at_ .wd _ rfl
  have hnb : upd H (bd .wd) (.dK (txtK (putL T i z))) (bd .nb) = some (.dK (intK UL)) := L1.at_ .nb _ rfl
  have l1 : (txtK T).length < sizeLine := by rw [sizeLine_eq]; show (T.map _).length < _; rw [List.length_map]; omega
  have l2 : (intK UL).length < sizeLine := by rw [sizeLine_eq]; show (UL.map _).length < _; rw [List.length_map]; omega
  refine ⟨upd H (bd .wd) (.dK (txtK (putL T i z))), ?_, ?_, ?_⟩
  · have d := DPut.k (k := Sum.inl i) (v := V.str z) hwd l1
    rw [put_txt] at d; exact d
  · have d := DPut.k (k := Sum.inr z) (v := V.int i) hnb l2
    rw [put_int] at d; exact d
  · exact (W.up1.mv (c' := cT (putL T i z) (putL UL z i) bd) L2 (M1.trans M2)).up1
def BW.put (B : BW) (b : Bool) (s : YS) (UL : List (Str × Int)) (a : Ro → Addr) : BW := ⟨upB B.S b s, upB B.UL b UL, upB B.a b a, B.bd⟩
theorem BW.put_cs (K : PySem.W.Frag) (B : BW) (b : Bool) (s : YS) (UL : List (Str × Int)) (a : Ro → Addr) : (B.put b s UL a).cs K b = [cY K s a, cT s.T UL (B.bd b)] := by
  unfold BW.cs BW.put
  simp only [upB_at]
theorem BW.put_ne (K : PySem.W.Frag) (B : BW) (b : Bool) (s : YS) (UL : List (Str × Int)) (a : Ro → Addr) : (B.put b s UL a).cs K (!b) = B.cs K (!b) := by
  unfold BW.cs BW.put
  simp only [upB_ne]
/-- what the turns keep -/
structure TI (K : PySem.W.Frag) (yy hh tt : Bool → Addr) (YL TL HL s l : Addr) (c n : Nat) (B : BW) (G H : Hp) : Prop where
  W : WB K H s l n B G true
  ok : ∀ b, SOk (B.S b) (B.UL b) c
  ey : ∀ b, B.a b .y = yy b
  eh : ∀ b, B.a b .h = hh b
  et : ∀ b, B.bd b .t = tt b
  gy : G YL = some (.lst [.ref (yy true), .ref (yy false)])
  gt : G TL = some (.lst [.ref (tt true), .ref (tt false)])
  gh : G HL = some (.lst [.ref (hh true), .ref (hh false)])
section
variable {yy hh tt : Bool → Addr} {YL TL HL s l : Addr} {c n k : Nat} {B : BW} {G G' H H' : Hp}
theorem TI.same (I : TI K yy hh tt YL TL HL s l c n B G H) (e : Same H H') : TI K yy hh tt YL TL HL s l c n B G H' := { I with W := RS.Wd.same I.W e }
theorem TI.old (I : TI K yy hh tt YL TL HL s l c n B G H) (e : Old s l H H') (st : Stm H' s l k) : TI K yy hh tt YL TL HL s l c k B G H' := { I with W := RS.Wd.old I.W e st }
theorem TI.mono (I : TI K yy hh tt YL TL HL s l c n B G H) {d : Nat} (h : c ≤ d) : TI K yy hh tt YL TL HL s l d n B G H := { I with ok := fun b => (I.ok b).mono h }
theorem TI.wb (I : TI K yy hh tt YL TL HL s l c n B G H) (b : Bool) (W : WB K H' s l k B G b) : TI K yy hh tt YL TL HL s l c k B G H' := { I with W := W.to true }
theorem TI.lay (I : TI K yy hh tt YL TL HL s l c n B G H) {p : Addr} {o : HO} (hp : H p = none) : TI K yy hh tt YL TL HL s l c n B (upd G p o) (upd H p o) ∧ Same G (upd G p o) := by
  obtain ⟨W2, sg⟩ := I.W.lay (o := o) hp
  exact ⟨{ I with W := W2, gy := sg _ _ I.gy, gt := sg _ _ I.gt, gh := sg _ _ I.gh }, sg⟩
theorem TI.layS (I : TI K yy hh tt YL TL HL s l c n B G H) (e : Same H H') {p : Addr} {o : HO} (hp : H p = none) (h : H' p = some o) : TI K yy hh tt YL TL HL s l c n B (upd G p o) H' ∧ Same G (upd G p o) := by
  have e2 : ∀ G : Hp, (RS.cG G :: (B.cs K true ++ B.cs K (!true))).Perm (B.cs K true ++ (B.cs K (!true) ++ [RS.cG G])) := fun G => by
    rw [← List.append_assoc]
    exact (List.perm_append_singleton _ _).symm
  obtain ⟨W2, sg⟩ := RS.Wd.layS (RS.Wd.perm I.W (e2 G)) e hp h
  exact ⟨{ I with W := RS.Wd.perm W2 (e2 _).symm, gy := sg _ _ I.gy, gt := sg _ _ I.gt, gh := sg _ _ I.gh }, sg⟩
theorem TI.put (I : TI K yy hh tt YL TL HL s l c n B G H) (b : Bool) {S : YS} {UL : List (Str × Int)} {a : Ro → Addr} {d : Nat} (W : RS.Wd H' s l k ([cY K S a, cT S.T UL (B.bd b)] ++ (B.cs K (!b) ++ [RS.cG G']))) (sg : Same G G') (hk : SOk S UL d) (hd : c ≤ d) (h1 : a .y = yy b) (h2 : a .h = hh b) :
    TI K yy hh tt YL TL HL s l d k (B.put b S UL a) G' H' := by
  have W2 : WB K H' s l k (B.put b S UL a) G' b := by
    unfold WB
    rw [BW.put_cs, BW.put_ne]; exact W
  have key : ∀ c, c = b ∨ c = !b := fun c => by cases c <;> cases b <;> simp
  refine ⟨W2.to true, fun c => ?_, fun c => ?_, fun c => ?_, I.et, sg _ _ I.gy, sg _ _ I.gt, sg _ _ I.gh⟩
  · rcases key c with rfl | rfl
    · show SOk (upB B.S c S c) (upB B.UL c UL c) d
      rw [upB_at, upB_at]; exact hk
    · show SOk (upB B.S b S (!b)) (upB B.UL b UL (!b)) d
      rw [upB_ne, upB_ne]; exact (I.ok _).mono hd
  · rcases key c with rfl | rfl
    · show upB B.a c a c .y = _
      rw [upB_at]; exact h1
    · show upB B.a b a (!b) .y = _
      rw [upB_ne]; exact I.ey _
  · rcases key c with rfl | rfl
    · show upB B.a c a c .h = _
      rw [upB_at]; exact h2
    · show upB B.a b a (!b) .h = _
      rw [upB_ne]; exact I.eh _
end
end
end K17

set_option Elab.async false
set_option linter.all false
set_option maxRecDepth 100000
set_option maxHeartbeats 0

namespace K17
open PySem PySem.Spec PyProof.Rows L2 RC
section
variable {P : Program} {w : World} {K : PySem.W.Frag} {mg : Str → Option Value} {base : Heap}
/-! ### a turn -/
def bodyFor : Stmt → List Stmt
  | .For _ _ b _ _ => b
  | _ => []
abbrev b_turn : List Stmt := bodyFor ((defBody s_law).getD 3 (.Pass ⟨0, 0, 0, 0⟩))
abbrev sgA (a s YL TL HL : Addr) : L2.St := [some (.ref a), some (.ref s), some (.ref YL), some (.ref TL), some (.ref HL)]
structure WI (K : PySem.W.Frag) (yy hh tt : Bool → Addr) (YL TL HL s l : Addr) (c n : Nat) (b : Bool) (U : List (Str × Int)) (σ0 : L2.St) (G3 : Hp) (σ : L2.St) (H : Hp) : Prop where
  ex : ∃ B2 G4 u18 u19, TI K yy hh tt YL TL HL s l c n B2 G4 H ∧ Same G3 G4 ∧ (B2.S b).U = U ∧ σ = σ0 ++ [u18, u19]
theorem at2 (f : Bool → Addr) (b : Bool) : atI [V.ref (f true), V.ref (f false)] (if b = true then 0 else 1) = some (.ref (f b)) := by cases b <;> rfl
theorem lvO_perm {U UL : List (Str × Int)} (p : U.Perm UL) (nd : (U.map (·.1)).Nodup) (x : V) : lvO UL x = lvO U x := by
  cases x with
  | str z => exact (lk_perm p nd z).symm
  | _ => rfl
theorem TI.ask {yy hh tt : Bool → Addr} {YL TL HL s l : Addr} {c n : Nat} {B : BW} {G H : Hp} (I : TI K yy hh tt YL TL HL s l c n B G H) (b : Bool) : RS.Wd H s l n (cY K (B.S b) (B.a b) :: RS.cG G :: cT (B.S b).T (B.UL b) (B.bd b) :: B.cs K (!b)) :=
  RS.Wd.perm (I.W.to b) (List.Perm.cons _ (List.perm_append_singleton (RS.cG G) (cT (B.S b).T (B.UL b) (B.bd b) :: B.cs K (!b))).symm)
theorem TI.back {yy hh tt : Bool → Addr} {YL TL HL s l : Addr} {c n : Nat} {B : BW} {G G' H H' : Hp} (I : TI K yy hh tt YL TL HL s l c n B G H) (b : Bool) {S' : YS} {a' : Ro → Addr} (W : RS.Wd H' s l n (cY K S' a' :: RS.cG G' :: cT (B.S b).T (B.UL b) (B.bd b) :: B.cs K (!b))) (m : Sm (B.S b) S') (sg : Same G G') (h1 : a' .y = B.a b .y) (h2 : a' .h = B.a b .h) :
    TI K yy hh tt YL TL HL s l c n (B.put b S' (B.UL b) a') G' H' := by
  have W2 := RS.Wd.perm W (List.Perm.cons _ (List.perm_append_singleton (RS.cG G') (cT (B.S b).T (B.UL b) (B.bd b) :: B.cs K (!b))))
  refine I.put b ?_ sg ((I.ok b).sm m) (Nat.le_refl c) (h1.trans (I.ey b)) (h2.trans (I.eh b))
  rw [m.T]; exact W2
theorem Th.at {G : Hp} {a : Addr} (h : Th G (.ref a)) : ∃ o, G a = some o := by
  cases h with
  | lst h _ _ => exact ⟨_, h⟩
  | tup h _ _ => exact ⟨_, h⟩
  | dct h _ _ => exact ⟨_, h⟩
theorem turn (T : Txt P w K mg) {f : Addr} {cdv : Value} {A : Around} {outer : List Env} {st0 : Shared} {E : XK} {H : Hp} (hr : Room 9 (A.deeper (envOfC "law" (defScope s_law) st0.heap.objs.size f cdv)))
    (c__law_draw : Callable P w K mg base 1 (He.ga K "_law_draw") ["_law_stream", "_law_many"] [] spDraw)
    (c__law_pick : Callable P w K mg base 2 (He.ga K "_law_pick") ["_law_stream", "_law_some"] [] (spPick K))
    (c_Yard_add_level_name : Callable P w K mg base 1 (He.ma K (He.ga K "Yard") "add_level_name") ["self", "level", "name"] [] (spAddN K))
    (c_Yard_add_level_name_kw_name_level : RK.CallKw P w K mg base 1 (He.ma K (He.ga K "Yard") "add_level_name") ["self", "level", "name"] 1 ["name", "level"] (fun vs zs => vs ++ zs.reverse) (spAddN K))
    (c__law_named_right : Callable P w K mg base 6 (He.ga K "_law_named_right") ["_law_yard", "_law_tables"] [] (spRight K))
    (c__law_number : Callable P w K mg base 1 (He.ga K "_law_number") ["_law_thing", "_law_tables"] [] spNum)
    (c__law_copied : Callable P w K mg base 4 (He.ga K "_law_copied") ["_law_thing"] [] (spCop K 3))
    (c__law_asked : Callable P w K mg base 7 (He.ga K "_law_asked") ["_law_way", "_law_yard", "_law_handler", "_law_thing"] [] (spAsked K))
    (c__law_same : Callable P w K mg base 5 (He.ga K "_law_same") ["_law_found", "_law_due"] [] (spSame 4))
    (c_Yard_disable : RQ.CallX P w K mg base 4 (He.ma K (He.ga K "Yard") "disable") ["self", "level"] [] (spDisX K)) :
    ∃ t, PSs (cxOf CX0 P w K mg base nm_law "law" (defScope s_law) f cdv A outer st0 H E).nox b_turn t ∧ ∀ {yy hh tt : Bool → Addr} {YL TL HL a s l : Addr} {c n : Nat} {B : BW} {G : Hp} (H5 : Hp) (D' : Ends), TI K yy hh tt YL TL HL s l c n B G H5 → c ≤ 20 → n ≤ 1000 → ∀ (i : Int) o5 o7 o8 o9 o10 o11 o12 o13 o14 o15 o16 o17 o18 o19,
      (∀ σ H' B' G' n', n' ≤ n + 10 → TI K yy hh tt YL TL HL s l (c + 1) n' B' G' H' → (∃ o, o.length = 15 ∧ σ = sgA a s YL TL HL ++ o) → D'.nx σ H') → t D' (sgA a s YL TL HL ++ [o5, some (.int i), o7, o8, o9, o10, o11, o12, o13, o14, o15, o16, o17, o18, o19]) H5 := by
  generalize e1 : spAddN K = SA at c_Yard_add_level_name c_Yard_add_level_name_kw_name_level
  generalize e2 : spRight K = SR at c__law_named_right
  generalize e3 : spAsked K = SK at c__law_asked
  generalize e4 : spCop K 3 = SC at c__law_copied
  generalize e5 : spNum = SN at c__law_number
  generalize e6 : spSame 4 = SS at c__law_same
  generalize e7 : spDisX K = SD at c_Yard_disable
  refine ⟨_, (pss_cons (ps_set (i := 7) sc_law.nd rfl (by first | exact Or.inl rfl | exact Or.inr rfl) (pe_fn T.g__law_draw c__law_draw (hr.mono (by first | decide | exact Nat.le_refl _)) (by rfl) (pa_cons (pv 1) (pa_cons pe_int pa_nil))))
      (pss_cons (ps_asg (pe_tup (pa_cons (pe_ix ix_list (pv 2) (pv 7) (fun _ _ => rfl)) (pa_cons (pe_ix ix_list (pv 3) (pv 7) (fun _ _ => rfl)) pa_nil))) (RG.pg_tupK (K := K) (n := 2) (by rfl) (pgs_cons (pg_name (i := 8) sc_law.nd rfl (by first | exact Or.inl rfl | exact Or.inr rfl)) (pgs_cons (RUl.pg_unL (K := K) (n := 2) (by rfl) (pgs_cons (pg_name (i := 9) sc_law.nd rfl (by first | exact Or.inl rfl | exact Or.inr rfl)) (pgs_cons (pg_name (i := 10) sc_law.nd rfl (by first | exact Or.inl rfl | exact Or.inr rfl)) pgs_nil))) pgs_nil))))
      (pss_cons (ps_if (pt_cmpR op_eq (pe_fn T.g__law_draw c__law_draw (hr.mono (by first | decide | exact Nat.le_refl _)) (by rfl) (pa_cons (pv 1) (pa_cons pe_int pa_nil))) pe_int (nomark _)) (pss_cons (ps_set (i := 11) sc_law.nd rfl (by first | exact Or.inl rfl | exact Or.inr rfl) (pe_fn T.g__law_pick c__law_pick (hr.mono (by first | decide | exact Nat.le_refl _)) (by rfl) (pa_cons (pv 1) (pa_cons (pe_lst (pa_cons pe_int (pa_cons pe_int (pa_cons pe_int (pa_cons pe_int (pa_cons pe_int (pa_cons pe_int (pa_cons pe_int (pa_cons pe_int (pa_cons pe_int (pa_cons (pe_un un_neg pe_int) (pa_cons (pe_op op_pow pe_int pe_int) (pa_cons (pe_un un_neg (pe_op op_pow pe_int pe_int)) pa_nil))))))))))))) pa_nil))))
      (pss_cons (ps_set (i := 12) sc_law.nd rfl (by first | exact Or.inl rfl | exact Or.inr rfl) (pe_fn T.g__law_pick c__law_pick (hr.mono (by first | decide | exact Nat.le_refl _)) (by rfl) (pa_cons (pv 1) (pa_cons (pe_lst (pa_cons pe_str (pa_cons pe_str (pa_cons pe_str (pa_cons pe_str (pa_cons pe_str (pa_cons pe_str (pa_cons pe_str (pa_cons pe_str (pa_cons pe_str (pa_cons pe_str pa_nil))))))))))) pa_nil))))
      (pss_cons (ps_asg (pe_tup (pa_cons (pv 12) (pa_cons (pv 11) pa_nil))) (RG.pg_tupK (K := K) (n := 2) (by rfl) (pgs_cons (pg_sub (pv 9) (pv 11) (RF.set_dict (hu_of hr))) (pgs_cons (pg_sub (pv 10) (pv 12) (RF.set_dict (hu_of hr))) pgs_nil))))
      (pss_cons (ps_if (PW.pt (pw_and (pt_cmpR op_gt (pv 6) pe_int (nomark _)) (pw_and1 (pt_cmpR op_notN (pe_mt T.c_Yard T.m_Yard_add_level_name c_Yard_add_level_name (hr.mono (by first | decide | exact Nat.le_refl _)) (pv 8) (pa_cons (pv 11) (pa_cons (pv 12) pa_nil))) pe_non (nomark _))))) (pss_one (ps_ret pe_bl)) pss_nil)
      (pss_one (ps_if (PW.pt (pw_and (pt_cmpR op_le (pv 6) pe_int (nomark _)) (pw_and1 (pt_cmpR op_notN (RK.pe_mtK T.c_Yard T.m_Yard_add_level_name c_Yard_add_level_name_kw_name_level (hr.mono (by first | decide | exact Nat.le_refl _)) (pv 8) (pk_cons (pv 12) (pk_cons (pv 11) pk_nil))) pe_non (nomark _))))) (pss_one (ps_ret pe_bl)) pss_nil)))))) pss_nil)
      (pss_cons (ps_if (pt_not (pt_val (pe_callB (cr_all rfl) (by rfl) T.b_all (by decide +kernel) (pa_cons (pe_lc (own := [("_law_k", 13)]) (by rfl) sc_law.nd (pi_range1 (by rfl) T.b_range (pa_cons pe_int pa_nil)) (blkOk_by (own := [("_law_k", 13)]) (N := nm_law) (sc := defScope s_law) (by decide +kernel)) (fun _ _ _ _ _ => (pg_name (i := 13) sc_law.nd rfl (by first | exact Or.inl rfl | exact Or.inr rfl))) (fun _ _ _ _ _ => pts_nil) (fun _ _ _ _ _ => (pe_fn T.g__law_named_right c__law_named_right (hr.mono (by first | decide | exact Nat.le_refl _)) (by rfl) (pa_cons (pe_ix (ixK (K := K) rIxL ix_list) (pv 2) (pv 13) (fun _ _ => rfl)) (pa_cons (pe_ix (ixK (K := K) rIxL ix_list) (pv 3) (pv 13) (fun _ _ => rfl)) pa_nil))))) pa_nil)))) (pss_one (ps_ret pe_bl)) pss_nil)
      (pss_cons (ps_set (i := 14) sc_law.nd rfl (by first | exact Or.inl rfl | exact Or.inr rfl) (pe_lst (pa_cons pe_int (pa_cons pe_int (pa_cons (pe_un un_neg pe_int) (pa_cons (pe_op op_pow pe_int pe_int) (pa_cons pe_str (pa_cons pe_str (pa_cons pe_str (pa_cons pe_str (pa_cons pe_str (pa_cons pe_str (pa_cons pe_str (pa_cons pe_str (pa_cons pe_str (pa_cons pe_str (pa_cons pe_bl pa_nil)))))))))))))))))
      (pss_cons (ps_set (i := 15) sc_law.nd rfl (by first | exact Or.inl rfl | exact Or.inr rfl) (pe_fn T.g__law_pick c__law_pick (hr.mono (by first | decide | exact Nat.le_refl _)) (by rfl) (pa_cons (pv 1) (pa_cons (pe_op op_cat (pv 14) (pe_lst (pa_cons pe_non (pa_cons pe_bl (pa_cons pe_str (pa_cons (pe_lst pa_nil) (pa_cons (pe_lst (pa_cons pe_int pa_nil)) (pa_cons (pe_tup (pa_cons pe_int pa_nil)) (pa_cons pe_dnewK (pa_cons (pe_disp (pps_cons pe_str pe_int pps_nil) (by rfl) (by rfl) (fun z => by cases z) (by decide)) (pa_cons (pe_lst (pa_cons pe_str pa_nil)) pa_nil))))))))))) pa_nil))))
      (pss_cons (ps_par (by rfl) sc_law.nd (i := 16) (j := 17) rfl rfl (by decide) rfl rfl (pa_cons (pe_fn T.g__law_number c__law_number (hr.mono (by first | decide | exact Nat.le_refl _)) (by rfl) (pa_cons (pv 15) (pa_cons (pe_ix ix_list (pv 3) (pv 7) (fun _ _ => rfl)) pa_nil))) (pa_cons (pe_fn T.g__law_copied c__law_copied (hr.mono (by first | decide | exact Nat.le_refl _)) (by rfl) (pa_cons (pv 15) pa_nil)) pa_nil)) (by rfl))
      (pss_cons (ps_for PassesOwn.never rfl (pi_range1 (by rfl) T.b_range (pa_cons pe_int pa_nil)) (pg_name (i := 18) sc_law.nd rfl (by first | exact Or.inl rfl | exact Or.inr rfl)) (pss_cons (ps_set (i := 19) sc_law.nd rfl (by first | exact Or.inl rfl | exact Or.inr rfl) (pe_fn T.g__law_asked c__law_asked (hr.mono (by first | decide | exact Nat.le_refl _)) (by rfl) (pa_cons (pv 18) (pa_cons (pv 8) (pa_cons (pe_ix ix_list (pv 4) (pv 7) (fun _ _ => rfl)) (pa_cons (pv 15) pa_nil))))))
      (pss_cons (ps_if (PW.pt (pw_or (PW.pt (pw_and (pt_cmpR op_isN (pv 16) pe_non (nomark _)) (pw_and1 (pt_not (pt_val (pe_fn T.g__law_same c__law_same (hr.mono (by first | decide | exact Nat.le_refl _)) (by rfl) (pa_cons (pv 19) (pa_cons (pe_tup (pa_cons pe_str (pa_cons (pv 17) (pa_cons pe_int (pa_cons pe_int (pa_cons pe_int pa_nil)))))) pa_nil)))))))) (pw_or1 (PW.pt (pw_and (pt_cmpR op_notN (pv 16) pe_non (nomark _)) (pw_and1 (pt_cmpR op_ne (pv 19) (pv 16) (nomark _)))))))) (pss_one (ps_ret pe_bl)) pss_nil)
      (pss_one (ps_if (pt_val (pe_callB call_isi (by rfl) T.b_isinstance (by decide +kernel) (pa_cons (pv 19) (pa_cons (pe_bltn (v := .ty "bool") (u := .type "bool") (by rfl) T.b_bool (by decide +kernel) rfl) pa_nil)))) (pss_one (ps_ret pe_bl)) pss_nil)))))
      (pss_one (ps_expr (RQ.pe_mtX takes_none5 T.c_Yard T.m_Yard_disable c_Yard_disable (hr.mono (by first | decide | exact Nat.le_refl _)) (pv 8) (pa_cons pe_int pa_nil)))))))))))), ?_⟩
  walk_at "in"
  intro yy hh tt YL TL HL a s l c n B G H5 D' I hc hn i o5 o7 o8 o9 o10 o11 o12 o13 o14 o15 o16 o17 o18 o19 k'
  have ix : ∀ d : Int, 0 ≤ d → d < 2 → ∃ b : Bool, d = if b = true then 0 else 1 := fun d h1 h2 => by
    by_cases z : d = 0
    · exact ⟨true, z⟩
    · exact ⟨false, by show d = 1; omega⟩
  refine seq_of (fun σ' H' => ∃ b : Bool, TI K yy hh tt YL TL HL s l c (n + 1) B G H' ∧ σ' = sgA a s YL TL HL ++ [o5, some (.int i), some (.int (if b = true then 0 else 1)), o8, o9, o10, o11, o12, o13, o14, o15, o16, o17, o18, o19]) (fun b' kb => ?_) (fun σ' H6 hm => ?_)
  · have st := I.W.stm
    walk_at "go"
    intro H6 d o6 st6 h1 h2
    obtain ⟨b, rfl⟩ := ix d h1 h2
    exact kb _ _ ⟨b, I.old o6 st6, rfl⟩
  obtain ⟨b, I6, rfl⟩ := hm
  clear I
  refine seq_of (fun σ' H' => TI K yy hh tt YL TL HL s l c (n + 1) B G H' ∧ σ' = sgA a s YL TL HL ++ [o5, some (.int i), some (.int (if b = true then 0 else 1)), some (.ref (yy b)), some (.ref (B.bd b .wd)), some (.ref (B.bd b .nb)), o11, o12, o13, o14, o15, o16, o17, o18, o19]) (fun b' kb => ?_) (fun σ' H7 hm => ?_)
  · have g := I6.W.g
    have gy := g _ _ I6.gy
    have gt := g _ _ I6.gt
    have hT : H6 (tt b) = some (.lst [.ref (B.bd b .wd), .ref (B.bd b .nb)]) := by rw [← I6.et b]; exact (I6.W.t b).at_ .t _ rfl
    have un : ∀ (Q2 : L2.St → Hp → Prop) (p : Addr) (H9 : Hp), H9 p = some (.tup [.ref (yy b), .ref (tt b)]) → H9 (tt b) = some (.lst [.ref (B.bd b .wd), .ref (B.bd b .nb)]) → ∀ q : Int, q = (if b = true then 0 else 1) →
        Q2 (sgA a s YL TL HL ++ [o5, some (.int i), some (.int q), some (.ref (yy b)), some (.ref (B.bd b .wd)), some (.ref (B.bd b .nb)), o11, o12, o13, o14, o15, o16, o17, o18, o19]) H9 →
        gTup K 2 (gCons (gName 8) (gCons (RUl.gUnL K 2 (gCons (gName 9) (gCons (gName 10) gNil))) gNil)) (.ref p) (sgA a s YL TL HL ++ [o5, some (.int i), some (.int q), o8, o9, o10, o11, o12, o13, o14, o15, o16, o17, o18, o19]) H9 Q2 := fun Q2 p H9 h1 h2 q hq h3 =>
      ⟨p, _, rfl, SqT.of h1, rfl, _, _, rfl, _, _, rfl, tt b, _, rfl, SqL.of h2, rfl, _, _, rfl, _, _, rfl, rfl, rfl, h3⟩
    cases b with
    | true =>
      walk_at "go"
      intro p fp
      exact un _ p _ upd_same (same_new fp _ _ _ hT) 0 rfl (kb _ _ ⟨I6.same (same_new fp _), rfl⟩)
    | false =>
      walk_at "go"
      intro p fp
      exact un _ p _ upd_same (same_new fp _ _ _ hT) 1 rfl (kb _ _ ⟨I6.same (same_new fp _), rfl⟩)
  obtain ⟨I7, rfl⟩ := hm
  clear I6
  refine seq_of (fun σ' H' => ∃ B' n' u1 u2, n' ≤ n + 4 ∧ TI K yy hh tt YL TL HL s l (c + 1) n' B' G H' ∧ σ' = sgA a s YL TL HL ++ [o5, some (.int i), some (.int (if b = true then 0 else 1)), some (.ref (yy b)), some (.ref (B.bd b .wd)), some (.ref (B.bd b .nb)), u1, u2, o13, o14, o15, o16, o17, o18, o19]) (fun b' kb => ?_) (fun σ' H8 hm => ?_)
  · have st := I7.W.stm
    walk_at "go"
    intro H8 d o8 st8 h1 h2
    have I8 := I7.old o8 st8
    have I8b := I7.ey
    have I8h := I7.eh
    have I0 := I7
    by_cases d0 : d = 0
    · subst d0
      walk_at "go"
      intro p fp
      obtain ⟨m1, m2⟩ := stm_new st8 fp
      have I9 := I8.same (same_new fp (.lst [V.int 0, V.int 7, V.int 10, V.int 20, V.int 25, V.int 25, V.int 26, V.int 30, V.int 50, V.int (-1), V.int (10 ^ 18), V.int (-(10 ^ 18))]))
      refine ⟨s, l, p, n + 2, [V.int 0, V.int 7, V.int 10, V.int 20, V.int 25, V.int 25, V.int 26, V.int 30, V.int 50, V.int (-1), V.int (10 ^ 18), V.int (-(10 ^ 18))], rfl, I9.W.stm, by omega, m1, m2, upd_same, by show 1 ≤ 12; decide, by show 12 ≤ 1000; decide, fun H10 x o10 st10 hx => ?_⟩
      have I10 := I9.old o10 st10
      have hx2 : ∃ v : Int, x = .int v ∧ v.natAbs < 2 ^ 63 := by
        simp only [List.mem_cons, List.not_mem_nil, or_false] at hx
        rcases hx with rfl | rfl | rfl | rfl | rfl | rfl | rfl | rfl | rfl | rfl | rfl | rfl <;> exact ⟨_, rfl, by decide⟩
      obtain ⟨v, rfl, hv⟩ := hx2
      clear hx o10 I9 fp m1 m2
      walk_at "go"
      intro p fp
      obtain ⟨m1, m2⟩ := stm_new st10 fp
      have I11 := I10.same (same_new fp (.lst ([("NOTE" : Str), "NOTE", "INFO", "WARN", "", "Level 7", "FATAL", "a b", "x\ny", "30"].map V.str)))
      refine ⟨s, l, p, n + 3, [("NOTE" : Str), "NOTE", "INFO", "WARN", "", "Level 7", "FATAL", "a b", "x\ny", "30"].map V.str, rfl, I11.W.stm, by omega, m1, m2, upd_same, by show 1 ≤ 10; decide, by show 10 ≤ 1000; decide, fun H12 x o12 st12 hx => ?_⟩
      have I12 := I11.old o12 st12
      obtain ⟨z, _, rfl⟩ := List.mem_map.mp hx
      clear hx o12 I11 fp m1 m2 I10 st10 I8
      walk_at "go"
      intro q fq
      have I13 := I12.same (same_new fq (.tup [.str z, .int v]))
      have hq13 := upd_same (H := H12) (a := q) (o := .tup [.str z, .int v])
      generalize upd H12 q (.tup [.str z, .int v]) = H13 at I13 hq13 ⊢
      clear fq I12
      have ok := I13.ok b
      have W13 := I13.W.to b
      obtain ⟨H14, dp1, dp2, W14⟩ := lput W13 (by have := ok.tl; omega) (by rw [← ok.pm.length_eq]; have := ok.ul; omega) v z
      refine ⟨q, _, rfl, SqT.of hq13, rfl, _, _, rfl, _, rfl, _, rfl, B.bd b .wd, _, rfl, dp1, _, _, rfl, _, rfl, _, rfl, B.bd b .nb, _, rfl, dp2, rfl, ?_⟩
      generalize upd H14 (B.bd b .nb) (.dK (intK (putL (B.UL b) z v))) = H15 at W14 ⊢
      clear st8 I13 W13 hq13 dp1 dp2
      have R15 : YR K (B.S b) (B.a b) H15 := W14.hd
      have hy15 := R15.y_
      rw [I8b b] at hy15
      have fin : ∀ H', YR K { B.S b with T := putL (B.S b).T v z, U := putL (B.S b).U z v } (B.a b) H' → YM K (B.S b) (B.a b) H15 { B.S b with T := putL (B.S b).T v z, U := putL (B.S b).U z v } (B.a b) H' → TI K yy hh tt YL TL HL s l (c + 1) (n + 4) (B.put b { B.S b with T := putL (B.S b).T v z, U := putL (B.S b).U z v } (putL (B.UL b) z v) (B.a b)) G H' := fun H' R' M' =>
        I0.put b (W14.mv (c' := cY K _ _) R' M') (Same.refl G) (ok.put hv z) (Nat.le_succ c) (I8b b) (I8h b)
      have adN : ∀ Q, (∀ H', YR K { B.S b with T := putL (B.S b).T v z, U := putL (B.S b).U z v } (B.a b) H' → YM K (B.S b) (B.a b) H15 { B.S b with T := putL (B.S b).T v z, U := putL (B.S b).U z v } (B.a b) H' → Q .non H') → spAddN K [.ref (yy b), .int v, .str z] H15 Q E0 := fun Q h => by
        rw [← I8b b]
        exact ⟨B.S b, B.a b, v, z, rfl, R15, by have := ok.tl; omega, by have := ok.ul; omega, h⟩
      by_cases hi : 4 < i
      · have d1 : decide (4 < i) = true := decide_eq_true hi
        have d2 : decide (i ≤ 4) = false := decide_eq_false (by omega)
        walk_at "go"
        refine (?_ : SA [.ref (yy b), .int v, .str z] H15 _ E0)
        rw [← e1]
        refine adN _ fun H' R' M' => ?_
        have J := fin H' R' M'
        walk_at "go"
        exact kb _ _ ⟨_, _, _, _, by omega, J, rfl⟩
      · have d1 : decide (4 < i) = false := decide_eq_false hi
        have d2 : decide (i ≤ 4) = true := decide_eq_true (by omega)
        walk_at "go"
        refine (?_ : SA [.ref (yy b), .int v, .str z] H15 _ E0)
        rw [← e1]
        refine adN _ fun H' R' M' => ?_
        have J := fin H' R' M'
        walk_at "go"
        exact kb _ _ ⟨_, _, _, _, by omega, J, rfl⟩
    · refine ⟨rfl, _, rfl, iteF' (decide_eq_false fun z => d0 (V.int.inj z)) ?_⟩
      exact kb _ _ ⟨B, _, _, _, by omega, I8.mono (Nat.le_succ c), rfl⟩
  obtain ⟨B', n', u1, u2, hn', I9, rfl⟩ := hm
  have gy : ∀ {H : Hp}, Same G H → H YL = some (.lst [.ref (yy true), .ref (yy false)]) := fun sg => sg _ _ I9.gy
  have gt : ∀ {H : Hp}, Same G H → H TL = some (.lst [.ref (tt true), .ref (tt false)]) := fun sg => sg _ _ I9.gt
  refine seq_of (fun σ' H' => TI K yy hh tt YL TL HL s l (c + 1) n' B' G H' ∧ ∃ u13, σ' = sgA a s YL TL HL ++ [o5, some (.int i), some (.int (if b = true then 0 else 1)), some (.ref (yy b)), some (.ref (B.bd b .wd)), some (.ref (B.bd b .nb)), u1, u2, u13, o14, o15, o16, o17, o18, o19]) (fun b' kb => ?_) (fun σ' H9 hm => ?_)
  · have rt : ∀ (cc : Bool) (H2 : Hp) (Q : VK), Same H8 H2 → (∀ H3, Same H2 H3 → Q (.bl true) H3) → spRight K [.ref (yy cc), .ref (tt cc)] H2 Q E0 := fun cc H2 Q s2 h => by
      have J := I9.same s2
      have R := J.W.y cc
      have L := J.W.t cc
      have ok := J.ok cc
      rw [← I9.ey cc, ← I9.et cc]
      exact ⟨B'.S cc, B'.a cc, B'.UL cc, B'.bd cc, rfl, R, L, ok.pm, ok.nd, by have := ok.ul; omega, by have := ok.tl; omega, ok.tb, h⟩
    walk_at "go"
    intro D hD
    refine lc_it walk_range (fun i H' => Same H8 H' ∧ H' D = some (.lst ((List.replicate i true).map V.bl))) ⟨same_new hD _, upd_same⟩ (fun _ _ _ _ => trivial) (fun k x H9 H2 hi hP hx => ?_) (fun H2 hP => ?_)
    · obtain ⟨rfl, rfl⟩ := hx
      obtain ⟨s2, d2⟩ := hP
      have gy2 := gy (I9.W.g.trans s2)
      have gt2 := gt (I9.W.g.trans s2)
      have hi : k < 2 := hi
      have hll : ((List.replicate k true).map V.bl).length < sizeLine := by rw [List.length_map, List.length_replicate, sizeLine_eq]; omega
      have en : ∀ H3, Same H2 H3 → ∃ acc, H3 D = some (.lst acc) ∧ acc.length < sizeLine ∧ Same H8 (upd H3 D (.lst (acc ++ [.bl true]))) ∧ upd H3 D (.lst (acc ++ [.bl true])) D = some (.lst ((List.replicate (k + 1) true).map V.bl)) := fun H3 s3 =>
        ⟨_, s3 _ _ d2, hll, fun c o hc => by rw [upd_ne (ne_of_none hc hD)]; exact (s2.trans s3) _ _ hc, by rw [upd_same, List.replicate_succ', List.map_append]; rfl⟩
      obtain rfl | rfl : k = 0 ∨ k = 1 := by omega
      · refine ⟨rfl, yes_if ?_⟩
        refine ⟨_, rfl, _, rfl, YL, _, 0, _, rfl, rfl, SqL.of gy2, atI_nat rfl, ?_⟩
        refine ⟨_, rfl, _, rfl, TL, _, 0, _, rfl, rfl, SqL.of gt2, atI_nat rfl, ?_⟩
        refine (?_ : SR [.ref (yy true), .ref (tt true)] H2 _ E0)
        rw [← e2]
        exact rt true H2 _ s2 fun H3 s3 => en H3 s3
      · refine ⟨rfl, yes_if ?_⟩
        refine ⟨_, rfl, _, rfl, YL, _, 1, _, rfl, rfl, SqL.of gy2, atI_nat rfl, ?_⟩
        refine ⟨_, rfl, _, rfl, TL, _, 1, _, rfl, rfl, SqL.of gt2, atI_nat rfl, ?_⟩
        refine (?_ : SR [.ref (yy false), .ref (tt false)] H2 _ E0)
        rw [← e2]
        exact rt false H2 _ s2 fun H3 s3 => en H3 s3
    · obtain ⟨s2, d2⟩ := hP
      refine ⟨D, List.replicate 2 true, rfl, SqL.of d2, ?_⟩
      rw [show (List.replicate 2 true).all id = true from by decide]
      walk_at "go"
      exact kb _ _ ⟨I9.same s2, _, rfl⟩
  obtain ⟨I10, u13, rfl⟩ := hm
  refine seq_of (fun σ' H' => TI K yy hh tt YL TL HL s l (c + 1) n' B' G H' ∧ ∃ p, H' p = some (.lst [V.int 20, V.int 0, V.int (-7), V.int (10 ^ 18), V.str "INFO", V.str "FATAL", V.str "WARN", V.str "NOTE", V.str "", V.str "info", V.str "INFO ", V.str "Level 7", V.str "30", V.str "a b", V.bl true]) ∧ σ' = sgA a s YL TL HL ++ [o5, some (.int i), some (.int (if b = true then 0 else 1)), some (.ref (yy b)), some (.ref (B.bd b .wd)), some (.ref (B.bd b .nb)), u1, u2, u13, some (.ref p), o15, o16, o17, o18, o19]) (fun b' kb => ?_) (fun σ' H9 hm => ?_)
  · walk_at "go"
    intro p fp
    exact kb _ _ ⟨I10.same (same_new fp _), p, upd_same, rfl⟩
  obtain ⟨I11, p, hp, rfl⟩ := hm
  clear I10
  have okb := I11.ok b
  refine seq_of (fun σ' H' => ∃ n2 G2 x, n2 ≤ n' + 1 ∧ TI K yy hh tt YL TL HL s l (c + 1) n2 B' G2 H' ∧ Th G2 x ∧ (∀ j, lvO (B'.S b).U x = some j → j.natAbs < 2 ^ 63) ∧ σ' = sgA a s YL TL HL ++ [o5, some (.int i), some (.int (if b = true then 0 else 1)), some (.ref (yy b)), some (.ref (B.bd b .wd)), some (.ref (B.bd b .nb)), u1, u2, u13, some (.ref p), some x, o16, o17, o18, o19]) (fun b' kb => ?_) (fun σ' H10 hm => ?_)
  · walk_at "go"
    intro p1 f1
    obtain ⟨J1, sg1⟩ := I11.lay (o := .lst []) f1
    have g1 := upd_same (H := G) (a := p1) (o := .lst [])
    have hp1 := same_new f1 (.lst []) _ _ hp
    generalize upd H9 p1 (.lst []) = H1 at J1 hp1 ⊢
    generalize upd G p1 (.lst []) = G1 at J1 sg1 g1 ⊢
    walk_at "go"
    intro p2 f2
    obtain ⟨J2, sg2⟩ := J1.lay (o := .lst [.int 20]) f2
    have g2 := upd_same (H := G1) (a := p2) (o := .lst [.int 20])
    have hp2 := same_new f2 (.lst [.int 20]) _ _ hp1
    generalize upd H1 p2 (.lst [.int 20]) = H2 at J2 hp2 ⊢
    generalize upd G1 p2 (.lst [.int 20]) = G2 at J2 sg2 g2 ⊢
    walk_at "go"
    intro p3 f3
    obtain ⟨J3, sg3⟩ := J2.lay (o := .tup [.int 20]) f3
    have g3 := upd_same (H := G2) (a := p3) (o := .tup [.int 20])
    have hp3 := same_new f3 (.tup [.int 20]) _ _ hp2
    generalize upd H2 p3 (.tup [.int 20]) = H3 at J3 hp3 ⊢
    generalize upd G2 p3 (.tup [.int 20]) = G3 at J3 sg3 g3 ⊢
    walk_at "go"
    intro p4 f4
    obtain ⟨J4, sg4⟩ := J3.lay (o := .dK []) f4
    have g4 := upd_same (H := G3) (a := p4) (o := .dK [])
    have hp4 := same_new f4 (.dK []) _ _ hp3
    generalize upd H3 p4 (.dK []) = H4 at J4 hp4 ⊢
    generalize upd G3 p4 (.dK []) = G4 at J4 sg4 g4 ⊢
    refine fun p5 f5 => And.intro upd_same ⟨intK [("INFO", 20)], rfl, by decide, ?_⟩
    rw [show mergeK [] (intK [("INFO", 20)]) = intK [("INFO", 20)] from rfl, upd_upd]
    obtain ⟨J5, sg5⟩ := J4.lay (o := .dK (intK [("INFO", 20)])) f5
    have g5 := upd_same (H := G4) (a := p5) (o := .dK (intK [("INFO", 20)]))
    have hp5 := same_new f5 (.dK (intK [("INFO", 20)])) _ _ hp4
    generalize upd H4 p5 (.dK (intK [("INFO", 20)])) = H5 at J5 hp5 ⊢
    generalize upd G4 p5 (.dK (intK [("INFO", 20)])) = G5 at J5 sg5 g5 ⊢
    walk_at "go"
    intro p6 f6
    obtain ⟨J6, sg6⟩ := J5.lay (o := .lst [.str "INFO"]) f6
    have g6 := upd_same (H := G5) (a := p6) (o := .lst [.str "INFO"])
    have hp6 := same_new f6 (.lst [.str "INFO"]) _ _ hp5
    generalize upd H5 p6 (.lst [.str "INFO"]) = H6 at J6 hp6 ⊢
    generalize upd G5 p6 (.lst [.str "INFO"]) = G6 at J6 sg6 g6 ⊢
    walk_at "go"
    intro p7 f7
    have J7 := J6.same (same_new f7 (.lst [V.non, V.bl false, V.str "LATER", V.ref p1, V.ref p2, V.ref p3, V.ref p4, V.ref p5, V.ref p6]))
    have hp7 := same_new f7 (.lst [V.non, V.bl false, V.str "LATER", V.ref p1, V.ref p2, V.ref p3, V.ref p4, V.ref p5, V.ref p6]) _ _ hp6
    have hq7 := upd_same (H := H6) (a := p7) (o := .lst [V.non, V.bl false, V.str "LATER", V.ref p1, V.ref p2, V.ref p3, V.ref p4, V.ref p5, V.ref p6])
    generalize upd H6 p7 (.lst [V.non, V.bl false, V.str "LATER", V.ref p1, V.ref p2, V.ref p3, V.ref p4, V.ref p5, V.ref p6]) = H7 at J7 hp7 hq7 ⊢
    refine ⟨p, p7, _, _, rfl, rfl, hp7, hq7, (by show 15 + 9 ≤ _; rw [sizeLine_eq]; decide), fun p8 f8 => ?_⟩
    have st8 := J7.W.stm
    obtain ⟨m1, m2⟩ := stm_new st8 f8
    have J8 := J7.same (same_new f8 (.lst ([V.int 20, V.int 0, V.int (-7), V.int (10 ^ 18), V.str "INFO", V.str "FATAL", V.str "WARN", V.str "NOTE", V.str "", V.str "info", V.str "INFO ", V.str "Level 7", V.str "30", V.str "a b", V.bl true] ++ [V.non, V.bl false, V.str "LATER", V.ref p1, V.ref p2, V.ref p3, V.ref p4, V.ref p5, V.ref p6])))
    refine ⟨s, l, p8, n', _, rfl, J8.W.stm, by omega, m1, m2, upd_same, by show 1 ≤ 24; decide, by show 24 ≤ 1000; decide, fun H10 x o10 st10 hx => ?_⟩
    have J10 := J8.old o10 st10
    have h1 : Th G6 (.ref p1) := .lst (sg6 _ _ (sg5 _ _ (sg4 _ _ (sg3 _ _ (sg2 _ _ g1))))) (fun _ h => by cases h) (by decide)
    have h2 : Th G6 (.ref p2) := .lst (sg6 _ _ (sg5 _ _ (sg4 _ _ (sg3 _ _ g2)))) (fun _ h => by rw [List.mem_singleton.mp h]; exact .int _) (by decide)
    have h3 : Th G6 (.ref p3) := .tup (sg6 _ _ (sg5 _ _ (sg4 _ _ g3))) (fun _ h => by rw [List.mem_singleton.mp h]; exact .int _) (by decide)
    have h4 : Th G6 (.ref p4) := .dct (ts := []) (sg6 _ _ (sg5 _ _ g4)) List.nodup_nil (by decide)
    have h5 : Th G6 (.ref p5) := .dct (sg6 _ _ g5) (by decide +kernel) (by decide)
    have h6 : Th G6 (.ref p6) := .lst g6 (fun _ h => by rw [List.mem_singleton.mp h]; exact .str _) (by decide)
    have key : Th G6 x ∧ ∀ j, lvO (B'.S b).U x = some j → j.natAbs < 2 ^ 63 := by
      simp only [List.cons_append, List.nil_append, List.mem_cons, List.not_mem_nil, or_false] at hx
      rcases hx with rfl | rfl | rfl | rfl | rfl | rfl | rfl | rfl | rfl | rfl | rfl | rfl | rfl | rfl | rfl | rfl | rfl | rfl | rfl | rfl | rfl | rfl | rfl | rfl
      · exact ⟨.int _, fun j h => by cases h; decide⟩
      · exact ⟨.int _, fun j h => by cases h; decide⟩
      · exact ⟨.int _, fun j h => by cases h; decide⟩
      · exact ⟨.int _, fun j h => by cases h; decide⟩
      · exact ⟨.str _, fun j h => okb.lv h⟩
      · exact ⟨.str _, fun j h => okb.lv h⟩
      · exact ⟨.str _, fun j h => okb.lv h⟩
      · exact ⟨.str _, fun j h => okb.lv h⟩
      · exact ⟨.str _, fun j h => okb.lv h⟩
      · exact ⟨.str _, fun j h => okb.lv h⟩
      · exact ⟨.str _, fun j h => okb.lv h⟩
      · exact ⟨.str _, fun j h => okb.lv h⟩
      · exact ⟨.str _, fun j h => okb.lv h⟩
      · exact ⟨.str _, fun j h => okb.lv h⟩
      · exact ⟨.bl _, fun j h => nomatch h⟩
      · exact ⟨.non, fun j h => nomatch h⟩
      · exact ⟨.bl _, fun j h => nomatch h⟩
      · exact ⟨.str _, fun j h => okb.lv h⟩
      · exact ⟨h1, fun j h => nomatch h⟩
      · exact ⟨h2, fun j h => nomatch h⟩
      · exact ⟨h3, fun j h => nomatch h⟩
      · exact ⟨h4, fun j h => nomatch h⟩
      · exact ⟨h5, fun j h => nomatch h⟩
      · exact ⟨h6, fun j h => nomatch h⟩
    exact kb _ _ ⟨n' + 1, G6, x, by omega, J10, key.1, key.2, rfl⟩
  obtain ⟨n2, G2, x, hn2, I12, th, hb, rfl⟩ := hm
  refine seq_of (fun σ' H' => ∃ G3 du v, TI K yy hh tt YL TL HL s l (c + 1) n2 B' G3 H' ∧ Same G2 G3 ∧ SameD G3 3 x v ∧ (∀ j, lvO (B'.S b).U x = some j → du = .int j) ∧ (lvO (B'.S b).U x = none → du = .non) ∧ σ' = sgA a s YL TL HL ++ [o5, some (.int i), some (.int (if b = true then 0 else 1)), some (.ref (yy b)), some (.ref (B.bd b .wd)), some (.ref (B.bd b .nb)), u1, u2, u13, some (.ref p), some x, some du, some v, o18, o19]) (fun b' kb => ?_) (fun σ' H11 hm => ?_)
  · have th10 := th.same I12.W.g
    have L := I12.W.t b
    have gt10 := I12.W.g _ _ I12.gt
    have hT : H10 (tt b) = some (.lst [.ref (B'.bd b .wd), .ref (B'.bd b .nb)]) := by rw [← I12.et b]; exact L.at_ .t _ rfl
    have hN : H10 (B'.bd b .nb) = some (.dK (intK (B'.UL b))) := L.at_ .nb _ rfl
    have ok := I12.ok b
    have el := lvO_perm ok.pm ok.nd x
    have fin : ∀ (H11 : Hp) (v : V), Same H10 H11 → Cp H10 H11 x v → ∃ G3, TI K yy hh tt YL TL HL s l (c + 1) n2 B' G3 H11 ∧ Same G2 G3 ∧ SameD G3 3 x v := fun H11 v s11 cp => by
      rcases cp with ⟨h1, h2⟩ | ⟨a1, b1, o, rfl, rfl, ha, hb1, hb2⟩
      · exact ⟨G2, I12.same s11, Same.refl G2, Cp.sameD th (.inl ⟨h1, h2⟩)⟩
      · obtain ⟨o2, g2⟩ := th.at
        have := I12.W.g _ _ g2
        rw [ha] at this
        cases this
        obtain ⟨J, sg⟩ := I12.layS s11 hb1 hb2
        have ne : a1 ≠ b1 := fun z => by rw [z, hb1] at ha; cases ha
        exact ⟨_, J, sg, Cp.sameD (th.same sg) (.inr ⟨a1, b1, o, rfl, rfl, ne, sg _ _ g2, upd_same⟩)⟩
    walk_at "go"
    refine ⟨at2 tt b, ?_⟩
    refine (?_ : SN [x, .ref (tt b)] H10 _ E0)
    rw [← e5]
    refine ⟨x, tt b, _, _, B'.UL b, rfl, th10, hT, hN, fun j hj => ?_, fun hj => ?_⟩
    · rw [el] at hj
      walk_at "go"
      refine (?_ : SC [x] H10 _ E0)
      rw [← e4]
      refine ⟨x, rfl, .inr ⟨by decide, th10, fun H11 v s11 cp => ?_⟩⟩
      obtain ⟨G3, J, sg, sd⟩ := fin H11 v s11 cp
      exact ⟨_, _, rfl, kb _ _ ⟨G3, .int j, v, J, sg, sd, (fun j2 h2 => by rw [hj] at h2; cases h2; rfl), (fun h2 => by rw [hj] at h2; cases h2), rfl⟩⟩
    · rw [el] at hj
      walk_at "go"
      refine (?_ : SC [x] H10 _ E0)
      rw [← e4]
      refine ⟨x, rfl, .inr ⟨by decide, th10, fun H11 v s11 cp => ?_⟩⟩
      obtain ⟨G3, J, sg, sd⟩ := fin H11 v s11 cp
      exact ⟨_, _, rfl, kb _ _ ⟨G3, .non, v, J, sg, sd, (fun j2 h2 => by rw [hj] at h2; cases h2), (fun h2 => rfl), rfl⟩⟩
  obtain ⟨G3, du, v, I13, sg3, sd, hdu1, hdu2, rfl⟩ := hm
  have th3 := th.same sg3
  clear I12 I11
  refine seq_of (fun σ' H' => ∃ B2 G4 u18 u19, TI K yy hh tt YL TL HL s l (c + 1) n2 B2 G4 H' ∧ σ' = sgA a s YL TL HL ++ [o5, some (.int i), some (.int (if b = true then 0 else 1)), some (.ref (yy b)), some (.ref (B.bd b .wd)), some (.ref (B.bd b .nb)), u1, u2, u13, some (.ref p), some x, some du, some v, u18, u19]) (fun b' kb => ?_) (fun σ' H12 hm => ?_)
  · walk_at "go"
    refine for_it walk_range (fun w σ H' => WI K yy hh tt YL TL HL s l (c + 1) n2 b (B'.S b).U (sgA a s YL TL HL ++ [o5, some (.int i), some (.int (if b = true then 0 else 1)), some (.ref (yy b)), some (.ref (B.bd b .wd)), some (.ref (B.bd b .nb)), u1, u2, u13, some (.ref p), some x, some du, some v]) G3 σ H') ⟨⟨B', G3, _, _, I13, Same.refl G3, rfl, rfl⟩⟩ (fun _ _ _ _ _ => trivial) (fun w x2 σ H9 H1 hi hP hx => ?_) (fun σ H1 hP => ?_)
    · obtain ⟨rfl, rfl⟩ := hx
      obtain ⟨⟨B2, G4, u18, u19, J, sg4, eU, rfl⟩⟩ := hP
      have hw : w < 4 := hi
      have gh1 := J.W.g _ _ J.gh
      walk_at "go"
      refine ⟨at2 hh b, ?_⟩
      walk_at "go"
      refine (?_ : SK [.int (0 + (w : Int)), .ref (yy b), .ref (hh b), x] H1 _ E0)
      rw [← e3, Int.zero_add]
      refine ⟨s, l, n2, B2.S b, B2.a b, G4, _, w, x, (by rw [J.ey b, J.eh b]), hw, J.ask b, (J.ok b).hm, (by rw [eU]; exact hb), th3.same sg4, fun j hj H' S' a' m h1 h2 W' => ?_, fun hn H' S' a' G' q m h1 h2 sg hq W' => ?_⟩
      · rw [eU] at hj
        have J' := J.back b W' m (Same.refl G4) h1 h2
        have hd := hdu1 j hj
        subst hd
        have ed : decide (V.int j = V.int j) = true := decide_eq_true rfl
        have ed2 : (!decide (V.int j = V.int j)) = false := by rw [ed]; rfl
        have eU2 : ((B2.put b S' (B2.UL b) a').S b).U = (B'.S b).U := by
          show (upB B2.S b S' b).U = _
          rw [upB_at, m.U]; exact eU
        walk_at "go"
        exact ⟨⟨_, G4, _, _, J', sg4, eU2, rfl⟩⟩
      · rw [eU] at hn
        have J' := J.back b W' m sg h1 h2
        have hd := hdu2 hn
        subst hd
        have eU2 : ((B2.put b S' (B2.UL b) a').S b).U = (B'.S b).U := by
          show (upB B2.S b S' b).U = _
          rw [upB_at, m.U]; exact eU
        walk_at "go"
        intro q2 fq2
        have s2 := same_new fq2 (.tup [V.str "bad", v, V.int 3, V.int 4, V.int 5])
        have hq2 := upd_same (H := H') (a := q2) (o := .tup [V.str "bad", v, V.int 3, V.int 4, V.int 5])
        have hq1 := s2 _ _ (J'.W.g _ _ hq)
        have J2 := J'.same s2
        have sd2 := sd.same (((sg4.trans sg).trans J'.W.g).trans s2)
        generalize upd H' q2 (.tup [V.str "bad", v, V.int 3, V.int 4, V.int 5]) = H2 at J2 hq2 hq1 sd2 ⊢
        refine (?_ : SS [.ref q, .ref q2] H2 _ E0)
        rw [← e6]
        refine ⟨_, _, rfl, .tup hq1 hq2 rfl (by show 5 ≤ 1000000; decide) (fun i x1 y1 hx hy => ?_), fun H3 s3 => ?_⟩
        · match i, hx, hy with
          | 0, hx, hy => cases hx; cases hy; exact .str 2 _
          | 1, hx, hy => cases hx; cases hy; exact sd2
          | 2, hx, hy => cases hx; cases hy; exact .int 2 _
          | 3, hx, hy => cases hx; cases hy; exact .int 2 _
          | 4, hx, hy => cases hx; cases hy; exact .int 2 _
          | i + 5, hx, _ => cases hx
        have J3 := J2.same s3
        have hq3 := s3 _ _ hq1
        walk_at "go"
        exact ⟨⟨_, G', _, _, J3, sg4.trans sg, eU2, rfl⟩⟩
    · obtain ⟨⟨B2, G4, u18, u19, J, sg4, eU, rfl⟩⟩ := hP
      exact kb _ _ ⟨B2, G4, _, _, J, rfl⟩
  obtain ⟨B2, G4, u18, u19, I14, rfl⟩ := hm
  have hyb := (I14.W.y b).y_
  rw [I14.ey b] at hyb
  walk_at "go"
  refine (?_ : SD [.ref (yy b), .int 0] H12 _ _)
  rw [← e7, ← I14.ey b]
  refine set_b (I14.ask b) (.int 0) (fun j hj H' W' => ?_) (fun z => nomatch z)
  have J' := I14.back b W' ⟨rfl, rfl, rfl, rfl⟩ (Same.refl G4) rfl rfl
  rw [I14.ey b]
  exact k' _ _ _ _ n2 (by omega) J' ⟨_, rfl, rfl⟩
end
end K17

set_option Elab.async false
set_option linter.all false
set_option maxRecDepth 100000
set_option maxHeartbeats 0

namespace K17
open PySem PySem.Spec PyProof.Rows L2 RC
section
variable {P : Program} {w : World} {K : PySem.W.Frag} {mg : Str → Option Value} {base : Heap}
/-! ### the law -/
def spLaw (K : PySem.W.Frag) : Sp := fun vs H Q _ => ∃ (a : Addr) (ns : List Int), vs = [.ref a] ∧ ns.length ≤ 63 ∧ SqL K H a (ns.map V.int) ∧ ∀ H', Q (.bl true) H'
/-- a handler was made -/
structure Md (S S' : YS) : Prop where
  T : S'.T = S.T
  U : S'.U = S.U
  h : S'.hm = true
theorem mk_h {K : PySem.W.Frag} {H : Hp} {s l : Addr} {n : Nat} {S : YS} {a : Ro → Addr} {cs : List RS.Comp} {Q : VK} {E : XK} (hc : HCls K (CN K)) (W : RS.Wd H s l n (cY K S a :: cs)) (c : S.hm = false) (hl : S.md.length ≤ 900) {x dx : Addr} (hx : H x = none) (hdx : H dx = none) (ne : dx ≠ x)
    (h : ∀ H' S' a', RS.Wd H' s l n (cY K S' a' :: cs) → Md S S' → a' .h = x → a' .y = a .y → Q .non H') : spHandlerInit K [.ref x, .ref (a .y)] (upd (upd H dx (.own x)) x (.ins (CN K) dx [])) Q E := by
  have R : YR K S a H := W.hd
  have up : ∀ {b o}, H b = some o → upd (upd H dx (.own x)) x (.ins (CN K) dx []) b = some o := fun {b o} hb => by rw [upd_ne (ne_of_none hb hx), upd_ne (ne_of_none hb hdx)]; exact hb
  have hy := R.y_
  have hmd := R.md_
  refine ⟨x, CN K, dx, a .y, _, a .md, _, S.md, rfl, upd_same, hc, (Ne.symm (ne_of_none hy hx)), up hy, rfl, rfl, up hmd, by omega, fun H' hM => ?_⟩
  obtain ⟨lf, k1, k2, k3, k4, k5⟩ := hM
  obtain ⟨R1, M1⟩ := R.mkH c hx (fun b o hb e => k1 b o (ne_of_none e hx) hb (up e)) k3 k5
  exact h H' _ _ (W.mv (c' := cY K _ _) R1 M1) ⟨rfl, rfl, rfl⟩ rfl rfl
theorem ok_yard_init2 {f : Addr} (T : Txt P w K mg) (F : Stands K "__init__" "Yard.__init__" s_Yard_init [.int 0] f)
    (c_Logger_init : Callable P w K mg base 2 (He.ma K (He.ga K "Logger") "__init__") ["self", "yard", "name", "level"] [] (spLoggerInit K))
    (c_StreamHandler_init_d1 : Callable P w K mg base 3 (He.ma K (He.ga K "StreamHandler") "__init__") ["self", "yard", "stream"] [.str "stderr"] (spStreamInit K)) : Callable P w K mg base 5 f ["self", "now"] [] (spYardInit K) :=
  F.call sc_Yard_init 2 1 len_yard_init (fun cdv A outer s H vs Q E hr h => body_yard_init T hr h c_Logger_init c_StreamHandler_init_d1) (fun z => nomatch z) fun _ => ⟨rfl, fun _ _ _ _ _ _ _ us its hl hi => match us, hl, its, hi with | [_, _], _, [_], _ => ⟨_, rfl, rfl⟩⟩
structure HI (K : PySem.W.Frag) (s l D y0 y1 : Addr) (B0 : RS.Comp) (B1 : RS.Comp) (G : Hp) (i : Nat) (H : Hp) : Prop where
  ex : ∃ S0 S1 a0 a1, RS.Wd H s l 0 [RS.cell D (.lst ([V.ref (a0 .h), V.ref (a1 .h)].take i)), cY K S0 a0, B0, cY K S1 a1, B1, RS.cG G] ∧ a0 .y = y0 ∧ a1 .y = y1 ∧ (i = 0 → S0 = YS.s0 0) ∧ (0 < i → Md (YS.s0 0) S0) ∧ (i ≤ 1 → S1 = YS.s0 5) ∧ (1 < i → Md (YS.s0 5) S1)
structure LI (K : PySem.W.Frag) (yy hh tt : Bool → Addr) (YL TL HL a s l : Addr) (i : Nat) (σ : L2.St) (H : Hp) : Prop where
  ex : ∃ B G n, n ≤ 1 + 10 * i ∧ TI K yy hh tt YL TL HL s l i n B G H ∧ ∃ o, o.length = 15 ∧ σ = sgA a s YL TL HL ++ o
theorem sok0 {S S0 : YS} (m : Md S S0) (e1 : S.T = T0) (e2 : S.U = U0) : SOk S0 UL0 0 := by
  refine ⟨m.h, ?_, ?_, ?_, ?_, ?_, ?_⟩
  · rw [m.U, e2]; exact (by decide +kernel : U0.Perm UL0)
  · rw [m.U, e2]; decide +kernel
  · rw [m.U, e2]; decide
  · rw [m.T, e1]; decide
  · rw [m.U, e2]; decide +kernel
  · rw [m.T, e1]; decide +kernel
theorem law_body (T : Txt P w K mg) {f : Addr} {cdv : Value} {A : Around} {outer : List Env} {st0 : Shared} {E : XK} {vs : List V} {H : Hp} {Q : VK} (hr : Room 9 (A.deeper (envOfC "law" (defScope s_law) st0.heap.objs.size f cdv))) (hsp : spLaw K vs H Q E)
    (c__law_draw : Callable P w K mg base 1 (He.ga K "_law_draw") ["_law_stream", "_law_many"] [] spDraw)
    (c__law_pick : Callable P w K mg base 2 (He.ga K "_law_pick") ["_law_stream", "_law_some"] [] (spPick K))
    (c_Yard_add_level_name : Callable P w K mg base 1 (He.ma K (He.ga K "Yard") "add_level_name") ["self", "level", "name"] [] (spAddN K))
    (c_Yard_add_level_name_kw_name_level : RK.CallKw P w K mg base 1 (He.ma K (He.ga K "Yard") "add_level_name") ["self", "level", "name"] 1 ["name", "level"] (fun vs zs => vs ++ zs.reverse) (spAddN K))
    (c__law_named_right : Callable P w K mg base 6 (He.ga K "_law_named_right") ["_law_yard", "_law_tables"] [] (spRight K))
    (c__law_number : Callable P w K mg base 1 (He.ga K "_law_number") ["_law_thing", "_law_tables"] [] spNum)
    (c__law_copied : Callable P w K mg base 4 (He.ga K "_law_copied") ["_law_thing"] [] (spCop K 3))
    (c__law_asked : Callable P w K mg base 7 (He.ga K "_law_asked") ["_law_way", "_law_yard", "_law_handler", "_law_thing"] [] (spAsked K))
    (c__law_same : Callable P w K mg base 5 (He.ga K "_law_same") ["_law_found", "_law_due"] [] (spSame 4))
    (c_Yard_disable : RQ.CallX P w K mg base 4 (He.ma K (He.ga K "Yard") "disable") ["self", "level"] [] (spDisX K))
    (c_Yard_init_d1 : Callable P w K mg base 5 (He.ma K (He.ga K "Yard") "__init__") ["self", "now"] [.int 0] (spYardInit K))
    (c_Yard_init : Callable P w K mg base 5 (He.ma K (He.ga K "Yard") "__init__") ["self", "now"] [] (spYardInit K))
    (c__law_first_names : Callable P w K mg base 1 (He.ga K "_law_first_names") [] [] spFirst)
    (c_NullHandler_init : Callable P w K mg base 2 (He.ma K (He.ga K "NullHandler") "__init__") ["self", "yard"] [] (spHandlerInit K)) :
    ∃ t, PSs (cxOf CX0 P w K mg base nm_law "law" (defScope s_law) f cdv A outer st0 H E).nox (defBody s_law) t ∧ t { nx := fun _ H' => Q .non H', rt := Q } (start nm_law vs) H := by
  obtain ⟨a, ns, rfl, hn, hS, hQ⟩ := hsp
  obtain ⟨t1, hturn, qturn⟩ := turn (f := f) (cdv := cdv) (outer := outer) (st0 := st0) (H := H) (E := E) T hr c__law_draw c__law_pick c_Yard_add_level_name c_Yard_add_level_name_kw_name_level c__law_named_right c__law_number c__law_copied c__law_asked c__law_same c_Yard_disable
  generalize e1 : spYardInit K = SY at c_Yard_init_d1 c_Yard_init
  generalize e2 : spFirst = SF at c__law_first_names
  generalize e3 : spHandlerInit K = SH at c_NullHandler_init
  refine ⟨_, (pss_cons (ps_set (i := 1) sc_law.nd rfl (by first | exact Or.inl rfl | exact Or.inr rfl) (pe_lst (pa_cons (pe_callTy call_list_of (by rfl) T.b_list (by decide +kernel) (pa_cons (pv 0) pa_nil)) (pa_cons pe_int (pa_cons pe_int (pa_cons pe_int pa_nil))))))
      (pss_cons (ps_asg (pe_tup (pa_cons (pe_lst (pa_cons (pe_mk0 T.k_Yard T.g_Yard c_Yard_init_d1 (hr.mono (by first | decide | exact Nat.le_refl _)) (by rfl)) (pa_cons (pe_mk T.k_Yard T.g_Yard c_Yard_init (hr.mono (by first | decide | exact Nat.le_refl _)) (by rfl) (pa_cons pe_int pa_nil)) pa_nil))) (pa_cons (pe_lst (pa_cons (pe_fn0 T.g__law_first_names c__law_first_names (hr.mono (by first | decide | exact Nat.le_refl _)) (by rfl)) (pa_cons (pe_fn0 T.g__law_first_names c__law_first_names (hr.mono (by first | decide | exact Nat.le_refl _)) (by rfl)) pa_nil))) pa_nil))) (RG.pg_tupK (K := K) (n := 2) (by rfl) (pgs_cons (pg_name (i := 2) sc_law.nd rfl (by first | exact Or.inl rfl | exact Or.inr rfl)) (pgs_cons (pg_name (i := 3) sc_law.nd rfl (by first | exact Or.inl rfl | exact Or.inr rfl)) pgs_nil))))
      (pss_cons (ps_setLc (i := 4) (own := [("_law_one", 5)]) (by rfl) sc_law.nd rfl rfl (sw_true rfl rfl rfl (by decide +kernel)) (pi_list (pv 2)) (blkOk_by (own := [("_law_one", 5)]) (N := nm_law) (sc := defScope s_law) (by decide +kernel)) (fun _ _ _ _ _ => (pg_name (i := 5) sc_law.nd rfl (by first | exact Or.inl rfl | exact Or.inr rfl))) (fun _ _ _ _ _ => pts_nil) (fun _ _ _ _ _ => (pe_mk T.k_NullHandler T.g_NullHandler c_NullHandler_init (hr.mono (by first | decide | exact Nat.le_refl _)) (by rfl) (pa_cons (pv 5) pa_nil))))
      (pss_cons (ps_for PassesOwn.never rfl (pi_range1 (by rfl) T.b_range (pa_cons (pe_op op_add pe_int (pe_fn T.g__law_draw c__law_draw (hr.mono (by first | decide | exact Nat.le_refl _)) (by rfl) (pa_cons (pv 1) (pa_cons pe_int pa_nil)))) pa_nil)) (pg_name (i := 6) sc_law.nd rfl (by first | exact Or.inl rfl | exact Or.inr rfl)) hturn)
      (pss_one (ps_ret pe_bl)))))), ?_⟩
  walk_at "in"
  refine seq_of (fun σ' H' => ∃ l s, Stm H' s l 0 ∧ σ' = [some (.ref a), some (.ref s), none, none, none, none, none, none, none, none, none, none, none, none, none, none, none, none, none, none]) (fun b' kb => ?_) (fun σ' H1 hm => ?_)
  · refine ⟨_, rfl, a, ns.map V.int, rfl, .inl hS, fun l hl => ⟨(by show 4 ≤ sizeLine; decide), fun s hs => ?_⟩⟩
    have st1 : Stm (upd (upd H l (.lst (ns.map V.int))) s (.lst [.ref l, .int 0, .int 0, .int 0])) s l 0 := by
      have n1 := (upd_none hs).1
      exact ⟨n1, ns, 0, 0, 0, upd_same, by rw [upd_ne (Ne.symm n1)]; exact upd_same, hn, by decide, by decide, by decide, by decide, by decide⟩
    exact kb _ _ ⟨l, s, st1, rfl⟩
  obtain ⟨l, s, st1, rfl⟩ := hm
  have W0 : RS.Wd H1 s l 0 [] := ⟨st1, (fun c h => by cases h), .nil, (fun c h => by cases h)⟩
  have W1 := W0.g0'
  refine seq_of (fun σ' H' => ∃ YL TL a0 a1 bd0 bd1 G, RS.Wd H' s l 0 [RS.cG G, cT T0 UL0 bd1, cT T0 UL0 bd0, cY K (YS.s0 5) a1, cY K (YS.s0 0) a0] ∧ G YL = some (.lst [.ref (a0 .y), .ref (a1 .y)]) ∧ G TL = some (.lst [.ref (bd0 .t), .ref (bd1 .t)]) ∧ σ' = [some (.ref a), some (.ref s), some (.ref YL), some (.ref TL), none, none, none, none, none, none, none, none, none, none, none, none, none, none, none, none]) (fun b' kb => ?_) (fun σ' H2 hm => ?_)
  · walk_at "go"
    intro y0 d0 h1 h2 h3
    refine (?_ : SY [.ref y0, .int 0] _ _ E0)
    rw [← e1]
    refine ⟨y0, d0, 0, rfl, upd_same, fun H2 q N => ⟨rfl, ?_⟩⟩
    obtain ⟨a0, ey0, R0, fr0, s2⟩ := YNew.repF h1 h2 h3 N
    have W2 := W1.add (c := cY K (YS.s0 0) a0) s2 R0 fr0
    clear N R0 fr0 s2 h1 h2 h3 W1 W0 st1
    subst ey0
    walk_at "go"
    intro y1 d1 h1 h2 h3
    refine ⟨y1, d1, 5, rfl, upd_same, fun H3 q N => ⟨rfl, ?_⟩⟩
    obtain ⟨a1, ey1, R1, fr1, s3⟩ := YNew.repF h1 h2 h3 N
    have W3 := W2.add (c := cY K (YS.s0 5) a1) s3 R1 fr1
    clear N R1 fr1 s3 h1 h2 h3 W2
    subst ey1
    walk_at "go"
    intro YL fY
    obtain ⟨W4, _⟩ := (W3.up2).lay (o := .lst [.ref (a0 .y), .ref (a1 .y)]) fY
    have gY := upd_same (H := (fun _ => none : Hp)) (a := YL) (o := .lst [.ref (a0 .y), .ref (a1 .y)])
    generalize upd H3 YL (.lst [.ref (a0 .y), .ref (a1 .y)]) = H4 at W4 ⊢
    generalize upd (fun _ => none : Hp) YL (.lst [.ref (a0 .y), .ref (a1 .y)]) = G1 at W4 gY ⊢
    clear fY W3
    walk_at "go"
    refine (?_ : SF [] H4 _ E0)
    rw [← e2]
    refine ⟨rfl, fun H5 bd0 s5 L0 f0 => ?_⟩
    have W5 := W4.add (c := cT T0 UL0 bd0) s5 L0 (fun r _ _ => f0 r)
    clear s5 L0 f0 W4
    walk_at "go"
    intro H6 bd1 s6 L1 f1
    have W6 := W5.add (c := cT T0 UL0 bd1) s6 L1 (fun r _ _ => f1 r)
    clear s6 L1 f1 W5
    walk_at "go"
    intro TL fT
    obtain ⟨W7, sg⟩ := (W6.up2).lay (o := .lst [.ref (bd0 .t), .ref (bd1 .t)]) fT
    have gT := upd_same (H := G1) (a := TL) (o := .lst [.ref (bd0 .t), .ref (bd1 .t)])
    have gY2 := sg _ _ gY
    generalize upd H6 TL (.lst [.ref (bd0 .t), .ref (bd1 .t)]) = H7 at W7 ⊢
    generalize upd G1 TL (.lst [.ref (bd0 .t), .ref (bd1 .t)]) = G2 at W7 gT gY2 ⊢
    clear fT W6
    walk_at "go"
    intro q fq
    have W8 := W7.same (same_new fq (.tup [.ref YL, .ref TL]))
    refine ⟨q, _, rfl, SqT.of upd_same, rfl, _, _, rfl, _, _, rfl, rfl, ?_⟩
    exact kb _ _ ⟨YL, TL, a0, a1, bd0, bd1, G2, W8, gY2, gT, rfl⟩
  obtain ⟨YL, TL, a0, a1, bd0, bd1, G, W2, gY, gT, rfl⟩ := hm
  have gY2 := W2.g0 _ _ gY
  have hcN : HCls K (CN K) := ⟨T.c_NullHandler, T.n_NullHandler_filters, T.n_NullHandler_yard, T.n_NullHandler_level, T.n_NullHandler_formatter, T.n_NullHandler_name, T.n_NullHandler_terminator, T.n_NullHandler_closed⟩
  refine seq_of (fun σ' H' => ∃ HL S0 S1 c0 c1 G', RS.Wd H' s l 0 [RS.cG G', cY K S0 c0, cT T0 UL0 bd0, cY K S1 c1, cT T0 UL0 bd1] ∧ Same G G' ∧ G' HL = some (.lst [.ref (c0 .h), .ref (c1 .h)]) ∧ c0 .y = a0 .y ∧ c1 .y = a1 .y ∧ Md (YS.s0 0) S0 ∧ Md (YS.s0 5) S1 ∧ ∃ o5, σ' = [some (.ref a), some (.ref s), some (.ref YL), some (.ref TL), some (.ref HL), o5, none, none, none, none, none, none, none, none, none, none, none, none, none, none]) (fun b' kb => ?_) (fun σ' H3 hm => ?_)
  · walk_at "go"
    intro D hD
    have p1 : (RS.cG G :: cT T0 UL0 bd1 :: cT T0 UL0 bd0 :: cY K (YS.s0 5) a1 :: [cY K (YS.s0 0) a0]).Perm (RS.cG G :: cT T0 UL0 bd1 :: cT T0 UL0 bd0 :: cY K (YS.s0 5) a1 :: [cY K (YS.s0 0) a0]) := List.Perm.refl _
    have W3 : RS.Wd H2 s l 0 [cY K (YS.s0 0) a0, cT T0 UL0 bd0, cY K (YS.s0 5) a1, cT T0 UL0 bd1, RS.cG G] := RS.Wd.perm W2.up4 (List.Perm.cons _ ((List.Perm.append_left [cT T0 UL0 bd0, cY K (YS.s0 5) a1] (.swap (RS.cG G) (cT T0 UL0 bd1) [])).trans (List.perm_append_comm (l₁ := [cT T0 UL0 bd0, cY K (YS.s0 5) a1]) (l₂ := [RS.cG G, cT T0 UL0 bd1]))))
    have W4 := W3.new (o := .lst []) hD
    clear W3 p1
    refine lc_it (walk_list (xs := [.ref (a0 .y), .ref (a1 .y)])) (fun i H' => HI K s l D (a0 .y) (a1 .y) (cT T0 UL0 bd0) (cT T0 UL0 bd1) G i H') ⟨⟨YS.s0 0, YS.s0 5, a0, a1, W4, rfl, rfl, fun _ => rfl, fun z => absurd z (Nat.lt_irrefl 0), fun _ => rfl, fun z => absurd z (by decide)⟩⟩ (fun i H' _ h => ?_) (fun i x H9 H4 hi hP hy => ?_) (fun H4 hP => ?_)
    · obtain ⟨⟨S0, S1, c0, c1, W, _⟩⟩ := h
      exact SqL.of (RS.Wd.st W (G := G) (by simp) _ _ gY)
    · obtain ⟨rfl, hy⟩ := hy
      obtain ⟨⟨S0, S1, c0, c1, W, ey0, ey1, m0, m0', m1, m1'⟩⟩ := hP
      have hi : i < 2 := hi
      obtain rfl | rfl : i = 0 ∨ i = 1 := by omega
      · cases hy
        have e0 := m0 rfl
        subst e0
        have e1 := m1 (by decide)
        subst e1
        refine ⟨rfl, yes_if ?_⟩
        walk_at "go"
        intro x dx hx hdx hne
        refine (?_ : SH [.ref x, .ref (a0 .y)] _ _ E0)
        rw [← e3, ← ey0]
        refine mk_h hcN W.up1 rfl (by show 0 ≤ 900; decide) hx hdx hne fun H' S' a' W' m hh hy => ⟨rfl, ?_⟩
        have W5 := W'.up1
        have el : HO.lst ([V.ref (a' .h), V.ref (c1 .h)].take (0 + 1)) = .lst (([V.ref (c0 .h), V.ref (c1 .h)].take 0) ++ [V.ref x]) := by rw [hh]; rfl
        refine ⟨_, W5.c0, (by rw [sizeLine_eq]; show 0 < _; decide), ⟨S', YS.s0 5, a', c1, ?_, hy.trans (ey0.trans ey0.symm), ey1, fun z => absurd z (by decide), fun _ => m, fun _ => rfl, fun z => absurd z (by decide)⟩⟩
        rw [el]
        exact W5.set
      · cases hy
        have e0 := m1 (Nat.le_refl 1)
        subst e0
        refine ⟨rfl, yes_if ?_⟩
        walk_at "go"
        intro x dx hx hdx hne
        refine (?_ : SH [.ref x, .ref (a1 .y)] _ _ E0)
        rw [← e3, ← ey1]
        refine mk_h hcN W.up3 rfl (by show 0 ≤ 900; decide) hx hdx hne fun H' S' a' W' m hh hy => ⟨rfl, ?_⟩
        have W5 := W'.dn3
        have el : HO.lst ([V.ref (c0 .h), V.ref (a' .h)].take (1 + 1)) = .lst (([V.ref (c0 .h), V.ref (c1 .h)].take 1) ++ [V.ref x]) := by rw [hh]; rfl
        refine ⟨_, W5.c0, (by rw [sizeLine_eq]; show 1 < _; decide), ⟨S0, S', c0, a', ?_, ey0, hy.trans (ey1.trans ey1.symm), fun z => absurd z (by decide), fun _ => m0' (by decide), fun z => absurd z (by decide), fun _ => m⟩⟩
        rw [el]
        exact W5.set
    · obtain ⟨⟨S0, S1, c0, c1, W, ey0, ey1, m0, m0', m1, m1'⟩⟩ := hP
      have W : RS.Wd H4 s l 0 ([RS.cell D (.lst [V.ref (c0 .h), V.ref (c1 .h)]), cY K S0 c0, cT T0 UL0 bd0, cY K S1 c1, cT T0 UL0 bd1] ++ [RS.cG G]) := W
      have W5 := RS.Wd.perm W (List.perm_append_singleton _ _).symm
      obtain ⟨W6, hn⟩ := W5.take
      exact kb _ _ ⟨D, S0, S1, c0, c1, _, W6, same_new hn _, upd_same, ey0, ey1, m0' (by show 0 < 2; decide), m1' (by show 1 < 2; decide), _, rfl⟩
  obtain ⟨HL, S0, S1, c0, c1, G', W3, sg, gH, ey0, ey1, m0, m1, o5, rfl⟩ := hm
  have st3 := W3.stm
  walk_at "go"
  intro H4 d o4 st4 h1 h2
  have W4 := W3.old o4 st4
  walk_at "go"
  have g1 := sg _ _ gY
  have g2 := sg _ _ gT
  have W5 : RS.Wd H4 s l 1 [cY K S0 c0, cT S0.T UL0 bd0, cY K S1 c1, cT S1.T UL0 bd1, RS.cG G'] := by
    rw [m0.T, m1.T]
    exact RS.Wd.perm W4 (List.perm_append_singleton (RS.cG G') [cY K S0 c0, cT T0 UL0 bd0, cY K S1 c1, cT T0 UL0 bd1])
  have I0 : TI K (fun b => if b = true then a0 .y else a1 .y) (fun b => if b = true then c0 .h else c1 .h) (fun b => if b = true then bd0 .t else bd1 .t) YL TL HL s l 0 1 ⟨fun b => if b = true then S0 else S1, fun _ => UL0, fun b => if b = true then c0 else c1, fun b => if b = true then bd0 else bd1⟩ G' H4 :=
    { W := W5, ok := fun b => by
        cases b with
        | true => exact sok0 m0 rfl rfl
        | false => exact sok0 m1 rfl rfl
      ey := fun b => by
        cases b with
        | true => exact ey0
        | false => exact ey1
      eh := fun b => by cases b <;> rfl
      et := fun b => by cases b <;> rfl
      gy := g1, gt := g2, gh := gH }
  generalize (fun b : Bool => if b = true then a0 .y else a1 .y) = yy at I0
  generalize (fun b : Bool => if b = true then c0 .h else c1 .h) = hh at I0
  generalize (fun b : Bool => if b = true then bd0 .t else bd1 .t) = tt at I0
  refine for_it walk_range (fun i σ H' => LI K yy hh tt YL TL HL a s l i σ H') ⟨⟨_, _, _, by omega, I0, [o5, none, none, none, none, none, none, none, none, none, none, none, none, none, none], rfl, rfl⟩⟩ (fun _ _ _ _ _ => trivial) (fun i x σ H11 H12 hi hP hx => ?_) (fun σ H12 hP => ?_)
  · obtain ⟨rfl, rfl⟩ := hx
    obtain ⟨⟨B, G2, n', hn', I2, o, hl, rfl⟩⟩ := hP
    have hi2 : i < 16 := by omega
    obtain ⟨o3, o4, o5, o6, o7, o8, o9, o10, o11, o12, o13, o14, o15, o16, o17, rfl⟩ : ∃ o3 o4 o5 o6 o7 o8 o9 o10 o11 o12 o13 o14 o15 o16 o17, o = [o3, o4, o5, o6, o7, o8, o9, o10, o11, o12, o13, o14, o15, o16, o17] := by
      match o, hl with
      | [a3, a4, a5, a6, a7, a8, a9, a10, a11, a12, a13, a14, a15, a16, a17], _ => exact ⟨_, _, _, _, _, _, _, _, _, _, _, _, _, _, _, rfl⟩
    refine qturn H12 _ I2 (by omega) (by omega) (0 + (i : Int)) _ _ _ _ _ _ _ _ _ _ _ _ _ _ (fun σ H' B' G' n2 h0 h1 h2 => ?_)
    exact ⟨⟨B', G', n2, by omega, h1, h2⟩⟩
  · walk_at "go"
    exact hQ _
end
end K17

set_option Elab.async false
set_option linter.all false
set_option maxRecDepth 100000
set_option maxHeartbeats 0
namespace K17
open PySem PySem.Spec PyProof.Rows L2 RC
section
variable {P : Program} {w : World} {K : PySem.W.Frag} {mg : Str → Option Value} {base : Heap}
/-! ### all together -/
theorem ok_law {f : Addr} {fd : FuncData} (T : Txt P w K mg) (F : FunD K "law" "law" (defArgs s_law) (defBody s_law) (defScope s_law) [] [] f fd) : FnOk P w K mg base CX0 10 f fd ["_law_script"] (spLaw K) := by
  have c__law_draw := ok_draw (base := base) T T.d__law_draw
  have c__law_pick := ok_pick (base := base) T T.d__law_pick c__law_draw
  have c_Yard_add_level_name := ok_addN (base := base) T T.d_Yard_add_level_name
  have c_Yard_add_level_name_kw_name_level := ok_addN_kw (base := base) T T.d_Yard_add_level_name
  have c_Yard_level_names := ok_names (base := base) T T.d_Yard_level_names
  have c_Yard_level_name := ok_level_name (base := base) T T.d_Yard_level_name
  have c__law_same := ok_same (base := base) T T.d__law_same rfl 4
  have c__law_named_right := ok_right (base := base) T T.d__law_named_right c_Yard_level_names c_Yard_level_name c__law_same
  have c__law_number := ok_num (base := base) T T.d__law_number
  have c__law_copied := ok_cop (base := base) T T.d__law_copied rfl 3
  have c_is_part := ok_is_part (base := base) T T.d_is_part
  have c_are_parts := ok_are_parts (base := base) T T.d_are_parts c_is_part
  have c_Filterer_init := ok_filterer_init (base := base) T T.d_Filterer_init
  have c_Logger_init := ok_logger_init (base := base) T T.d_Logger_init c_Filterer_init
  have c_parent_of := ok_parent (base := base) T T.d_parent_of
  have c_place_loggers := ok_placeAll (base := base) T T.d_place_loggers c_parent_of
  have c_Yard_getLogger := ok_getLog (base := base) T T.d_Yard_getLogger c_are_parts c_Logger_init c_place_loggers
  have c_is_integer := ok_is_integer (base := base) T T.d_is_integer
  have c_BadLevel_init := ok_badlevel_init (base := base) T T.d_BadLevel_init
  have c_Yard_level_of := ok_level_of (base := base) T T.d_Yard_level_of c_is_integer c_BadLevel_init
  have c_Logger_setLevel := ok_lset (base := base) T T.d_Logger_setLevel c_Yard_level_of
  have c_NullHandler_setLevel := ok_hset (base := base) T T.d_NullHandler_setLevel c_Yard_level_of
  have c_Yard_disable := ok_disable (base := base) T T.d_Yard_disable c_Yard_level_of
  have c_copied_value := ok_copied (base := base) T T.d_copied_value
  have c_LogRecord_init := ok_rec_init (base := base) T T.d_LogRecord_init c_copied_value
  have c_Yard_make_record_d2 := ok_make_record (base := base) T T.d_Yard_make_record c_Yard_level_of c_Yard_level_name c_LogRecord_init
  have c_Yard_bar := ok_bar (base := base) T T.d_Yard_bar
  have i_Yard_bar := i_bar (base := base) T T.d_Yard_bar
  have c__law_asked := ok_asked (base := base) T T.d__law_asked c_Yard_getLogger c_Logger_setLevel c_NullHandler_setLevel c_Yard_disable c_Yard_make_record_d2 c_Yard_bar i_Yard_bar
  have c_Yard_enrol := ok_enrol (base := base) T T.d_Yard_enrol
  have c_Handler_init := ok_handler_init (base := base) T T.d_Handler_init c_Filterer_init c_Yard_enrol
  have c_StreamHandler_init_d1 := ok_stream_init (base := base) T T.d_StreamHandler_init c_Handler_init
  have c_Yard_init_d1 := ok_yard_init (base := base) T T.d_Yard_init c_Logger_init c_StreamHandler_init_d1
  have c_Yard_init := ok_yard_init2 (base := base) T T.d_Yard_init c_Logger_init c_StreamHandler_init_d1
  have c__law_first_names := ok_first (base := base) T T.d__law_first_names
  have c_NullHandler_init := ok_handler_init (base := base) T T.d_NullHandler_init c_Filterer_init c_Yard_enrol
  refine F.ok sc_law (fun vs H Q E h => ?_) (fun cdv A outer s H vs Q E hr hsp => ?_)
  · obtain ⟨a, ns, rfl, _⟩ := h; rfl
  obtain ⟨t, h, q⟩ := law_body T hr hsp c__law_draw c__law_pick c_Yard_add_level_name c_Yard_add_level_name_kw_name_level c__law_named_right c__law_number c__law_copied c__law_asked c__law_same c_Yard_disable c_Yard_init_d1 c_Yard_init c__law_first_names c_NullHandler_init
  exact ⟨t, h.nox, q⟩
theorem facts {f : Addr} {h : Heap} (X : K.In h) (G : h.Ns mainGlobals mg) (hfa : mg ("law" : Str) = some (.ref f)) (c : RB.SaysB fa fx fn ts w K) :
    ∃ fd : FuncData, (∀ (s : Shared) (v : Value), BindsTo s fd ⟨[v], []⟩ [("_law_script", v)]) ∧ ∀ base : Heap, FnOk P w K mg base CX0 10 f fd ["_law_script"] (spLaw K) := by
  have T : Txt P w K mg := Txt.of X G c
  obtain ⟨fd, F⟩ := T.d_law
  have e := hfa.symm.trans T.g_law
  cases e
  have b := FunD.bindsA (ps := ["_law_script"]) F fun _ _ _ _ _ _ us hl => match us, hl with | [_], _ => rfl
  exact ⟨fd, fun s v => b s [v] rfl, fun base => ok_law T F⟩
end
end K17
open PySem PySem.W PySem.Calls PyProof.Rows
set_option maxHeartbeats 0
theorem PySem.Challenge.cw_recordyard_k02_names_of_levels_holds : PySem.Challenge.rw_recordyard_k02_names_of_levels.Holds := by
  w_on; o_law
  refine HandSHeadRun.head_any (r := OpenLaw.row PySem.Challenge.rw_recordyard_k02_names_of_levels) (q := view (OpenLaw.row PySem.Challenge.rw_recordyard_k02_names_of_levels).prog [50]) (H := K17.hk) (ob := K17.ob) (M := 13000) (loose := K17.names) (d := HandSHeadRun.topDef (OpenLaw.row PySem.Challenge.rw_recordyard_k02_names_of_levels).prog 50) (kwd := []) K17.ob_eq
    (by kernel_rfl) (fun s => by kernel_rfl) K17.run (by kernel_rfl) (by kernel_rfl) (by kernel_rfl) (by rfl) (by first | assumption | decide +kernel) (by decide +kernel) ⟨rfl, rfl, rfl, rfl, rfl, by decide +kernel⟩ ?hw ?hc
  case hw => w_witness2
  case hc =>
    refine L2.walk_ofE (l := PySem.Challenge.rw_recordyard_k02_names_of_levels) (n := 63) (k := 10) (x := "_law_script") (CX := L2.CX0) rfl (by decide) (by kernel_rfl) ⟨rfl, by decide, by decide⟩ ?F (fun _ _ _ _ z => z)
    intro w mg fa h Y G hmg0
    obtain ⟨K, KX, c⟩ := Y
    have hmg : mg ("law" : PySem.Str) = some (.ref fa) := by
      have e : (HandSHeadRun.topDef (OpenLaw.row PySem.Challenge.rw_recordyard_k02_names_of_levels).prog 50).name = ("law" : PySem.Str) := by kernel_rfl
      rw [← e]
      exact hmg0
    obtain ⟨fd, hb, hF⟩ := K17.facts (P := (PySem.Challenge.rw_recordyard_k02_names_of_levels).prog) (w := w) KX G hmg c
    exact ⟨K, fd, K17.spLaw K, KX, hb, fun H a ns hl _ hS => ⟨a, ns, rfl, hl, hS, fun _ => rfl⟩, fun base _ _ => hF base⟩
