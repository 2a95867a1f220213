import PyProof.Rows.All
import Wide.All
import OpenK.AllK
import Wide.FinOn
import PyProof.EqAt
import PyProof.EqKinds
import PyProof.TupleCall
import HandS.Base
import HandS.Call
import HandS.List
import HandS.Dict
import HandS.More
import HandS.Slots
import HandS.ClsMeth
import KE.KStateDown
import HandS.Exc
import HandS.IsInst
import HandS.Defaults
import HandS.HeadHook1
import HandS.HeadHook2
import HandS.Head0
import HandS.Head1
import HandS.Head2
import HandS.HeadEnd
import HandS.ExcInit
import HandS.ExcField
import HandS.ForMost
import HandS.Walk
import PyProof.NeKinds
import PyProof.StrBlock2
import HandS.Sort
import HandS.Text
import PyProof.DictUpdate
import HandS.Iter
import HandS.Conv
import HandS.Flow
import HandS.Words
import HandS.HotCalls
import HandS.Style
import HandS.Steps
import HandS.RaiseMore
import HandS.ExcOwn
import HandS.TryMany
import HandS.CallSlots
import HandS.SuiteRaise
import HandS.ExcInitHot
import HandS.NoneIn
import HandS.DeepEq
import HandS.ReplaceList
import HandS.ReplaceLit
import HandS.Zip
import HandS.StrMore
import HandS.Replace
import HandS.ReplaceDef
import PyProof.ListStr
import HandS.DictTup
import HandS.SortOrd
import KE.KSortTupAny
import HandS.CallLocal
import PySem.Challenge.RW_recordyard_k36_streams_written
set_option Elab.async false
set_option linter.all false
set_option maxRecDepth 100000
set_option maxHeartbeats 4000000
/-! Rules beyond the layer: == and != of instances of classes without an own __eq__ (by identity), in and not in over lists of such, a def read off its class. -/
namespace RA
open PySem PySem.Spec PyProof.Rows PySem.SeqAt
/-- a class whose instances are equal by identity -/
structure PlainC (K : PySem.W.Frag) (C : Addr) : Prop where
  mro : PySem.W.mroIn K C (.type "object") = some true
  eq : PySem.W.findIn K (.ref C) "__eq__" = some (some (.builtin "object.__eq__"))
  ne : PySem.W.findIn K (.ref C) "__ne__" = some (some (.builtin "object.__ne__"))
def PairC (K : PySem.W.Frag) (C D : Addr) : Prop := C = D ∨ ∃ b, PySem.W.subIn K (.ref D) (.ref C) = some b
section
variable {M : Model} {prog : Program} {w : World} {A : Around} {E : Value → Shared → Prop} {s : Shared} {K : PySem.W.Frag} {x y C D : Addr} {ox oy : Obj} {od od' : Option Obj}
theorem inst_get (I : PySem.W.InstAt s.heap x ox C od) : s.heap.get? x = some ox := I.at_
theorem inst_notup (I : PySem.W.InstAt s.heap x ox C od) : ox.cls ≠ .type "tuple" := by
  rw [I.cls]; intro z; cases z
theorem eq_same {Q : Value → Shared → Prop} (X : K.In s.heap) (I : PySem.W.InstAt s.heap x ox C od) (hm : PySem.W.mroIn K C (.type "object") = some true) (hq : Q (.bool true) s) :
    wpAny (model prog w) A (call (.builtin "object.__eq__") [.ref x, .ref x]) Q E s :=
  wpAny_call (codeAny_call_builtin F.cmp_object.eq.plain F.cmpEntry_eq (PySem.W.check_slot F.cmpKind_eq F.cmpSplit_eq (I.type.andThen (PySem.W.looks_mroIn X hm)) (F.cmpArgs_eq _ _) (objEq_entry_same hq)))
theorem eq_other {Q : Value → Shared → Prop} (X : K.In s.heap) (I : PySem.W.InstAt s.heap x ox C od) (hm : PySem.W.mroIn K C (.type "object") = some true) (hy : s.heap.get? y = some oy) (hxy : x ≠ y) (hq : Q .notImplemented s) :
    wpAny (model prog w) A (call (.builtin "object.__eq__") [.ref x, .ref y]) Q E s :=
  wpAny_call (codeAny_call_builtin F.cmp_object.eq.plain F.cmpEntry_eq (PySem.W.check_slot F.cmpKind_eq F.cmpSplit_eq (I.type.andThen (PySem.W.looks_mroIn X hm)) (F.cmpArgs_eq _ _) (objEq_entry_other hxy (inst_get I) hy (inst_notup I) hq)))
theorem ifB_ne {args : List Value} {Q : Option Value → Shared → Prop} (X : K.In s.heap) (I : PySem.W.InstAt s.heap x ox C od) (hs : PySem.W.findIn K (.ref C) "__ne__" = some (some (.builtin "object.__ne__")))
    (h : wpAny M A (call (.builtin "object.__ne__") (.ref x :: args)) (fun v => Q (some v)) E s) : wpAny M A (callSpecialIfBound? (.ref x) "__ne__" args) Q E s := by
  simp only [callSpecialIfBound?, bindSpecialIfBound?]
  refine wpAny_holding (wpAny_bind (wpAny_bind (wpAny_bind (I.type.here ((PySem.W.looks_findIn X hs).here ?_)))))
  refine wpAny_bind (wpAny_askSetting (wpAny_ite ?_))
  have fin : wpAny M A (call (.builtin "object.__ne__") ([.ref x] ++ args) >>= fun v => pure (some v)) Q E s := wpAny_bind (wpAny_mono h (fun v s' h' => wpAny_pure h') fun _ _ h' => h')
  split
  · exact wpAny_bind (wpAny_of_eq (F.cmp_object.ne.bind _) (wpAny_pure (by exact fin)))
  · exact wpAny_tryCatch (wpAny_bind (wpAny_of_eq (F.cmp_object.ne.bind _) (wpAny_pure (by exact fin))))
theorem ne_entry_same {Q : Fin → Shared → Prop} (X : K.In s.heap) (I : PySem.W.InstAt s.heap x ox C od) (P : PlainC K C) (hu : A.units < cLine) (hq : Q (.done (.ret (.bool false))) s) :
    wpAny (model prog w) A (Builtin.«object.__ne__» ⟨[.ref x, .ref x], []⟩) Q E s := by
  unfold Builtin.«object.__ne__»
  repeat (first | with_reducible refine wpAny_cRoomFor hu ?_ | with_reducible refine HN.ifBound_objEq X I P.eq (eq_same X I P.mro ?_) | wp_step)
  exact hq
theorem ne_entry_other {Q : Fin → Shared → Prop} (X : K.In s.heap) (I : PySem.W.InstAt s.heap x ox C od) (P : PlainC K C) (hy : s.heap.get? y = some oy) (hxy : x ≠ y) (hu : A.units < cLine) (hq : Q (.done (.ret .notImplemented)) s) :
    wpAny (model prog w) A (Builtin.«object.__ne__» ⟨[.ref x, .ref y], []⟩) Q E s := by
  unfold Builtin.«object.__ne__»
  repeat (first | with_reducible refine wpAny_cRoomFor hu ?_ | with_reducible refine HN.ifBound_objEq X I P.eq (eq_other X I P.mro hy hxy ?_) | wp_step)
  exact hq
theorem try_eq_same {Q : Option Value → Shared → Prop} (X : K.In s.heap) (I : PySem.W.InstAt s.heap x ox C od) (P : PlainC K C) (h : Q (some (.bool true)) s) : wpAny (model prog w) A (tryCompare (.ref x) "__eq__" (.ref x)) Q E s := by
  unfold tryCompare
  exact wpAny_bind (HN.ifBound_objEq X I P.eq (eq_same X I P.mro (wpAny_pure h)))
theorem try_eq_other {Q : Option Value → Shared → Prop} (X : K.In s.heap) (I : PySem.W.InstAt s.heap x ox C od) (P : PlainC K C) (hy : s.heap.get? y = some oy) (hxy : x ≠ y) (h : Q none s) : wpAny (model prog w) A (tryCompare (.ref x) "__eq__" (.ref y)) Q E s := by
  unfold tryCompare
  exact wpAny_bind (HN.ifBound_objEq X I P.eq (eq_other X I P.mro hy hxy (wpAny_pure h)))
theorem try_ne_same {Q : Option Value → Shared → Prop} (hu : A.units + 1 < cLine) (X : K.In s.heap) (I : PySem.W.InstAt s.heap x ox C od) (P : PlainC K C) (h : Q (some (.bool false)) s) : wpAny (model prog w) A (tryCompare (.ref x) "__ne__" (.ref x)) Q E s := by
  unfold tryCompare
  refine wpAny_bind (ifB_ne X I P.ne (wpAny_call (codeAny_call_builtin F.cmp_object.ne.plain F.cmpEntry_ne (PySem.W.check_slot F.cmpKind_ne F.cmpSplit_ne (I.type.andThen (PySem.W.looks_mroIn X P.mro)) (F.cmpArgs_ne _ _) (ne_entry_same (A := A.in1) X I P hu ?_)))))
  exact wpAny_pure h
theorem try_ne_other {Q : Option Value → Shared → Prop} (hu : A.units + 1 < cLine) (X : K.In s.heap) (I : PySem.W.InstAt s.heap x ox C od) (P : PlainC K C) (hy : s.heap.get? y = some oy) (hxy : x ≠ y) (h : Q none s) : wpAny (model prog w) A (tryCompare (.ref x) "__ne__" (.ref y)) Q E s := by
  unfold tryCompare
  refine wpAny_bind (ifB_ne X I P.ne (wpAny_call (codeAny_call_builtin F.cmp_object.ne.plain F.cmpEntry_ne (PySem.W.check_slot F.cmpKind_ne F.cmpSplit_ne (I.type.andThen (PySem.W.looks_mroIn X P.mro)) (F.cmpArgs_ne _ _) (ne_entry_other (A := A.in1) X I P hy hxy hu ?_)))))
  exact wpAny_pure h
theorem rc_same (hu : A.units < cLine) (X : K.In s.heap) (I : PySem.W.InstAt s.heap x ox C od) (P : PlainC K C) : RcAt A s (.ref x) (.ref x) true := fun prog w E Q h => by
  simp only [richCompare, cmpInfo_Eq, oneThing_ref]
  refine wpAny_holding (wpAny_bind (wpAny_cRoomFor hu ?_))
  refine wpAny_bind (I.type.here (wpAny_bind (I.type.here ?_)))
  rw [if_neg (by simp)]
  refine wpAny_bind (wpAny_pure ?_)
  simp only [Bool.false_eq_true, if_false]
  exact wpAny_bind (try_eq_same X I P (wpAny_pure h))
theorem rcn_same (hu : A.units + 1 < cLine) (X : K.In s.heap) (I : PySem.W.InstAt s.heap x ox C od) (P : PlainC K C) {Q : Value → Shared → Prop} (h : Q (.bool false) s) : wpAny (model prog w) A (richCompare .NotEq (.ref x) (.ref x)) Q E s := by
  simp only [richCompare, cmpInfo_NotEq, oneThing_ref]
  refine wpAny_holding (wpAny_bind (wpAny_cRoomFor (Nat.lt_of_succ_lt hu) ?_))
  refine wpAny_bind (I.type.here (wpAny_bind (I.type.here ?_)))
  rw [if_neg (by simp)]
  refine wpAny_bind (wpAny_pure ?_)
  simp only [Bool.false_eq_true, if_false]
  exact wpAny_bind (try_ne_same hu X I P (wpAny_pure h))
theorem rc_other (hu : A.units < cLine) (X : K.In s.heap) (I : PySem.W.InstAt s.heap x ox C od) (J : PySem.W.InstAt s.heap y oy D od') (P : PlainC K C) (P' : PlainC K D) (hp : PairC K C D) (hxy : x ≠ y) : RcAt A s (.ref x) (.ref y) false := fun prog w E Q h => by
  have fin : ∀ (tag : String), wpAny (model prog w) A (rule tag >>= fun _ => isSame (.ref x) (.ref y) >>= fun b => pure (Value.bool b)) Q E s := fun tag =>
    wpAny_bind (wpAny_rule (wpAny_bind (wpAny_isSame_ref_other hxy (inst_get I) (inst_get J) (inst_notup I) (wpAny_pure h))))
  simp only [richCompare, cmpInfo_Eq, oneThing_ref]
  refine wpAny_holding (wpAny_bind (wpAny_cRoomFor hu ?_))
  refine wpAny_bind (I.type.here (wpAny_bind (J.type.here ?_)))
  by_cases hCD : C = D
  · subst hCD
    rw [if_neg (by simp)]
    refine wpAny_bind (wpAny_pure ?_)
    simp only [Bool.false_eq_true, if_false, Bool.not_false, if_true]
    refine wpAny_bind (try_eq_other X I P (inst_get J) hxy ?_)
    refine wpAny_bind (try_eq_other X J P' (inst_get I) (Ne.symm hxy) ?_)
    exact fin _
  · rw [if_pos (by simp [hCD])]
    obtain ⟨b, hb⟩ := hp.resolve_left hCD
    refine wpAny_bind ((PySem.W.looks_subIn X hb).here ?_)
    cases b with
    | false =>
      simp only [Bool.false_eq_true, if_false, Bool.not_false, if_true]
      refine wpAny_bind (try_eq_other X I P (inst_get J) hxy ?_)
      refine wpAny_bind (try_eq_other X J P' (inst_get I) (Ne.symm hxy) ?_)
      exact fin _
    | true =>
      simp only [Bool.not_true, Bool.false_eq_true, if_false, if_true]
      refine wpAny_bind (try_eq_other X J P' (inst_get I) (Ne.symm hxy) ?_)
      refine wpAny_bind (try_eq_other X I P (inst_get J) hxy ?_)
      exact fin _
theorem rcn_other (hu : A.units + 1 < cLine) (X : K.In s.heap) (I : PySem.W.InstAt s.heap x ox C od) (J : PySem.W.InstAt s.heap y oy D od') (P : PlainC K C) (P' : PlainC K D) (hp : PairC K C D) (hxy : x ≠ y) {Q : Value → Shared → Prop} (h : Q (.bool true) s) :
    wpAny (model prog w) A (richCompare .NotEq (.ref x) (.ref y)) Q E s := by
  have fin : ∀ (tag : String), wpAny (model prog w) A (rule tag >>= fun _ => isSame (.ref x) (.ref y) >>= fun b => pure (Value.bool (!b))) Q E s := fun tag =>
    wpAny_bind (wpAny_rule (wpAny_bind (wpAny_isSame_ref_other hxy (inst_get I) (inst_get J) (inst_notup I) (wpAny_pure h))))
  simp only [richCompare, cmpInfo_NotEq, oneThing_ref]
  refine wpAny_holding (wpAny_bind (wpAny_cRoomFor (Nat.lt_of_succ_lt hu) ?_))
  refine wpAny_bind (I.type.here (wpAny_bind (J.type.here ?_)))
  by_cases hCD : C = D
  · subst hCD
    rw [if_neg (by simp)]
    refine wpAny_bind (wpAny_pure ?_)
    simp only [Bool.false_eq_true, if_false, Bool.not_false, if_true]
    refine wpAny_bind (try_ne_other hu X I P (inst_get J) hxy ?_)
    refine wpAny_bind (try_ne_other hu X J P' (inst_get I) (Ne.symm hxy) ?_)
    exact fin _
  · rw [if_pos (by simp [hCD])]
    obtain ⟨b, hb⟩ := hp.resolve_left hCD
    refine wpAny_bind ((PySem.W.looks_subIn X hb).here ?_)
    cases b with
    | false =>
      simp only [Bool.false_eq_true, if_false, Bool.not_false, if_true]
      refine wpAny_bind (try_ne_other hu X I P (inst_get J) hxy ?_)
      refine wpAny_bind (try_ne_other hu X J P' (inst_get I) (Ne.symm hxy) ?_)
      exact fin _
    | true =>
      simp only [Bool.not_true, Bool.false_eq_true, if_false, if_true]
      refine wpAny_bind (try_ne_other hu X J P' (inst_get I) (Ne.symm hxy) ?_)
      refine wpAny_bind (try_ne_other hu X I P (inst_get J) hxy ?_)
      exact fin _
end
end RA
namespace RA
open PySem PySem.Spec PyProof.Rows PySem.SeqAt L2
/-- an instance of a plain class stands there -/
def InsP (K : PySem.W.Frag) (H : Hp) (a C : Addr) : Prop := (∃ dx fs, H a = some (.ins C dx fs)) ∧ PlainC K C
theorem InsP.of {K : PySem.W.Frag} {H : Hp} {a C dx : Addr} {fs : List (Str × V)} (h : H a = some (.ins C dx fs)) (p : PlainC K C) : InsP K H a C := ⟨⟨dx, fs, h⟩, p⟩
section
variable {X : Cx} {pins : List (Addr × Obj)} {σ : L2.St} {H : Hp} {s : Shared}
theorem insp_at {a C : Addr} (I : Inv X pins σ H s) (h : InsP X.K H a C) : ∃ ox od, PySem.W.InstAt s.heap a ox C od := by
  obtain ⟨⟨dx, fs, ha⟩, _⟩ := h
  obtain ⟨mA, O, _⟩ := ins_get I.hok ha
  obtain ⟨od, J, _⟩ := O.look
  exact ⟨_, _, J⟩
/-- x == y: y an instance, None, or a number, a text, a truth -/
def rEqP (K : PySem.W.Frag) : R2 := fun x y H Q => ∃ a C, x = .ref a ∧ InsP K H a C ∧ ((y = .non ∧ Q (.bl false) H) ∨ ∃ b D, y = .ref b ∧ InsP K H b D ∧ PairC K C D ∧ Q (.bl (decide (a = b))) H)
def rNeP (K : PySem.W.Frag) : R2 := fun x y H Q => ∃ a C b D, x = .ref a ∧ InsP K H a C ∧ y = .ref b ∧ InsP K H b D ∧ PairC K C D ∧ Q (.bl (!decide (a = b))) H
theorem op_eqP (hu : X.A.units < cLine) : OpR X (compareOp .Eq) (rEqP X.K) := by
  intro pins s σ H x y v u Q I rx ry h
  obtain ⟨a, C, rfl, ha, h⟩ := h
  cases rx
  obtain ⟨ox, od, Ia⟩ := insp_at I ha
  rcases h with ⟨rfl, q⟩ | ⟨b, D, rfl, hb, hp, q⟩
  · cases ry
    exact HN.rc_none hu I.kIn Ia ha.2.mro ha.2.eq _ _ _ _ (fin_bl I q rfl)
  · cases ry
    obtain ⟨oy, od', Ib⟩ := insp_at I hb
    by_cases z : a = b
    · subst z
      have e : C = D := by
        have h1 := Ia.cls.symm.trans ((congrArg Obj.cls (Option.some.inj (Ia.at_.symm.trans Ib.at_))).trans Ib.cls)
        exact Value.ref.inj h1
      subst e
      exact rc_same hu I.kIn Ia ha.2 _ _ _ _ (fin_bl I q (by simp))
    · exact rc_other hu I.kIn Ia Ib ha.2 hb.2 hp z _ _ _ _ (fin_bl I q (by simp [z]))
theorem op_neP (hu : X.A.units + 1 < cLine) : OpR X (compareOp .NotEq) (rNeP X.K) := by
  intro pins s σ H x y v u Q I rx ry h
  obtain ⟨a, C, b, D, rfl, ha, rfl, hb, hp, q⟩ := h
  cases rx
  cases ry
  obtain ⟨ox, od, Ia⟩ := insp_at I ha
  obtain ⟨oy, od', Ib⟩ := insp_at I hb
  by_cases z : a = b
  · subst z
    exact rcn_same hu I.kIn Ia ha.2 (fin_bl I q (by simp))
  · exact rcn_other hu I.kIn Ia Ib ha.2 hb.2 hp z (fin_bl I q (by simp [z]))
/-- x in l: x an instance, the items instances -/
def rInP (K : PySem.W.Frag) (neg : Bool) : R2 := fun x y H Q => ∃ (a C p : Addr) (as : List Addr), x = .ref a ∧ InsP K H a C ∧ y = .ref p ∧ SqL K H p (as.map V.ref) ∧ (∀ b ∈ as, ∃ D, InsP K H b D ∧ PairC K D C) ∧ Q (.bl (if neg then !decide (a ∈ as) else decide (a ∈ as))) H
theorem eqAt_ref {A : Around} {a b C D : Addr} (I : Inv X pins σ H s) (hu : A.units < cLine) (ha : InsP X.K H a C) (hb : InsP X.K H b D) (hp : PairC X.K D C) : EqAt A s (.ref b) (.ref a) (decide (b = a)) := by
  by_cases z : b = a
  · subst z
    rw [decide_eq_true rfl]
    exact EqAt.same _
  · rw [decide_eq_false z]
    obtain ⟨ox, od, Ia⟩ := insp_at I ha
    obtain ⟨oy, od', Ib⟩ := insp_at I hb
    intro prog w E Q h
    unfold eqBool
    refine wpAny_holding ?_
    refine wpAny_ite_split (fun hab => absurd (eq_of_beq hab) (fun e => z (Value.ref.inj e))) (fun _ => ?_)
    exact wpAny_bind (rc_other hu I.kIn Ib Ia hb.2 ha.2 hp z prog w E _ (wpAny_truthy_bool h))
theorem any_refs {a : Addr} : ∀ {as : List Addr} {us : List Value}, Vals (as.map V.ref) us → us.any (fun u => u == .ref a) = decide (a ∈ as)
  | [], _, .nil => by simp
  | b :: as, u :: us, .cons r t => by
    cases (show u = Value.ref b from r)
    rw [List.any_cons, any_refs t]
    by_cases z : b = a
    · subst z; simp
    · have z' : ¬ a = b := fun e => z e.symm
      simp [z, z']
theorem mem_refs {A : Around} {a C : Addr} (I : Inv X pins σ H s) (hu : A.units < cLine) (ha : InsP X.K H a C) : ∀ {as : List Addr} {us : List Value}, Vals (as.map V.ref) us → (∀ b ∈ as, ∃ D, InsP X.K H b D ∧ PairC X.K D C) → ∀ u ∈ us, EqAt A s u (.ref a) (u == .ref a)
  | [], _, .nil, _ => fun u hu' => by cases hu'
  | b :: as, u :: us, .cons r t, f => fun u' hu' => by
    rcases List.mem_cons.mp hu' with e | hu'
    · subst e
      cases (show u' = Value.ref b from r)
      obtain ⟨D, hb, hp⟩ := f b (List.mem_cons_self ..)
      have e2 : (Value.ref b == Value.ref a) = decide (b = a) := by
        by_cases z : b = a <;> simp [z]
      rw [e2]
      exact eqAt_ref I hu ha hb hp
    · exact mem_refs I hu ha t (fun z hz => f z (List.mem_cons_of_mem _ hz)) u' hu'
theorem op_inP (hu : X.A.units + 64 < cLine) : OpR X (compareOp .In) (rInP X.K false) := by
  intro pins s σ H x y v u Q I rx ry h
  obtain ⟨a, C, p, as, rfl, ha, rfl, hq, f, q⟩ := h
  cases rx
  cases ry
  obtain ⟨its, rv, hl, _⟩ := I.list hq
  have hu1 : X.A.in1.units < cLine := by show X.A.units + 1 < cLine; omega
  refine SeqAt.in_listAt (fun u => u == .ref a) hl.isList (fun z hz => mem_refs I hu1 ha rv f z (by simpa using hz)) ⟨.bl _, H, I, rfl, ?_⟩
  rw [show its.toArray.any (fun u => u == .ref a) = its.any (fun u => u == .ref a) by simp, any_refs rv]
  exact q
theorem op_notInP (hu : X.A.units + 64 < cLine) : OpR X (compareOp .NotIn) (rInP X.K true) := by
  intro pins s σ H x y v u Q I rx ry h
  obtain ⟨a, C, p, as, rfl, ha, rfl, hq, f, q⟩ := h
  cases rx
  cases ry
  obtain ⟨its, rv, hl, _⟩ := I.list hq
  have hu1 : X.A.in1.units < cLine := by show X.A.units + 1 < cLine; omega
  refine SeqAt.notIn_listAt (fun u => u == .ref a) hl.isList (fun z hz => mem_refs I hu1 ha rv f z (by simpa using hz)) ⟨.bl _, H, I, rfl, ?_⟩
  rw [show its.toArray.any (fun u => u == .ref a) = its.any (fun u => u == .ref a) by simp, any_refs rv]
  exact q
/-! ### a def read off its class: C.m(x, ..) -/
structure CFun (K : PySem.W.Frag) (C : Addr) (m : Str) (f : Addr) : Prop where
  ga : PySem.W.specialIn K (.ref C) "__getattribute__" = some (some (.builtin "type.__getattribute__"))
  rd : PySem.W.readsIn K C (.type "type") = true
  at_ : PySem.W.findCls K (.ref C) (.type "type") m = some (.val (.ref f))
  kp : PySem.W.keepIn K (.ref f) = true
def tCFun (C : Addr) (sp : Sp) (dvs : List V) (E : XK) (ta : TE) (t : TA) : TE := fun σ H Q => ta σ H fun x H1 => x = .ref C ∧ t σ H1 fun vs H2 => sp (vs ++ dvs) H2 Q E
theorem pe_cfun {CX : CXT} {k : Nat} {C f : Addr} {fd : FuncData} {ps : List Str} {sp : Sp} {dvs : List V} {ds : List Value} {E : XK} {o e : Expr} {es : List Expr} {m : Str} {pos apos : Pos} {ta : TE} {t : TA} {pl : Sem Bool}
    (he : PE X o ta) (c : CFun X.K C m f) (F : FnOk X.prog X.w X.K X.mg X.base CX k f fd ps sp) (hr : Room k X.A) (hb : Binds X.K fd ps ds) (hd : Vals dvs ds) (hx : Passes CX X E) (ha : PA X (e :: es) t)
    (hst : starEach (e :: es) X.env = (false, eval e X.env) :: starEach es X.env := by rfl) (hpl : (backTo pos (starEach es X.env)).any (·.1) = false := by rfl)
    (ht : eval (.Call (.Attribute o m apos) (e :: es) [] pos) X.env = (do
      let ov ← eval o X.env
      standAt apos.atName
      let (f, first) ← holding [ov] (getMethod ov m pl)
      callWith pos f first (backTo pos (starEach (e :: es) X.env)) (backToKw pos (keywordEach [] X.env))) := by rfl) :
    PE X (.Call (.Attribute o m apos) (e :: es) [] pos) (tCFun C sp dvs E ta t) := by
  refine ⟨fun pins s σ H Q I h => ?_⟩
  refine PySem.W.methodCall_KW (pl := pl) (thn (he.run pins s σ H _ I h) fun u s1 ⟨x, H1, I1, rx, ex, q⟩ => ?_) ht
  subst ex
  obtain rfl : u = Value.ref C := rx
  refine PySem.W.method_cls I1.kIn c.ga (PySem.W.cls_value I1.kIn c.rd c.at_ (handed_of (v := .ref f) rfl) ?_)
  have I2 := I1.tok (s1.toks + 1)
  refine PySem.W.callWith_K (first := []) (h₀ := X.base) I2.ok.mod.kin c.kp (thn (ha.run pos pins _ σ H1 _ I2 q) fun us s2 ⟨vs, H2, I3, r, q2⟩ => ⟨I3.kIn, ?_⟩) hst hpl
  exact run_fn F hr hb hd hx I3 r q2
/-! ### one of two rules -/
theorem PE.or {e : Expr} {t t' : TE} (h : PE X e t) (h' : PE X e t') : PE X e (fun σ H Q => t σ H Q ∨ t' σ H Q) := ⟨fun pins s σ H Q I q => by
  rcases q with q | q
  · exact h.run pins s σ H Q I q
  · exact h'.run pins s σ H Q I q⟩
/-- any of many rules for one expression -/
theorem PE.any {ι : Type} {e : Expr} {t : ι → TE} (S : ι → Prop) (h : ∀ i, S i → PE X e (t i)) : PE X e (fun σ H Q => ∃ i, S i ∧ t i σ H Q) := ⟨fun pins s σ H Q I ⟨i, hi, q⟩ => (h i hi).run pins s σ H Q I q⟩
end
end RA

set_option Elab.async false
set_option linter.all false
set_option maxRecDepth 100000
set_option maxHeartbeats 4000000
/-! The head's facts: He.Fa and He.DefD, further facts of classes, dicts of the top with their items. -/
namespace RB
open PySem PySem.Spec PyProof.Rows L2 He
/-- what isinstance asks of a value's own class -/
structure TyC (K : PySem.W.Frag) (C : Addr) : Prop where
  ha : PySem.W.findIn K (.ref C) "__class__" = some (some (.builtin "object.__class__"))
  hn : PySem.W.specialIn K (.builtin "object.__class__") "__get__" = some (some (.builtin "getset_descriptor.__get__"))
  ht : PySem.W.takesIn K (.builtin "object.__class__") = some true
  hm : PySem.W.mroIn K C (.type "object") = some true
/-- an own class of errors, over ValueError, whose __init__ keeps one field -/
structure ExcF (K : PySem.W.Frag) (C : Addr) (f : Str) : Prop where
  ox : OexC K C
  no : PySem.W.findIn K (.ref C) f = some none
  ini : PySem.W.findIn K (.ref C) "__init__" = some (some (.ref (ma K C "__init__")))
  ty : PySem.W.typeIn K (.ref (ma K C "__init__")) = some (.type "function")
  xf : XfC K C
def clsB (K : PySem.W.Frag) (C : Addr) : Bool := match K.lookup C with
  | some ⟨.type t, _, .cls cd, sl⟩ => decide (t = "type") && (match cd.mro, sl.toList with
    | .ref C' :: bm, [_, _, _, _, some (.builtin n), _] => decide (C' = C) && (decide (n = "ValueError.__new__") && (!cd.hasDel && (cd.hasDict && PySem.HandSPX.refsVE bm)))
    | _, _ => false)
  | _ => false
def oexB (K : PySem.W.Frag) (C : Addr) : Bool := clsB K C && (eqO (PySem.W.findIn K (.ref C) "__setattr__") (some (some (.builtin "object.__setattr__"))) && (decide (PySem.W.subIn K (.ref C) (.type "BaseException") = some true) && (decide (PySem.W.typeIn K (.ref C) = some (.type "type")) && PySem.W.keepIn K (.ref C))))
theorem oexB_ok {K : PySem.W.Frag} {C : Addr} (h : oexB K C = true) : OexC K C := by
  obtain ⟨h1, h⟩ := ba h
  obtain ⟨h2, h⟩ := ba h
  obtain ⟨h3, h⟩ := ba h
  obtain ⟨h4, h5⟩ := ba h
  refine ⟨?_, eqO_ok h2, of_decide_eq_true h3, of_decide_eq_true h4, h5⟩
  unfold clsB at h1
  split at h1
  · rename_i t dd cd sl ho
    obtain ⟨ht, h1⟩ := ba h1
    split at h1
    · rename_i C' bm k0 k1 k2 k3 n k5 hm hs
      obtain ⟨e1, h1⟩ := ba h1
      obtain ⟨e2, h1⟩ := ba h1
      obtain ⟨e3, h1⟩ := ba h1
      obtain ⟨e4, e5⟩ := ba h1
      have e1 := of_decide_eq_true e1
      have e2 := of_decide_eq_true e2
      have ht := of_decide_eq_true ht
      subst e1 e2 ht
      obtain ⟨nm, bs, mro, ns, qn, hd, sn, sub, ab, col, del⟩ := cd
      dsimp only at hm e3 e4
      subst hm e4
      have e3 : del = false := by cases del with
        | false => rfl
        | true => cases e3
      subst e3
      have hsl : sl = #[k0, k1, k2, k3, some (.builtin "ValueError.__new__"), k5] := by
        obtain ⟨l⟩ := sl
        dsimp only at hs
        rw [hs]
      subst hsl
      exact ⟨nm, qn, ns, bs, bm, sn, sub, ab, col, dd, k0, k1, k2, k3, k5, ho, e5⟩
    · cases h1
  · cases h1
inductive Fx where
  | exc (x f : Str)
  | exm (x y : Str) (b : Bool)
  | pl (x : Str)
  | sub (x y : Str)
  | cf (x m : Str)
  | ty (x : Str)
  | kit (x y : Str) (b : Bool)
  | kib (n : String) (y : Str) (b : Bool)
  | dtup (p : Str × Option Str) (i : Nat)
  | kiy (x : Str) (n : String) (b : Bool)
  | ktup (x : Str) (zs : List Str)
  | ktupi (x : Str) (ns : List Int)
  | ktn (x : Str)
/-- these values are these texts -/
def strsB : List Value → List Str → Bool
  | [], [] => true
  | .str a _ :: r, z :: zs => decide (a = z) && strsB r zs
  | _, _ => false
/-- these values are these numbers -/
def intsB : List Value → List Int → Bool
  | [], [] => true
  | .int a _ :: r, z :: zs => decide (a = z) && intsB r zs
  | _, _ => false
def Fx.ok (K : PySem.W.Frag) : Fx → Bool
  | .exc x f => oexB K (ga K x) && (eqO (PySem.W.findIn K (.ref (ga K x)) f) (some none) && (decide (PySem.W.findIn K (.ref (ga K x)) "__init__" = some (some (.ref (ma K (ga K x) "__init__")))) && (decide (PySem.W.typeIn K (.ref (ma K (ga K x) "__init__")) = some (.type "function")) && xfB K (ga K x))))
  | .exm x y b => decide (PySem.W.exmOne K (.ref (ga K x)) (.ref (ga K y)) = some b)
  | .pl x => decide (PySem.W.mroIn K (ga K x) (.type "object") = some true) && (eqO (PySem.W.findIn K (.ref (ga K x)) "__eq__") (some (some (.builtin "object.__eq__"))) && eqO (PySem.W.findIn K (.ref (ga K x)) "__ne__") (some (some (.builtin "object.__ne__"))))
  | .sub x y => decide (ga K x = ga K y) || (PySem.W.subIn K (.ref (ga K y)) (.ref (ga K x))).isSome
  | .cf x m => eqO (PySem.W.specialIn K (.ref (ga K x)) "__getattribute__") (some (some (.builtin "type.__getattribute__"))) && (PySem.W.readsIn K (ga K x) (.type "type") && ((match PySem.W.findCls K (.ref (ga K x)) (.type "type") m with
    | some (.val (.ref f)) => decide (f = ma K (ga K x) m)
    | _ => false) && PySem.W.keepIn K (.ref (ma K (ga K x) m))))
  | .ty x => eqO (PySem.W.findIn K (.ref (ga K x)) "__class__") (some (some (.builtin "object.__class__"))) && (eqO (PySem.W.specialIn K (.builtin "object.__class__") "__get__") (some (some (.builtin "getset_descriptor.__get__"))) && (decide (PySem.W.takesIn K (.builtin "object.__class__") = some true) && decide (PySem.W.mroIn K (ga K x) (.type "object") = some true)))
  | .kit x y b => decide (PySem.W.kitOne K (.ref (ga K x)) (.ref (ga K y)) = some b)
  | .kib n y b => decide (PySem.W.kitOne K (.type n) (.ref (ga K y)) = some b)
  | .ktup x zs => decide (zs.length ≤ 1000) && (match K.lookup (ga K x) with
    | some ⟨.type c, _, .seq its _, _⟩ => decide (c = "tuple") && strsB its.toList zs
    | _ => false)
  | .ktupi x zs => decide (zs.length ≤ 1000) && (match K.lookup (ga K x) with
    | some ⟨.type c, _, .seq its _, _⟩ => decide (c = "tuple") && intsB its.toList zs
    | _ => false)
  | .ktn x => (match K.lookup (ga K x) with
    | some ⟨.type c, none, _, _⟩ => decide (c = "tuple")
    | _ => false)
  | .kiy x n b => decide (PySem.W.kitOne K (.ref (ga K x)) (.type n) = some b)
  | .dtup p i => (match K.lookup (dflAt p i K) with
    | some ⟨.type c, _, .seq its _, _⟩ => decide (c = "tuple") && its.isEmpty
    | _ => false)
section
variable {K : PySem.W.Frag}
theorem exc_ok {x f : Str} (c : (Fx.exc x f).ok K = true) : ExcF K (ga K x) f := by
  obtain ⟨c1, c⟩ := ba c
  obtain ⟨c2, c⟩ := ba c
  obtain ⟨c3, c⟩ := ba c
  obtain ⟨c4, c5⟩ := ba c
  exact ⟨oexB_ok c1, eqO_ok c2, of_decide_eq_true c3, of_decide_eq_true c4, xfB_ok c5⟩
theorem exm_ok {x y : Str} {b : Bool} (c : (Fx.exm x y b).ok K = true) : PySem.W.exmOne K (.ref (ga K x)) (.ref (ga K y)) = some b := of_decide_eq_true c
theorem pl_ok {x : Str} (c : (Fx.pl x).ok K = true) : RA.PlainC K (ga K x) := by
  obtain ⟨c1, c⟩ := ba c
  obtain ⟨c2, c3⟩ := ba c
  exact ⟨of_decide_eq_true c1, eqO_ok c2, eqO_ok c3⟩
theorem sub_ok {x y : Str} (c : (Fx.sub x y).ok K = true) : RA.PairC K (ga K x) (ga K y) := by
  rcases Bool.or_eq_true_iff.mp c with c | c
  · exact .inl (of_decide_eq_true c)
  · exact .inr (Option.isSome_iff_exists.mp c)
theorem cf_ok {x m : Str} (c : (Fx.cf x m).ok K = true) : RA.CFun K (ga K x) m (ma K (ga K x) m) := by
  obtain ⟨c1, c⟩ := ba c
  obtain ⟨c2, c⟩ := ba c
  obtain ⟨c3, c4⟩ := ba c
  refine ⟨eqO_ok c1, c2, ?_, c4⟩
  cases e : PySem.W.findCls K (.ref (ga K x)) (.type "type") m with
  | none => rw [e] at c3; cases c3
  | some r =>
    rw [e] at c3
    cases r with
    | get _ _ _ _ => cases c3
    | val v =>
      cases v with
      | ref f => rw [of_decide_eq_true c3]
      | _ => cases c3
theorem ty_ok {x : Str} (c : (Fx.ty x).ok K = true) : TyC K (ga K x) := by
  obtain ⟨c1, c⟩ := ba c
  obtain ⟨c2, c⟩ := ba c
  obtain ⟨c3, c4⟩ := ba c
  exact ⟨eqO_ok c1, eqO_ok c2, of_decide_eq_true c3, of_decide_eq_true c4⟩
theorem kit_ok {x y : Str} {b : Bool} (c : (Fx.kit x y b).ok K = true) : PySem.W.kitOne K (.ref (ga K x)) (.ref (ga K y)) = some b := of_decide_eq_true c
theorem kiy_ok {x : Str} {n : String} {b : Bool} (c : (Fx.kiy x n b).ok K = true) : PySem.W.kitOne K (.ref (ga K x)) (.type n) = some b := of_decide_eq_true c
theorem kib_ok {n : String} {y : Str} {b : Bool} (c : (Fx.kib n y b).ok K = true) : PySem.W.kitOne K (.type n) (.ref (ga K y)) = some b := of_decide_eq_true c
theorem dtup_ok {p : Str × Option Str} {i : Nat} (h : (Fx.dtup p i).ok K = true) (H : Hp) : SqT K H (dflAt p i K) [] := by
  have h1 : (match K.lookup (dflAt p i K) with
    | some ⟨.type c, _, .seq its _, _⟩ => decide (c = "tuple") && its.isEmpty
    | _ => false) = true := h
  cases q : K.lookup (dflAt p i K) with
  | none => rw [q] at h1; cases h1
  | some o =>
    obtain ⟨oc, od, dt, osl⟩ := o
    rw [q] at h1
    cases oc with
    | type c =>
      cases dt with
      | seq its n =>
        obtain ⟨h2, h3⟩ := ba (show (decide (c = "tuple") && its.isEmpty) = true from h1)
        have e3 : its = #[] := Array.isEmpty_iff.mp h3
        subst e3
        exact .inr ⟨_, #[], n, q, congrArg Value.type (of_decide_eq_true h2), rfl, Nat.zero_le _, .nil⟩
      | _ => cases h1
    | _ => cases dt <;> cases h1
theorem strs_vals : ∀ {us : List Value} {zs : List Str}, strsB us zs = true → Vals (zs.map V.str) us
  | [], [], _ => .nil
  | .str a t :: r, z :: zs, h => by
    obtain ⟨h1, h2⟩ := ba (show (decide (a = z) && strsB r zs) = true from h)
    obtain rfl := of_decide_eq_true h1
    exact .cons ⟨t, rfl⟩ (strs_vals h2)
theorem ktup_ok {x : Str} {zs : List Str} (h : (Fx.ktup x zs).ok K = true) (H : Hp) : SqT K H (ga K x) (zs.map V.str) := by
  obtain ⟨h0, h⟩ := ba h
  have h1 : (match K.lookup (ga K x) with
    | some ⟨.type c, _, .seq its _, _⟩ => decide (c = "tuple") && strsB its.toList zs
    | _ => false) = true := h
  cases q : K.lookup (ga K x) with
  | none => rw [q] at h1; cases h1
  | some o =>
    obtain ⟨oc, od, dt, osl⟩ := o
    rw [q] at h1
    cases oc with
    | type c =>
      cases dt with
      | seq its n =>
        obtain ⟨h2, h3⟩ := ba (show (decide (c = "tuple") && strsB its.toList zs) = true from h1)
        have hv := strs_vals h3
        refine .inr ⟨_, its, n, q, congrArg Value.type (of_decide_eq_true h2), rfl, ?_, hv⟩
        have hl := hv.length
        have hz := of_decide_eq_true h0
        rw [List.length_map] at hl
        have : its.size = zs.length := by rw [← Array.length_toList]; omega
        rw [this, sizeLine_eq]; omega
      | _ => cases h1
    | _ => cases dt <;> cases h1
theorem ints_vals : ∀ {us : List Value} {zs : List Int}, intsB us zs = true → Vals (zs.map V.int) us
  | [], [], _ => .nil
  | .int a t :: r, z :: zs, h => by
    obtain ⟨h1, h2⟩ := ba (show (decide (a = z) && intsB r zs) = true from h)
    obtain rfl := of_decide_eq_true h1
    exact .cons ⟨t, rfl⟩ (ints_vals h2)
theorem ktn_ok {x : Str} (h : (Fx.ktn x).ok K = true) : ∃ o, K.lookup (ga K x) = some o ∧ o.cls = .type "tuple" ∧ o.dict = none := by
  have h1 : (match K.lookup (ga K x) with
    | some ⟨.type c, none, _, _⟩ => decide (c = "tuple")
    | _ => false) = true := h
  cases q : K.lookup (ga K x) with
  | none => rw [q] at h1; cases h1
  | some o =>
    obtain ⟨oc, od, dt, osl⟩ := o
    rw [q] at h1
    cases oc with
    | type c =>
      cases od with
      | none => exact ⟨_, rfl, by rw [of_decide_eq_true h1], rfl⟩
      | some d => cases h1
    | _ => cases od <;> cases h1
theorem ktupi_ok {x : Str} {zs : List Int} (h : (Fx.ktupi x zs).ok K = true) (H : Hp) : SqT K H (ga K x) (zs.map V.int) := by
  obtain ⟨h0, h⟩ := ba h
  have h1 : (match K.lookup (ga K x) with
    | some ⟨.type c, _, .seq its _, _⟩ => decide (c = "tuple") && intsB its.toList zs
    | _ => false) = true := h
  cases q : K.lookup (ga K x) with
  | none => rw [q] at h1; cases h1
  | some o =>
    obtain ⟨oc, od, dt, osl⟩ := o
    rw [q] at h1
    cases oc with
    | type c =>
      cases dt with
      | seq its n =>
        obtain ⟨h2, h3⟩ := ba (show (decide (c = "tuple") && intsB its.toList zs) = true from h1)
        have hv := ints_vals h3
        refine .inr ⟨_, its, n, q, congrArg Value.type (of_decide_eq_true h2), rfl, ?_, hv⟩
        have hl := hv.length
        have hz := of_decide_eq_true h0
        rw [List.length_map] at hl
        have : its.size = zs.length := by rw [← Array.length_toList]; omega
        rw [this, sizeLine_eq]; omega
      | _ => cases h1
    | _ => cases dt <;> cases h1
theorem TyC.tyx {C a dx : Addr} {H : Hp} {fs : List (Str × V)} (t : TyC K C) (c : Cls K C) (e : H a = some (.ins C dx fs)) : TyX K H (.ref a) (.ref C) := .base (.ins e c t.ha t.hn t.ht t.hm)
end
/-! ### dicts of the top -/
def keyE (e : DictEntry) : Option (Key × Int) := match e.key with
  | .int i _ => some (Sum.inl i, e.hash)
  | .str x _ => some (Sum.inr x, e.hash)
  | _ => none
def keyHP (P : Params) : Key → Int
  | .inl i => hashInt i
  | .inr x => PyData.keyHash P x
abbrev Tb : Type := Str × List (Key × Dv)
def tbRow (K : PySem.W.Frag) (x : Str) : Option (List (Option (Key × Int))) := match K.lookup (ga K x) with
  | some ⟨.type c, none, .dict es _, sl⟩ => (match decide (c = "dict") && (sl.isEmpty && !(ga K x == sysModules)) with
    | true => some (es.toList.map keyE)
    | false => none)
  | _ => none
def tbWant (P : Params) (kvs : List (Key × Dv)) : Option (List (Option (Key × Int))) := some (kvs.map fun q => some (q.1, keyHP P q.1))
def tbVals (K : PySem.W.Frag) (t : Tb) : Bool := decide ((t.2.map (·.1)).Nodup) && (decide (t.2.length ≤ sizeLine) && (match K.lookup (ga K t.1) with
  | some ⟨_, _, .dict es _, _⟩ => relAll (t.2.map fun q => q.2.v K) (es.toList.map (·.val))
  | _ => false))
/-- a dict of the top with these items -/
structure KD (P : Program) (w : World) (K : PySem.W.Frag) (a : Addr) (kvs : List (Key × V)) : Prop where
  low : (a == sysModules) = false
  len : kvs.length ≤ sizeLine
  at_ : ∃ vs, KV kvs vs ∧ ∀ h : Heap, K.In h → h.DictOf (mixKind P w) a vs
theorem rows_pairs {P : Program} {w : World} : ∀ {es : List DictEntry} {kvs : List (Key × V)}, es.map keyE = kvs.map (fun q => some (q.1, keyHP w.params q.1)) → relAll (kvs.map (·.2)) (es.map (·.val)) = true →
    ∃ vs, KV kvs vs ∧ Pairs (mixKind P w) es vs ∧ vs.map (·.1) = kvs.map (·.1) ∧ ∀ e ∈ es, ∃ k, (mixKind P w).is k e.key = true ∧ e.hash = (mixKind P w).hash k
  | [], [], _, _ => ⟨[], .nil, .nil, rfl, fun _ h => nomatch h⟩
  | [], _ :: _, h, _ => by cases h
  | _ :: _, [], h, _ => by cases h
  | e :: es, q :: kvs, h, hv => by
    rw [List.map_cons, List.map_cons] at h
    injection h with h1 h2
    obtain ⟨v1, v2⟩ := ba (show (relB q.2 e.val && relAll (kvs.map (·.2)) (es.map (·.val))) = true from hv)
    obtain ⟨vs, r, p, n, kk⟩ := rows_pairs (P := P) h2 v2
    have key : (mixKind P w).is q.1 e.key = true ∧ e.hash = (mixKind P w).hash q.1 := by
      unfold keyE at h1
      split at h1
      · rename_i i t ek
        have h3 := Prod.mk.inj (Option.some.inj h1)
        rw [← h3.1, ek]
        refine ⟨mixKind_int P w i t, ?_⟩
        rw [h3.2, ← h3.1]; rfl
      · rename_i x t ek
        have h3 := Prod.mk.inj (Option.some.inj h1)
        rw [← h3.1, ek]
        refine ⟨mixKind_str P w x t, ?_⟩
        rw [h3.2, ← h3.1]; rfl
      · cases h1
    refine ⟨(q.1, e.val) :: vs, .cons ⟨rfl, relB_ok v1⟩ r, .cons key.1 rfl p, by rw [List.map_cons, List.map_cons, n], fun e' he => ?_⟩
    rcases List.mem_cons.mp he with rfl | he
    · exact ⟨q.1, key⟩
    · exact kk e' he
theorem kd_of {P : Program} {w : World} {K : PySem.W.Frag} {t : Tb} (h1 : tbRow K t.1 = tbWant w.params t.2) (h2 : tbVals K t = true) : KD P w K (ga K t.1) (t.2.map fun q => (q.1, q.2.v K)) := by
  obtain ⟨nd, h2⟩ := ba h2
  obtain ⟨ln, h2⟩ := ba h2
  unfold tbRow tbWant at h1
  cases q : K.lookup (ga K t.1) with
  | none => rw [q] at h1; cases h1
  | some o =>
    obtain ⟨oc, od, dt, osl⟩ := o
    rw [q] at h1 h2
    cases oc with
    | type c =>
      cases od with
      | none =>
        cases dt with
        | dict es n =>
          have h3 : (match decide (c = "dict") && (osl.isEmpty && !(ga K t.1 == sysModules)) with
            | true => some (es.toList.map keyE)
            | false => none) = some (t.2.map fun q => some (q.1, keyHP w.params q.1)) := h1
          cases z : decide (c = "dict") && (osl.isEmpty && !(ga K t.1 == sysModules)) with
          | false => rw [z] at h3; cases h3
          | true =>
            rw [z] at h3
            obtain ⟨z1, z2⟩ := ba z
            obtain ⟨z3, z4⟩ := ba z2
            have e1 : c = "dict" := of_decide_eq_true z1
            have e2 : osl = #[] := Array.isEmpty_iff.mp z3
            have e3 : (ga K t.1 == sysModules) = false := by
              cases y : (ga K t.1 == sysModules) with
              | false => rfl
              | true => rw [y] at z4; cases z4
            subst e1 e2
            have h4 : es.toList.map keyE = (t.2.map fun q => (q.1, q.2.v K)).map (fun q => some (q.1, keyHP w.params q.1)) := by
              rw [List.map_map]
              exact Option.some.inj h3
            have h5 : relAll ((t.2.map fun q => (q.1, q.2.v K)).map (·.2)) (es.toList.map (·.val)) = true := by
              rw [List.map_map]
              exact h2
            obtain ⟨vs, r, p, nm, kk⟩ := rows_pairs (P := P) h4 h5
            refine ⟨e3, by rw [List.length_map]; exact of_decide_eq_true ln, vs, r, fun h X => ⟨_, es, n, X _ _ q, ⟨rfl, rfl, rfl⟩, rfl, fun e he => kk e (Array.mem_toList_iff.mpr he), p, ?_⟩⟩
            rw [nm, List.map_map]
            exact of_decide_eq_true nd
        | _ => cases h1
      | some d => cases dt <;> cases h1
    | _ => cases od <;> cases dt <;> cases h1
section
variable {X : Cx}
/-- dict(D), D a dict of the top: a new one -/
theorem call_dictK {D : Addr} {kvs : List (Key × V)} (k : KD X.prog X.w X.K D kvs) : CallR X (.type "dict") (fun xs H Q => xs = [.ref D] ∧ ∀ p, H p = none → Q (.ref p) (upd H p (.dK kvs))) := by
  intro pins s σ H xs us Q I r q
  obtain ⟨ex, q⟩ := q
  subst ex
  obtain ⟨u, eu, rx⟩ := vals1 r
  subst eu
  cases rx
  obtain ⟨vs, rel, dd⟩ := k.at_
  refine kt_call_dict k.low (dd _ I.kIn) (by rw [← rel.length]; exact k.len) fun h' d' hs => ?_
  have hm : (s.heap.objs.size == sysModules) = false := beq_eq_false_iff_ne.mpr (Nat.ne_of_gt I.big)
  exact ⟨.ref s.heap.objs.size, upd H s.heap.objs.size (.dK kvs), I.laid (t' := s.toks) (fun b u e => (hs.2 b (Nat.ne_of_lt (Heap.lt_size e))).trans (Heap.get?_push_of_some _ e)) (Nat.le_refl _)
    (show ObjOk X.prog X.w _ _ _ (.dK kvs) from ⟨k.len, hm, vs, rel, d'⟩), rfl, q _ (I.hok.fresh (Nat.le_refl _))⟩
end
/-! ### the Hook -/
abbrev AlB : Type := AlD × List (Option (List (Option (Key × Int)))) × Bool
def obsB (fa : List Fa) (fx : List Fx) (fn : List DefD) (ts : List Tb) (K : PySem.W.Frag) : AlB := (obsD fa fn K, ts.map fun t => tbRow K t.1, (fx.all fun f => f.ok K) && ts.all fun t => tbVals K t)
def valB (fn : List DefD) (ts : List Tb) (w : World) : AlB := (valD fn, ts.map fun t => tbWant w.params t.2, true)
def SaysB (fa : List Fa) (fx : List Fx) (fn : List DefD) (ts : List Tb) (w : World) (K : PySem.W.Frag) : Prop := obsB fa fx fn ts K = valB fn ts w
/-- and the objects that are defaults: one step further, for those alone -/
def extraB (g : Addr → Option Obj) (fx : List Fx) (as : List Addr) : List Addr := cStatics :: (as ++ fx.filterMap fun
  | .dtup p i => some (dflAt p i (frG g as))
  | .ktup x _ => some (ga (frG g as) x)
  | .ktupi x _ => some (ga (frG g as) x)
  | _ => none)
def obsBG (n : Nat) (fa : List Fa) (fx : List Fx) (fn : List DefD) (ts : List Tb) (g : Addr → Option Obj) : AlB := obsB fa fx fn ts (frG g (extraB g fx (asD g n)))
def hookB (n : Nat) (fa : List Fa) (fx : List Fx) (fn : List DefD) (ts : List Tb) : PySem.W.Hook where
  α := AlB
  obs := fun s => obsBG n fa fx fn ts s.heap.get?
  val := fun w => valB fn ts w
  says := fun w h => ∃ K : PySem.W.Frag, K.In h ∧ SaysB fa fx fn ts w K
  of := fun _ _ e => ⟨_, frG_in, e⟩
  keeps := fun _ _ _ ⟨K, hK, c⟩ k => ⟨K, PySem.W.Frag.In.keeps hK k, c⟩
theorem obsBG_eq {n : Nat} {fa : List Fa} {fx : List Fx} {fn : List DefD} {ts : List Tb} {g : Addr → Option Obj} {s : Shared} (h : ∀ a, g a = s.heap.get? a) : obsBG n fa fx fn ts g = (hookB n fa fx fn ts).obs s := by
  have e : g = s.heap.get? := funext h
  rw [e] <;> rfl
section
variable {fa : List Fa} {fx : List Fx} {fn : List DefD} {ts : List Tb} {w : World} {K : PySem.W.Frag}
theorem SaysB.d (c : SaysB fa fx fn ts w K) : SaysD fa fn K := congrArg (fun z : AlB => z.1) c
theorem SaysB.fact (c : SaysB fa fx fn ts w K) (i : Nat) {f : Fa} (h : fa[i]? = some f := by rfl) : f.ok K = true := c.d.fact i h
theorem SaysB.more (c : SaysB fa fx fn ts w K) (i : Nat) {f : Fx} (h : fx[i]? = some f := by rfl) : f.ok K = true := by
  have c1 := (ba (show ((fx.all fun f => f.ok K) && ts.all fun t => tbVals K t) = true from congrArg (fun z : AlB => z.2.2) c)).1
  exact List.all_eq_true.mp c1 f (List.mem_of_getElem? h)
theorem SaysB.tb (c : SaysB fa fx fn ts w K) (i : Nat) {t : Tb} (h : ts[i]? = some t := by rfl) (P : Program) : KD P w K (ga K t.1) (t.2.map fun q => (q.1, q.2.v K)) := by
  have c1 := (ba (show ((fx.all fun f => f.ok K) && ts.all fun t => tbVals K t) = true from congrArg (fun z : AlB => z.2.2) c)).2
  have e : ts.map (fun t => tbRow K t.1) = ts.map fun t => tbWant w.params t.2 := congrArg (fun z : AlB => z.2.1) c
  have e2 : (ts.map fun t => tbRow K t.1)[i]? = (ts.map fun t => tbWant w.params t.2)[i]? := by rw [e]
  rw [List.getElem?_map, List.getElem?_map, h] at e2
  exact kd_of (Option.some.inj e2) (List.all_eq_true.mp c1 t (List.mem_of_getElem? h))
end
end RB

set_option Elab.async false
set_option linter.all false
set_option maxRecDepth 100000
set_option maxHeartbeats 4000000
/-! What a caller needs of a def, in one word; the stream of draws. -/
namespace RC
open PySem PySem.Spec PyProof.Rows L2 He
/-- the def at f may be called with all parameters but the last ones, whose defaults are dvs -/
def Callable (P : Program) (w : World) (K : PySem.W.Frag) (mg : Str → Option Value) (base : Heap) (k : Nat) (f : Addr) (ps : List Str) (dvs : List V) (sp : Sp) : Prop :=
  ∃ fd ds, FnOk P w K mg base CX0 k f fd ps sp ∧ Vals dvs ds ∧ Binds K fd ps ds ∧ PySem.W.keepIn K (.ref f) = true
section
variable {X : Cx} {k : Nat} {f C : Addr} {ps : List Str} {sp : Sp} {dvs : List V} {x m : Str} {p pos apos : Pos} {e o : Expr} {es : List Expr} {ta : TE} {t : TA} {pl : Sem Bool}
theorem pe_fn (hm : X.mg x = some (.ref f)) (c : Callable X.prog X.w X.K X.mg X.base k f ps dvs sp) (hr : Room k X.A) (hg : Gl X x) (ha : PA X (e :: es) t) (hdb : (x == ("__debug__" : Str)) = false := by decide)
    (he : starEach (e :: es) X.env = (false, eval e X.env) :: starEach es X.env := by rfl) (hpl : (backTo pos (starEach es X.env)).any (·.1) = false := by rfl) : PE X (.Call (.Name x p) (e :: es) [] pos) (tCall sp dvs E0 t) := by
  obtain ⟨fd, ds, F, hd, hb, hk⟩ := c
  exact pe_call F hr hg hm hk hb hd pass0 ha hdb he hpl
theorem pe_fn0 (hm : X.mg x = some (.ref f)) (c : Callable X.prog X.w X.K X.mg X.base k f ps dvs sp) (hr : Room k X.A) (hg : Gl X x) (hdb : (x == ("__debug__" : Str)) = false := by decide) : PE X (.Call (.Name x p) [] [] pos) (tCall sp dvs E0 tNil) := by
  obtain ⟨fd, ds, F, hd, hb, hk⟩ := c
  exact pe_call0 F hr hg hm hk hb hd pass0 hdb
theorem pe_mt (cl : Cls X.K C) (hm : Meth X.K C m f) (c : Callable X.prog X.w X.K X.mg X.base k f ps dvs sp) (hr : Room k X.A) (he : PE X o ta) (ha : PA X (e :: es) t)
    (hst : starEach (e :: es) X.env = (false, eval e X.env) :: starEach es X.env := by rfl) (hpl : (backTo pos (starEach es X.env)).any (·.1) = false := by rfl)
    (ht : eval (.Call (.Attribute o m apos) (e :: es) [] pos) X.env = (do
      let ov ← eval o X.env
      standAt apos.atName
      let (f, first) ← holding [ov] (getMethod ov m pl)
      callWith pos f first (backTo pos (starEach (e :: es) X.env)) (backToKw pos (keywordEach [] X.env))) := by rfl) :
    PE X (.Call (.Attribute o m apos) (e :: es) [] pos) (tMeth C m sp dvs E0 ta t) := by
  obtain ⟨fd, ds, F, hd, hb, hk⟩ := c
  exact pe_meth he cl hm F hr hb hd pass0 ha hst hpl ht
theorem pe_mt0 (cl : Cls X.K C) (hm : Meth X.K C m f) (c : Callable X.prog X.w X.K X.mg X.base k f ps dvs sp) (hr : Room k X.A) (he : PE X o ta)
    (ht : eval (.Call (.Attribute o m apos) [] [] pos) X.env = (do
      let ov ← eval o X.env
      standAt apos.atName
      let (f, first) ← holding [ov] (getMethod ov m pl)
      callWith pos f first (backTo pos (starEach [] X.env)) (backToKw pos (keywordEach [] X.env))) := by rfl) :
    PE X (.Call (.Attribute o m apos) [] [] pos) (tMeth C m sp dvs E0 ta tNil) := by
  obtain ⟨fd, ds, F, hd, hb, hk⟩ := c
  exact pe_meth0 he cl hm F hr hb hd pass0 ht
theorem pe_mk (M : Mk X.K C f) (hm : X.mg x = some (.ref C)) (c : Callable X.prog X.w X.K X.mg X.base k f ps dvs sp) (hr : Room (k + 1) X.A) (hg : Gl X x) (ha : PA X (e :: es) t) (hdb : (x == ("__debug__" : Str)) = false := by decide)
    (he : starEach (e :: es) X.env = (false, eval e X.env) :: starEach es X.env := by rfl) (hpl : (backTo pos (starEach es X.env)).any (·.1) = false := by rfl) : PE X (.Call (.Name x p) (e :: es) [] pos) (tMake C sp dvs E0 t) := by
  obtain ⟨fd, ds, F, hd, hb, hk⟩ := c
  exact pe_make M F hr hg hm hb hd pass0 ha hdb he hpl
theorem pe_mk0 (M : Mk X.K C f) (hm : X.mg x = some (.ref C)) (c : Callable X.prog X.w X.K X.mg X.base k f ps dvs sp) (hr : Room (k + 1) X.A) (hg : Gl X x) (hdb : (x == ("__debug__" : Str)) = false := by decide) : PE X (.Call (.Name x p) [] [] pos) (tMake C sp dvs E0 tNil) := by
  obtain ⟨fd, ds, F, hd, hb, hk⟩ := c
  exact pe_make0 M F hr hg hm hb hd pass0 hdb
theorem pe_cf (cf : RA.CFun X.K C m f) (c : Callable X.prog X.w X.K X.mg X.base k f ps dvs sp) (hr : Room k X.A) (he : PE X o ta) (ha : PA X (e :: es) t)
    (hst : starEach (e :: es) X.env = (false, eval e X.env) :: starEach es X.env := by rfl) (hpl : (backTo pos (starEach es X.env)).any (·.1) = false := by rfl)
    (ht : eval (.Call (.Attribute o m apos) (e :: es) [] pos) X.env = (do
      let ov ← eval o X.env
      standAt apos.atName
      let (f, first) ← holding [ov] (getMethod ov m pl)
      callWith pos f first (backTo pos (starEach (e :: es) X.env)) (backToKw pos (keywordEach [] X.env))) := by rfl) :
    PE X (.Call (.Attribute o m apos) (e :: es) [] pos) (RA.tCFun C sp dvs E0 ta t) := by
  obtain ⟨fd, ds, F, hd, hb, hk⟩ := c
  exact RA.pe_cfun he cf F hr hb hd pass0 ha hst hpl ht
end
section
variable {P : Program} {w : World} {K : PySem.W.Frag} {mg : Str → Option Value} {base : Heap} {x qual : Str} {params : Arguments} {body : List Stmt} {scope : Scope} {dvs : List V} {f : Addr} {k : Nat} {N ps : List Str} {sp : Sp}
/-- a def that stands there -/
def Stands (K : PySem.W.Frag) (x qual : Str) (st : Stmt) (dvs : List V) (f : Addr) : Prop := ∃ fd, FunD K x qual (defArgs st) (defBody st) (defScope st) dvs [] f fd
/-- THE RULE for a def, whatever its defaults: what it promises of every call; bind: how its arguments bind with the first n parameters given -/
theorem Stands.call {st : Stmt} (F : Stands K x qual st dvs f) (S : FnScope N ps (defScope st)) (n j : Nat) (len : ∀ vs H Q E, sp vs H Q E → vs.length = ps.length)
    (hbody : ∀ (cdv : Value) (A : Around) (outer : List Env) (s : Shared) (H : Hp) (vs : List V) (Q : VK) (E : XK), Room k (A.deeper (envOfC qual (defScope st) s.heap.objs.size f cdv)) → sp vs H Q E →
      ∃ t, PSs (cxOf CX0 P w K mg base N qual (defScope st) f cdv A outer s H E).nox (defBody st) t ∧ t { nx := fun _ H' => Q .non H', rt := Q } (start N vs) H)
    (h0 : dvs = [] → n = ps.length ∧ ∀ (kV doc pm : Value) (an : Option Addr) (cdv ct : Value) (us : List Value), us.length = ps.length → bindArgs (PySem.W.fnOf x qual (defArgs st) (defBody st) (defScope st) .none kV doc pm an cdv ct) ⟨us, []⟩ = pure (ps.zip us))
    (h1 : dvs ≠ [] → n + (dvs.length - j) = ps.length ∧ ∀ (T : Addr) (kV doc pm : Value) (an : Option Addr) (cdv ct : Value) (us its : List Value), us.length = n → its.length = dvs.length →
      ∃ k, bindArgs (PySem.W.fnOf x qual (defArgs st) (defBody st) (defScope st) (.ref T) kV doc pm an cdv ct) ⟨us, []⟩ = seqItems? (.ref T) >>= k ∧ k (some its.toArray) = pure (ps.zip (us ++ its.drop j))) :
    Callable P w K mg base (k + 1) f ps (dvs.drop j) sp := by
  obtain ⟨fd, F⟩ := F
  have ok : FnOk P w K mg base CX0 (k + 1) f fd ps sp := F.ok S len fun cdv A outer s H vs Q E hr hsp => by
    obtain ⟨t, h, q⟩ := hbody cdv A outer s H vs Q E hr hsp
    exact ⟨t, h.nox, q⟩
  by_cases hd : dvs = []
  · subst hd
    exact ⟨fd, [], ok, by rw [List.drop_nil]; exact .nil, F.bindsN (h0 rfl).2, F.kp⟩
  · obtain ⟨ds, hv, hb⟩ := F.binds1 n j hd (h1 hd).1 (h1 hd).2
    exact ⟨fd, ds, ok, hv, hb, F.kp⟩
/-- no defaults -/
theorem Stands.call0 {st : Stmt} (F : Stands K x qual st [] f) (S : FnScope N ps (defScope st)) (len : ∀ vs H Q E, sp vs H Q E → vs.length = ps.length)
    (hbody : ∀ (cdv : Value) (A : Around) (outer : List Env) (s : Shared) (H : Hp) (vs : List V) (Q : VK) (E : XK), Room k (A.deeper (envOfC qual (defScope st) s.heap.objs.size f cdv)) → sp vs H Q E →
      ∃ t, PSs (cxOf CX0 P w K mg base N qual (defScope st) f cdv A outer s H E).nox (defBody st) t ∧ t { nx := fun _ H' => Q .non H', rt := Q } (start N vs) H)
    (h0 : ∀ (kV doc pm : Value) (an : Option Addr) (cdv ct : Value) (us : List Value), us.length = ps.length → bindArgs (PySem.W.fnOf x qual (defArgs st) (defBody st) (defScope st) .none kV doc pm an cdv ct) ⟨us, []⟩ = pure (ps.zip us)) :
    Callable P w K mg base (k + 1) f ps [] sp := by
  obtain ⟨fd, F⟩ := F
  have ok : FnOk P w K mg base CX0 (k + 1) f fd ps sp := F.ok S len fun cdv A outer s H vs Q E hr hsp => by
    obtain ⟨t, h, q⟩ := hbody cdv A outer s H vs Q E hr hsp
    exact ⟨t, h.nox, q⟩
  exact ⟨fd, [], ok, .nil, F.bindsN h0, F.kp⟩
theorem Callable.imp {sp' : Sp} {dv : List V} (c : Callable P w K mg base k f ps dv sp) (h : ∀ vs H Q E, sp' vs H Q E → sp vs H Q E) : Callable P w K mg base k f ps dv sp' :=
  let ⟨fd, ds, F, r⟩ := c
  ⟨fd, ds, F.imp h, r⟩
theorem Callable.up {j : Nat} {dv : List V} (c : Callable P w K mg base j f ps dv sp) (h : j ≤ k) : Callable P w K mg base k f ps dv sp :=
  let ⟨fd, ds, F, r⟩ := c
  ⟨fd, ds, F.mono h, r⟩
end
/-! ### heaps -/
theorem same_new {H : Hp} {p : Addr} (h : H p = none) (o : HO) : Same H (upd H p o) := fun b u q => by rw [upd_ne (ne_of_none q h)]; exact q
theorem _root_.L2.Same.seqT {K : PySem.W.Frag} {H H' : Hp} {a : Addr} {xs : List V} (e : Same H H') (h : SqT K H a xs) : SqT K H' a xs := by
  rcases h with (h | ⟨o, h⟩) | h
  · exact .inl (.inl (e _ _ h))
  · exact .inl (.inr ⟨o, e _ _ h⟩)
  · exact .inr h
theorem upd_none {H : Hp} {a p : Addr} {o : HO} (h : upd H a o p = none) : p ≠ a ∧ H p = none := by
  by_cases e : p = a
  · subst e; rw [upd_same] at h; cases h
  · rw [upd_ne e] at h; exact ⟨e, h⟩
/-! ### the stream of draws -/
/-- the law's stream at s: its list of ints at l, the number at hand, how many were made up, the seed; n: a bound of those made up -/
def Stm (H : Hp) (s l : Addr) (n : Nat) : Prop := s ≠ l ∧ ∃ (ns : List Int) (x c d : Int), H s = some (.lst [.ref l, .int x, .int c, .int d]) ∧ H l = some (.lst (ns.map V.int)) ∧ ns.length ≤ 63 ∧ 0 ≤ x ∧ 0 ≤ c ∧ c ≤ n ∧ 0 ≤ d ∧ d < 2147483647
theorem Stm.mono {H : Hp} {s l : Addr} {n m : Nat} (h : Stm H s l n) (k : n ≤ m) : Stm H s l m := by
  obtain ⟨ne, ns, x, c, d, h1, h2, h3, h4, h5, h6, h7, h8⟩ := h
  exact ⟨ne, ns, x, c, d, h1, h2, h3, h4, h5, by omega, h7, h8⟩
theorem Stm.same {H H' : Hp} {s l : Addr} {n : Nat} (h : Stm H s l n) (k : Same H H') : Stm H' s l n := by
  obtain ⟨ne, ns, x, c, d, h1, h2, h3⟩ := h
  exact ⟨ne, ns, x, c, d, k _ _ h1, k _ _ h2, h3⟩
/-- all but the stream is as it was -/
def But (s l : Addr) (H H' : Hp) : Prop := ∀ b, b ≠ s → b ≠ l → H' b = H b
/-- all that was there but the stream is as it was -/
def Old (s l : Addr) (H H' : Hp) : Prop := ∀ b o, b ≠ s → b ≠ l → H b = some o → H' b = some o
theorem But.old {s l : Addr} {H H' : Hp} (h : But s l H H') : Old s l H H' := fun b o h1 h2 e => by rw [h b h1 h2]; exact e
theorem Old.refl {s l : Addr} (H : Hp) : Old s l H H := fun _ _ _ _ e => e
theorem Old.trans {s l : Addr} {H H1 H2 : Hp} (a : Old s l H H1) (b : Old s l H1 H2) : Old s l H H2 := fun c o h1 h2 e => b c o h1 h2 (a c o h1 h2 e)
theorem Old.of_same {s l : Addr} {H H' : Hp} (h : Same H H') : Old s l H H' := fun b o _ _ e => h b o e
section
variable {X : Cx} {x : Str} {pos : Pos}
theorem pe_gi {i : Int} (hg : Gl X x) (hm : ∃ t, X.mg x = some (.int i t)) (hd : (x == ("__debug__" : Str)) = false := by decide) : PE X (.Name x pos) (tC (.int i)) := by
  obtain ⟨t, h⟩ := hm
  exact pe_glob hg h ⟨t, rfl⟩ (by first | assumption | exact hd)
theorem pe_gs {z : Str} (hg : Gl X x) (hm : ∃ t, X.mg x = some (.str z t)) (hd : (x == ("__debug__" : Str)) = false := by decide) : PE X (.Name x pos) (tC (.str z)) := by
  obtain ⟨t, h⟩ := hm
  exact pe_glob hg h ⟨t, rfl⟩ (by first | assumption | exact hd)
end
/-! ### in a comprehension's block the written part is the def's own: rules that name it -/
section
variable {X : Cx} {K : PySem.W.Frag}
theorem opK (r : PySem.W.Frag → R2) {f : Value → Value → Sem Value} (h : OpR X f (r X.K)) (e : X.K = K := by rfl) : OpR X f (r K) := e ▸ h
theorem callK (r : PySem.W.Frag → List V → Hp → VK → Prop) {f : Value} (h : CallR X f (r X.K)) (e : X.K = K := by rfl) : CallR X f (r K) := e ▸ h
theorem ixK (r : PySem.W.Frag → R2) (h : IxR X (r X.K)) (e : X.K = K := by rfl) : IxR X (r K) := e ▸ h
theorem pe_fldK {e : Expr} {f : Str} {pos : Pos} {ta : TE} (he : PE X e ta) (hb : attributeBase e f X.env (eval e X.env) = eval e X.env) (z : X.K = K := by rfl) : PE X (.Attribute e f pos) (tFld K ta f) := z ▸ pe_fld he hb
end
/-- an expression that is never reached -/
def tNo : TE := fun _ _ _ => False
theorem pe_never {X : Cx} {e : Expr} : PE X e tNo := ⟨fun _ _ _ _ _ _ h => h.elim⟩
def tNoT : TT := fun _ _ _ => False
theorem pt_never {X : Cx} {e : Expr} : PT X e tNoT := ⟨fun _ _ _ _ _ _ h => h.elim⟩
theorem tyx_tup {K : PySem.W.Frag} {H : Hp} {a : Addr} {xs : List V} (h : SqT K H a xs) : TyX K H (.ref a) (.type "tuple") := by
  rcases h with (h | ⟨o, h⟩) | ⟨o, its, n, h, c, _⟩
  · exact .base (.tup h)
  · exact .fTuple h
  · exact .kTuple h c
theorem tyx_lst {K : PySem.W.Frag} {H : Hp} {a : Addr} {xs : List V} (h : SqL K H a xs) : TyX K H (.ref a) (.type "list") := by
  rcases h with (h | ⟨o, h⟩) | ⟨o, its, n, h, c, _⟩
  · exact .base (.lst h)
  · exact .base (.frz h)
  · exact .kList h c
/-- behind a lock all is as it was but the new -/
theorem unlock {H : Hp} {d D : Addr} {f u o : HO} (hd : H d = some u) (hD : upd H d f D = none) : upd (upd (upd H d f) D o) d u = upd H D o := by
  have ne : D ≠ d := (upd_none hD).1
  funext b
  by_cases e : b = d
  · subst e; rw [upd_same, upd_ne (Ne.symm ne)]; exact hd.symm
  · rw [upd_ne e]
    by_cases z : b = D
    · subst z; rw [upd_same, upd_same]
    · rw [upd_ne z, upd_ne z, upd_ne e]
theorem iteT' {c : Bool} {A B : Prop} (hc : c = true) (h : A) : if c = true then A else B := by rw [if_pos hc]; exact h
theorem iteF' {c : Bool} {A B : Prop} (hc : c = false) (h : B) : if c = true then A else B := by rw [if_neg (by rw [hc]; exact Bool.false_ne_true)]; exact h
end RC

set_option Elab.async false
set_option linter.all false
set_option maxRecDepth 100000
set_option maxHeartbeats 4000000
/-! Further rules: two lists of the same objects are equal; a text times an int. -/
namespace RD
open PySem PySem.Spec PyProof.Rows PySem.SeqAt L2
def rNeRefs (K : PySem.W.Frag) : R2 := fun x y H Q => ∃ (a b : Addr) (as : List Addr), x = .ref a ∧ y = .ref b ∧ SqL K H a (as.map V.ref) ∧ SqL K H b (as.map V.ref) ∧ Q (.bl false) H
def rEqRefs (K : PySem.W.Frag) : R2 := fun x y H Q => ∃ (a b : Addr) (as : List Addr), x = .ref a ∧ y = .ref b ∧ SqL K H a (as.map V.ref) ∧ SqL K H b (as.map V.ref) ∧ Q (.bl true) H
def rMulS : R2 := fun x y H Q => ∃ (i : Str) (k : Int), x = .str i ∧ y = .int k ∧ PySem.MulOk i k ∧ Q (.str (Txt.mul i k)) H
section
variable {X : Cx}
theorem vals_refs : ∀ {as : List Addr} {us : List Value}, Vals (as.map V.ref) us → us = as.map Value.ref
  | [], _, .nil => rfl
  | a :: as, _, .cons r t => by
    cases r
    rw [vals_refs t]; rfl
theorem all_true (n : Nat) : (List.range n).all (fun _ => true) = true := by simp
theorem op_neRefs (hu : X.A.units < cLine) : OpR X (compareOp .NotEq) (rNeRefs X.K) := by
  intro pins s σ H x y v u Q I rx ry h
  obtain ⟨a, b, as, rfl, rfl, ha, hb, q⟩ := h
  cases rx
  cases ry
  obtain ⟨its, rv, hl, _⟩ := I.list ha
  obtain ⟨its2, rv2, hl2, _⟩ := I.list hb
  obtain rfl := vals_refs rv
  obtain rfl := vals_refs rv2
  refine RcNeAt.lists (e := fun _ => true) hl.isList hl2.isList rfl hu (fun j h1 h2 => EqAt.same _) X.prog X.w X.xe _ ?_
  rw [all_true]
  exact fin_bl I q rfl
theorem op_eqRefs (hu : X.A.units < cLine) : OpR X (compareOp .Eq) (rEqRefs X.K) := by
  intro pins s σ H x y v u Q I rx ry h
  obtain ⟨a, b, as, rfl, rfl, ha, hb, q⟩ := h
  cases rx
  cases ry
  obtain ⟨its, rv, hl, _⟩ := I.list ha
  obtain ⟨its2, rv2, hl2, _⟩ := I.list hb
  obtain rfl := vals_refs rv
  obtain rfl := vals_refs rv2
  refine eq_listAt (e := fun _ => true) hl.isList hl2.isList rfl hu (fun j h1 h2 => EqAt.same _) ?_
  rw [all_true]
  exact fin_bl I q rfl
theorem op_mulS : OpR X (binaryOp .Mult) rMulS := by
  intro pins s σ H x y v u Q I rx ry h
  obtain ⟨i, k, rfl, rfl, hk, q⟩ := h
  obtain ⟨t, rfl⟩ := rx
  obtain ⟨t', rfl⟩ := ry
  exact PySem.SB.mul hk fun t2 k2 => ⟨.str (Txt.mul i k), H, I.tok k2, ⟨_, rfl⟩, q⟩
end
end RD

set_option Elab.async false
set_option linter.all false
set_option maxRecDepth 100000
set_option maxHeartbeats 4000000
/-! Rows of texts in order: there is one alone. -/
namespace RE
open PySem PySem.Spec PyProof.Rows L2
def le (a b : List Nat) : Prop := ltCps b a = false
theorem lt_split : ∀ (a b c : List Nat), ltCps a c = true → ltCps a b = true ∨ ltCps b c = true
  | [], [], c, h => .inr h
  | [], _ :: _, _, _ => .inl rfl
  | _ :: _, _, [], h => nomatch h
  | x :: a, [], z :: c, h => .inr rfl
  | x :: a, y :: b, z :: c, h => by
    have h : (decide (x < z) || (x == z && ltCps a c)) = true := h
    show (decide (x < y) || (x == y && ltCps a b)) = true ∨ (decide (y < z) || (y == z && ltCps b c)) = true
    rcases Nat.lt_trichotomy x y with h1 | h1 | h1
    · exact .inl (by rw [decide_eq_true h1]; rfl)
    · subst h1
      rcases Bool.or_eq_true_iff.mp h with h2 | h2
      · exact .inr (by rw [h2]; rfl)
      · obtain ⟨h3, h4⟩ := Bool.and_eq_true_iff.mp h2
        rcases lt_split a b c h4 with h5 | h5
        · exact .inl (by rw [h5]; simp)
        · exact .inr (by rw [h3, h5]; simp)
    · have h6 : y < z := by
        rcases Bool.or_eq_true_iff.mp h with h2 | h2
        · exact Nat.lt_trans h1 (of_decide_eq_true h2)
        · obtain ⟨h3, _⟩ := Bool.and_eq_true_iff.mp h2
          rw [← eq_of_beq h3]; exact h1
      exact .inr (by rw [decide_eq_true h6]; rfl)
theorem le_trans {a b c : List Nat} (h1 : le a b) (h2 : le b c) : le a c := by
  unfold le at *
  cases e : ltCps c a with
  | false => rfl
  | true =>
    rcases lt_split c b a e with h | h
    · rw [h2] at h; cases h
    · rw [h1] at h; cases h
theorem le_anti : ∀ {a b : List Nat}, le a b → le b a → a = b
  | [], [], _, _ => rfl
  | [], _ :: _, _, h => nomatch h
  | _ :: _, [], h, _ => nomatch h
  | x :: a, y :: b, h1, h2 => by
    have h1 : (decide (y < x) || (y == x && ltCps b a)) = false := h1
    have h2 : (decide (x < y) || (x == y && ltCps a b)) = false := h2
    rw [Bool.or_eq_false_iff] at h1 h2
    have e : x = y := by
      have a1 := of_decide_eq_false h1.1
      have a2 := of_decide_eq_false h2.1
      omega
    subst e
    have h3 : ltCps b a = false := by have := h1.2; simpa using this
    have h4 : ltCps a b = false := by have := h2.2; simpa using this
    rw [le_anti (a := a) (b := b) h3 h4]
def leS (a b : Str) : Prop := le (TL.tl a) (TL.tl b)
theorem rising : ∀ (p : Str) (l : List Str), risingS p l = true → (p :: l).Pairwise leS
  | p, [], _ => List.pairwise_singleton _ _
  | p, x :: r, h => by
    have h : (!ltCps x.cps.toList p.cps.toList && risingS x r) = true := h
    obtain ⟨h1, h2⟩ := Bool.and_eq_true_iff.mp h
    have i := rising x r h2
    refine List.pairwise_cons.mpr ⟨fun z hz => ?_, i⟩
    have a : leS p x := by
      show ltCps (TL.tl x) (TL.tl p) = false
      have h1 : (!ltCps (TL.tl x) (TL.tl p)) = true := h1
      cases e : ltCps (TL.tl x) (TL.tl p) with
      | false => rfl
      | true => rw [e] at h1; cases h1
    rcases List.mem_cons.mp hz with rfl | hz
    · exact a
    · exact le_trans a ((List.pairwise_cons.mp i).1 z hz)
theorem sorted_pw : ∀ {l : List Str}, sortedS l = true → l.Pairwise leS
  | [], _ => List.Pairwise.nil
  | x :: r, h => rising x r h
theorem uniq : ∀ {l m : List Str}, l.Perm m → l.Pairwise leS → m.Pairwise leS → l = m
  | [], m, hp, _, _ => by rw [List.nil_perm.mp hp]
  | x :: r, m, hp, h1, h2 => by
    cases m with
    | nil => exact absurd hp.length_eq (by simp)
    | cons y t =>
      obtain ⟨a1, a2⟩ := List.pairwise_cons.mp h1
      obtain ⟨b1, b2⟩ := List.pairwise_cons.mp h2
      have e : x = y := by
        have hx : x ∈ y :: t := hp.mem_iff.mp List.mem_cons_self
        have hy : y ∈ x :: r := hp.mem_iff.mpr List.mem_cons_self
        rcases List.mem_cons.mp hx with rfl | hx
        · rfl
        rcases List.mem_cons.mp hy with rfl | hy
        · rfl
        exact TL.ext_tl (le_anti (a1 y hy) (b1 x hx))
      subst e
      rw [uniq ((List.perm_cons x).mp hp) a2 b2]
/-- a sorted row's part is that part, sorted -/
theorem sorted_filter {xs ys zs : List Str} {p : Str → Bool} (h1 : ys.Perm xs) (h2 : sortedS ys = true) (h3 : zs.Perm (xs.filter p)) (h4 : sortedS zs = true) : zs = ys.filter p :=
  uniq (h3.trans (h1.symm.filter p)) (sorted_pw h4) ((sorted_pw h2).filter p)
end RE

set_option Elab.async false
set_option linter.all false
set_option maxRecDepth 100000
set_option maxHeartbeats 4000000
/-! Further rules of dicts: d.update(d2). -/
namespace RF
open PySem PySem.Spec PyProof.Rows L2
def rUpdD : V → List V → Hp → VK → Prop := fun x xs H Q => ∃ (d o : Addr) (kvs more : List (Key × V)), x = .ref d ∧ xs = [.ref o] ∧ H d = some (.dK kvs) ∧ Rd H o (.dK more) ∧ d ≠ o ∧ kvs.length + more.length ≤ sizeLine ∧ (mergeK kvs more).length ≤ sizeLine ∧ Q .non (upd H d (.dK (mergeK kvs more)))
theorem mt_updD {X : Cx} : MtR X "dict.update" rUpdD := by
  intro pins s σ H x xs v us Q I rx rxs h
  obtain ⟨d, o, kvs, more, rfl, rfl, hd, ho, hne, hl, hl2, q⟩ := h
  cases rx
  obtain rfl := Vals.ref1 rxs
  obtain ⟨z, lo, vs, rel, dd⟩ := dk_of I.hok hd
  obtain ⟨z2, lo2, vs2, rel2, dd2⟩ := dk_rd I.hok ho
  refine call_meetsIn PySem.F.slot_dict_update dd.typeIs PySem.F.entry_dict_update (PySem.F.args_dict_update_2 _ _) (meets_dict_update (mixKind X.prog X.w) d o hne lo2)
    ⟨vs, vs2, dd, dd2, (by rw [← rel.length, ← rel2.length]; exact hl), fun h' hmm _ hs => ?_⟩
  have he : ∃ q, h'.get? d = some q := let ⟨q, _, _, hq, _⟩ := hmm; ⟨q, hq⟩
  refine d_write I (by rw [hd]; exact True.intro) hs he (dk_new hl2 lo (KV.merge rel2 rel) hmm) |> fun I' => ⟨.non, _, I', rfl, q⟩
/-- list(o.values()) -/
def tListVals (td : TE) : TE := fun σ H Q => td σ H fun x H1 => ∃ a kvs, x = V.ref a ∧ H1 a = some (.dK kvs) ∧ ∀ q, H1 q = none → Q (.ref q) (upd H1 q (.lst (kvs.map (·.2))))
section
variable {X : Cx} {o : Expr} {p pos apos mpos : Pos} {td : TE}
theorem pe_listVals (hc : X.calm = true) (hg : Gl X "list") (hm : X.mg "list" = none) (hd : PE X o td) (hbase : attributeBase o "values" X.env (eval o X.env) = eval o X.env := by rfl) (hline : (apos.endLine == mpos.line) = true := by rfl)
    (hse : starEach [Expr.Call (.Attribute o "values" apos) [] [] mpos] X.env = [(false, eval (Expr.Call (.Attribute o "values" apos) [] [] mpos) X.env)] := by rfl) :
    PE X (.Call (.Name "list" p) [.Call (.Attribute o "values" apos) [] [] mpos] [] pos) (tListVals td) := by
  refine ⟨fun pins s σ H Q I h => ?_⟩
  refine wpAny_Call_Name_kw (ld_blt I hg hm (u := .type "list") (by first | rfl | decide +kernel) ?_ (by first | decide +kernel | decide) (by first | decide +kernel | decide))
  rw [hse]
  refine PySem.callWith_type1 (wpAny_Call_method0_late hbase hline (thn (hd.run pins s σ H _ I h) fun v s1 ⟨x, H1, I1, r1, a, kvs, ex, ha, q⟩ => ?_))
  subst ex
  obtain rfl : v = Value.ref a := r1
  obtain ⟨z, hsys, vs, rel, dof⟩ := dk_of I1.hok ha
  obtain ⟨ep, dat⟩ := dof.dictAt
  have dat' := dat
  obtain ⟨ob, es, ho, ex, hdat, hko, hpr, hnd⟩ := dat'
  refine ⟨"dict", "dict.values", F.plainAttrs_dict, F.slot_dict_values, F.type_dict_values, ⟨ob, ho, ex.1⟩, fun b e => ?_, Calls.callWith_builtin rfl (PySem.evalArgs_none ?_)⟩
  · cases e
    exact ⟨ob, ho, ex.2.1⟩
  refine call_meetsIn F.slot_dict_values ⟨ob, ho, ex.1⟩ F.entry_dict_values (F.args_dict_values_1 _) (meets_dict_values (mixKind X.prog X.w) a hsys) ⟨⟨vs, dof⟩, ?_⟩
  have k1 : ∀ b u, s1.heap.get? b = some u → (s1.heap.push { cls := .type "dict_values", data := .fields #[.ref a] }).get? b = some u := fun b u e => Heap.get?_push_of_some _ e
  have dat1 : (s1.heap.push { cls := .type "dict_values", data := .fields #[.ref a] }).DictAt (mixKind X.prog X.w) a vs ep := dat.keep k1
  have I2 : Inv X pins σ H1 { s1 with heap := s1.heap.push { cls := .type "dict_values", data := .fields #[.ref a] } } := I1.kept (t' := s1.toks) k1
  have hl : kvs.length = vs.length := Paired.length rel
  refine PySem.W.kdl_call (PySem.W.kdl_values (knd := mixKind X.prog X.w) (r := s1.heap.objs.size) (d := a) (kvs := vs) (ep := ep)) (I1.ok.hd hc) ⟨⟨_, Heap.get?_push_size _ rfl, rfl, rfl⟩, dat1⟩ (by rw [← hl]; exact z) fun h' tk acc' c' hkeep hS hacc => ?_
  refine ⟨.ref _, upd H1 _ (.lst (kvs.map (·.2))), I2.laid hkeep (Nat.le_refl _) (show ObjOk X.prog X.w _ _ _ (.lst (kvs.map (·.2))) from ⟨?_, acc'.toList, c', ?_, ?_⟩), rfl, q _ (I2.hok.fresh (Nat.le_refl _))⟩
  · rw [List.length_map]; exact z
  · have el : acc'.toList.length = acc'.size := by simp
    refine vals_of_at (by rw [List.length_map, el, hacc.1, hl]) fun j x w h1 h2 => ?_
    obtain ⟨k, hk⟩ := hacc.2 j w (by rw [← Array.getElem?_toList]; exact h2)
    obtain ⟨x', h3, h4⟩ := KV.at' rel hk
    rw [List.getElem?_map, h3] at h1
    cases h1
    exact h4
  · rw [Array.toArray_toList]; exact hS
end
/-- d[i] = v as one of several targets -/
def rSetD : TSet := fun o i v H Q => ∃ (a : Addr) (H' : Hp), o = .ref a ∧ DPut H a i v H' ∧ Q H'
theorem set_dict {X : Cx} (hu : X.A.units + 1 < cLine) : PSet X rSetD := by
  intro pins s σ H o i v ov iv u Q I ro ri rv h
  obtain ⟨a, H', rfl, g, q⟩ := h
  cases ro
  exact d_setItem hu I g ri rv fun s' I' => ⟨H', I', q⟩
end RF

set_option Elab.async false
set_option linter.all false
set_option maxRecDepth 100000
set_option maxHeartbeats 4000000
/-! Rules that name the written part, for a comprehension's block. -/
namespace RG
open PySem PySem.Spec PyProof.Rows L2
theorem pg_tupK {X : Cx} {K : PySem.W.Frag} {es : List Expr} {k n : Nat} {pos : Pos} {t : TGs} (hc : X.calm = true) (h : PGs X es t) (hn : (assignEach es X.env).length = n := by rfl) (hst : (assignEach es X.env).findIdx? (·.1) = none := by rfl) (z : X.K = K := by rfl) :
    PG X (.Tuple es k pos) (gTup K n t) := z ▸ pg_tup hc h hn hst
end RG

set_option Elab.async false
set_option linter.all false
set_option maxRecDepth 100000
set_option maxHeartbeats 4000000
/-! What a walk by itself leans on: facts of the heap carried over changes. -/
namespace RW
open PySem PySem.Spec PyProof.Rows L2 RC
section
variable {H H1 H2 : Hp} {p q s l : Addr} {o o' u : HO}
theorem at_same (e : Same H H1) (h : H p = some o) : H1 p = some o := e _ _ h
theorem at_old (e : Old s l H H1) (h1 : p ≠ s) (h2 : p ≠ l) (h : H p = some o) : H1 p = some o := e _ _ h1 h2 h
theorem at_upd (n : q ≠ p) (h : H q = some u) : upd H p o q = some u := by rw [upd_ne n]; exact h
theorem no_upd (n : q ≠ p) (h : H q = none) : upd H p o q = none := by rw [upd_ne n]; exact h
theorem ne_new (h : H p = none) (h2 : H q = some u) : q ≠ p := ne_of_none h2 h
theorem ne_new' (h : H p = none) (h2 : H q = some u) : p ≠ q := Ne.symm (ne_of_none h2 h)
theorem ne_kind (h : H p = some o) (h' : H q = some u) (n : o ≠ u) : p ≠ q := fun z => n (by rw [z] at h; exact Option.some.inj (h.symm.trans h'))
theorem same_put_new (e : Same H H1) (h : H1 p = none) : Same H (upd H1 p o) := e.trans (same_new h o)
theorem same_put (e : Same H H1) (h : H p = none) : Same H (upd H1 p o) := fun b x hb => by rw [upd_ne (ne_of_none hb h)]; exact e _ _ hb
theorem same_then (h : Same H1 H2) (e : Same H H1) : Same H H2 := e.trans h
theorem free_same (e : Same H H1) (h : H1 p = none) : H p = none := e.free h
theorem free_upd (h : upd H p o q = none) : H q = none := (upd_none h).2
theorem ne_upd (h : upd H p o q = none) : q ≠ p := (upd_none h).1
theorem some_ref {xs : List V} {K : PySem.W.Frag} (h : H p = some (.lst xs)) : SqL K H p xs := SqL.of h
theorem rd_of (h : H p = some o) : Rd H p o := .inl h
theorem fr {R : Addr → Prop} (h : ∀ x, H x = none → x ≠ p → R x) : ∀ x, upd H p o x = none → R x := fun x hx => h x (upd_none hx).2 (upd_none hx).1
theorem fr_same {R : Addr → Prop} (e : Same H H1) (h : ∀ x, H x = none → H1 x = none → R x) : ∀ x, H1 x = none → R x := fun x hx => h x (e.free hx) hx
theorem gHp (h : H p = some o) : H p = some o := h
theorem gStm {n : Nat} (h : Stm H s l n) : Stm H s l n := h
theorem stm_upd {n : Nat} (h1 : p ≠ s) (h2 : p ≠ l) (h : Stm H s l n) : Stm (upd H p o) s l n := by
  obtain ⟨ne, ns, x, c, d, g1, g2, g3⟩ := h
  exact ⟨ne, ns, x, c, d, by rw [upd_ne (Ne.symm h1)]; exact g1, by rw [upd_ne (Ne.symm h2)]; exact g2, g3⟩
theorem stm_at {n : Nat} (h : Stm H s l n) : (∃ o, H s = some o) ∧ (∃ o, H l = some o) ∧ s ≠ l := by
  obtain ⟨ne, ns, x, c, d, g1, g2, g3⟩ := h
  exact ⟨⟨_, g1⟩, ⟨_, g2⟩, ne⟩
theorem stm_same {n : Nat} (h : Stm H s l n) (e : Same H H1) : Stm H1 s l n := h.same e
theorem old_upd (e : Old s l H H1) (h : H p = none) : Old s l H (upd H1 p o) := fun b x h1 h2 hb => by rw [upd_ne (ne_of_none hb h)]; exact e _ _ h1 h2 hb
theorem old_same (e : Old s l H H1) (h : Same H1 H2) : Old s l H H2 := fun b x h1 h2 hb => h _ _ (e _ _ h1 h2 hb)
theorem old_then (h : Old s l H1 H2) (e : Old s l H H1) : Old s l H H2 := e.trans h
theorem old_of (e : Same H H1) : Old s l H H1 := Old.of_same e
theorem gOld (h : Old s l H H1) : Old s l H H1 := h
theorem gCp {i j : Int} (h : 0 ≤ j ∧ j ≤ 1000000 ∧ i.natAbs < 2 ^ 64) : CPow i j := h
theorem gNe (h : p ≠ q) : p ≠ q := h
theorem isMut {d : Addr} {w : HO} {R : Prop} (h : H d = some w ∧ Mut (H d) ∧ R) : H d = some w ∧ Mut (H d) ∧ R := h
theorem isMut2 {d : Addr} {w : HO} {R : Prop} (h : H d = some w ∧ Mut (some w) ∧ R) : H d = some w ∧ Mut (some w) ∧ R := h
theorem gSm (h : Same H H1) : Same H H1 := h
theorem gCls {K : PySem.W.Frag} {C : Addr} (h : Cls K C) : Cls K C := h
theorem gNo {K : PySem.W.Frag} {C : Addr} {f : Str} (h : NoAttr K C f) : NoAttr K C f := h
theorem gCv {c : V} {u : Value} (h : ClsV c u) : ClsV c u := h
theorem gTy {K : PySem.W.Frag} {c : V} {u : Value} (h : TyX K H c u) : TyX K H c u := h
theorem gKit {K : PySem.W.Frag} {t c : Value} {b : Bool} (h : PySem.W.kitOne K t c = some b) : PySem.W.kitOne K t c = some b := h
theorem gKita {K : PySem.W.Frag} {t : Value} {c : List Value} {b : Bool} (h : PySem.W.kitAny K t c = some b) : PySem.W.kitAny K t c = some b := h
theorem gSl {K : PySem.W.Frag} {xs : List V} (h : SqL K H p xs) : SqL K H p xs := h
theorem gSt {K : PySem.W.Frag} {xs : List V} (h : SqT K H p xs) : SqT K H p xs := h
theorem gPr {cs : List V} {us : List Value} (h : Paired ClsV cs us) : Paired ClsV cs us := h
theorem gKi {K : PySem.W.Frag} {t : Value} {b : Bool} (h : PySem.W.kitOne K t (.type "int") = some b) : PySem.W.kitOne K t (.type "int") = some b := h
theorem gKb {K : PySem.W.Frag} {t : Value} {b : Bool} (h : PySem.W.kitOne K t (.type "bool") = some b) : PySem.W.kitOne K t (.type "bool") = some b := h
theorem gKs {K : PySem.W.Frag} {t : Value} {b : Bool} (h : PySem.W.kitOne K t (.type "str") = some b) : PySem.W.kitOne K t (.type "str") = some b := h
theorem gKl {K : PySem.W.Frag} {t : Value} {b : Bool} (h : PySem.W.kitOne K t (.type "list") = some b) : PySem.W.kitOne K t (.type "list") = some b := h
theorem gKt {K : PySem.W.Frag} {t : Value} {b : Bool} (h : PySem.W.kitOne K t (.type "tuple") = some b) : PySem.W.kitOne K t (.type "tuple") = some b := h
theorem gKd {K : PySem.W.Frag} {t : Value} {b : Bool} (h : PySem.W.kitOne K t (.type "dict") = some b) : PySem.W.kitOne K t (.type "dict") = some b := h
theorem cxK {P : Program} {w : World} {K : PySem.W.Frag} {mg : Str → Option Value} {base : Heap} {N : List Str} {qual : Str} {scope : Scope} {f : Addr} {cd : Value} {A : Around} {outer : List Env} {sh : Shared} {E : XK} :
    (cxOf CX0 P w K mg base N qual scope f cd A outer sh H E).nox.K = K := rfl
end
section
variable {H : Hp} {K : PySem.W.Frag} {a p : Addr} {kvs : List (Key × V)} {x y : Str} {i j : Int} {o : Option V} {od : Obj} {v : V} {xs : List V}
theorem dget_s (h : H a = some (.dK kvs)) (e : valV kvs (Sum.inr x) = o) : DGet H a (.str x) o := .inl ⟨kvs, Sum.inr x, .inl h, rfl, e.symm⟩
theorem dget_i (h : H a = some (.dK kvs)) (e : valV kvs (Sum.inl i) = o) : DGet H a (.int i) o := .inl ⟨kvs, Sum.inl i, .inl h, rfl, e.symm⟩
theorem dget_sF (h : H a = some (.frz od (.dK kvs))) (e : valV kvs (Sum.inr x) = o) : DGet H a (.str x) o := .inl ⟨kvs, Sum.inr x, .inr ⟨od, h⟩, rfl, e.symm⟩
theorem dget_sR (h : Rd H a (.dK kvs)) (e : valV kvs (Sum.inr x) = o) : DGet H a (.str x) o := .inl ⟨kvs, Sum.inr x, h, rfl, e.symm⟩
theorem dput_s (h : H a = some (.dK kvs)) (hl : kvs.length < sizeLine) : DPut H a (.str x) v (upd H a (.dK (putK kvs (Sum.inr x) v))) := DPut.k (k := Sum.inr x) h hl
theorem dput_i (h : H a = some (.dK kvs)) (hl : kvs.length < sizeLine) : DPut H a (.int i) v (upd H a (.dK (putK kvs (Sum.inl i) v))) := DPut.k (k := Sum.inl i) h hl
theorem sql_of (h : H p = some (.lst xs)) : ∃ ys, SqL K H p ys := ⟨xs, SqL.of h⟩
theorem sqt_of (h : H p = some (.tup xs)) : ∃ ys, SqT K H p ys := ⟨xs, SqT.of h⟩
theorem disp1 {a0 : Str} {v0 : V} {R : List (Key × V) → Prop} (h : R [((Sum.inr a0 : Key), v0)]) : ∃ kvs : List (Key × V), [(V.str a0, v0)] = kvs.map (fun kv => (kV kv.1, kv.2)) ∧ kvs.length ≤ 15 ∧ R kvs := ⟨[((Sum.inr a0 : Key), v0)], rfl, Nat.le_of_ble_eq_true rfl, h⟩
theorem disp2 {a0 a1 : Str} {v0 v1 : V} {R : List (Key × V) → Prop} (h : R [((Sum.inr a0 : Key), v0), ((Sum.inr a1 : Key), v1)]) : ∃ kvs : List (Key × V), [(V.str a0, v0), (V.str a1, v1)] = kvs.map (fun kv => (kV kv.1, kv.2)) ∧ kvs.length ≤ 15 ∧ R kvs := ⟨[((Sum.inr a0 : Key), v0), ((Sum.inr a1 : Key), v1)], rfl, Nat.le_of_ble_eq_true rfl, h⟩
theorem disp3 {a0 a1 a2 : Str} {v0 v1 v2 : V} {R : List (Key × V) → Prop} (h : R [((Sum.inr a0 : Key), v0), ((Sum.inr a1 : Key), v1), ((Sum.inr a2 : Key), v2)]) : ∃ kvs : List (Key × V), [(V.str a0, v0), (V.str a1, v1), (V.str a2, v2)] = kvs.map (fun kv => (kV kv.1, kv.2)) ∧ kvs.length ≤ 15 ∧ R kvs := ⟨[((Sum.inr a0 : Key), v0), ((Sum.inr a1 : Key), v1), ((Sum.inr a2 : Key), v2)], rfl, Nat.le_of_ble_eq_true rfl, h⟩
theorem disp4 {a0 a1 a2 a3 : Str} {v0 v1 v2 v3 : V} {R : List (Key × V) → Prop} (h : R [((Sum.inr a0 : Key), v0), ((Sum.inr a1 : Key), v1), ((Sum.inr a2 : Key), v2), ((Sum.inr a3 : Key), v3)]) : ∃ kvs : List (Key × V), [(V.str a0, v0), (V.str a1, v1), (V.str a2, v2), (V.str a3, v3)] = kvs.map (fun kv => (kV kv.1, kv.2)) ∧ kvs.length ≤ 15 ∧ R kvs := ⟨[((Sum.inr a0 : Key), v0), ((Sum.inr a1 : Key), v1), ((Sum.inr a2 : Key), v2), ((Sum.inr a3 : Key), v3)], rfl, Nat.le_of_ble_eq_true rfl, h⟩
theorem disp5 {a0 a1 a2 a3 a4 : Str} {v0 v1 v2 v3 v4 : V} {R : List (Key × V) → Prop} (h : R [((Sum.inr a0 : Key), v0), ((Sum.inr a1 : Key), v1), ((Sum.inr a2 : Key), v2), ((Sum.inr a3 : Key), v3), ((Sum.inr a4 : Key), v4)]) : ∃ kvs : List (Key × V), [(V.str a0, v0), (V.str a1, v1), (V.str a2, v2), (V.str a3, v3), (V.str a4, v4)] = kvs.map (fun kv => (kV kv.1, kv.2)) ∧ kvs.length ≤ 15 ∧ R kvs := ⟨[((Sum.inr a0 : Key), v0), ((Sum.inr a1 : Key), v1), ((Sum.inr a2 : Key), v2), ((Sum.inr a3 : Key), v3), ((Sum.inr a4 : Key), v4)], rfl, Nat.le_of_ble_eq_true rfl, h⟩
theorem disp6 {a0 a1 a2 a3 a4 a5 : Str} {v0 v1 v2 v3 v4 v5 : V} {R : List (Key × V) → Prop} (h : R [((Sum.inr a0 : Key), v0), ((Sum.inr a1 : Key), v1), ((Sum.inr a2 : Key), v2), ((Sum.inr a3 : Key), v3), ((Sum.inr a4 : Key), v4), ((Sum.inr a5 : Key), v5)]) : ∃ kvs : List (Key × V), [(V.str a0, v0), (V.str a1, v1), (V.str a2, v2), (V.str a3, v3), (V.str a4, v4), (V.str a5, v5)] = kvs.map (fun kv => (kV kv.1, kv.2)) ∧ kvs.length ≤ 15 ∧ R kvs := ⟨[((Sum.inr a0 : Key), v0), ((Sum.inr a1 : Key), v1), ((Sum.inr a2 : Key), v2), ((Sum.inr a3 : Key), v3), ((Sum.inr a4 : Key), v4), ((Sum.inr a5 : Key), v5)], rfl, Nat.le_of_ble_eq_true rfl, h⟩
theorem disp7 {a0 a1 a2 a3 a4 a5 a6 : Str} {v0 v1 v2 v3 v4 v5 v6 : V} {R : List (Key × V) → Prop} (h : R [((Sum.inr a0 : Key), v0), ((Sum.inr a1 : Key), v1), ((Sum.inr a2 : Key), v2), ((Sum.inr a3 : Key), v3), ((Sum.inr a4 : Key), v4), ((Sum.inr a5 : Key), v5), ((Sum.inr a6 : Key), v6)]) : ∃ kvs : List (Key × V), [(V.str a0, v0), (V.str a1, v1), (V.str a2, v2), (V.str a3, v3), (V.str a4, v4), (V.str a5, v5), (V.str a6, v6)] = kvs.map (fun kv => (kV kv.1, kv.2)) ∧ kvs.length ≤ 15 ∧ R kvs := ⟨[((Sum.inr a0 : Key), v0), ((Sum.inr a1 : Key), v1), ((Sum.inr a2 : Key), v2), ((Sum.inr a3 : Key), v3), ((Sum.inr a4 : Key), v4), ((Sum.inr a5 : Key), v5), ((Sum.inr a6 : Key), v6)], rfl, Nat.le_of_ble_eq_true rfl, h⟩
theorem disp8 {a0 a1 a2 a3 a4 a5 a6 a7 : Str} {v0 v1 v2 v3 v4 v5 v6 v7 : V} {R : List (Key × V) → Prop} (h : R [((Sum.inr a0 : Key), v0), ((Sum.inr a1 : Key), v1), ((Sum.inr a2 : Key), v2), ((Sum.inr a3 : Key), v3), ((Sum.inr a4 : Key), v4), ((Sum.inr a5 : Key), v5), ((Sum.inr a6 : Key), v6), ((Sum.inr a7 : Key), v7)]) : ∃ kvs : List (Key × V), [(V.str a0, v0), (V.str a1, v1), (V.str a2, v2), (V.str a3, v3), (V.str a4, v4), (V.str a5, v5), (V.str a6, v6), (V.str a7, v7)] = kvs.map (fun kv => (kV kv.1, kv.2)) ∧ kvs.length ≤ 15 ∧ R kvs := ⟨[((Sum.inr a0 : Key), v0), ((Sum.inr a1 : Key), v1), ((Sum.inr a2 : Key), v2), ((Sum.inr a3 : Key), v3), ((Sum.inr a4 : Key), v4), ((Sum.inr a5 : Key), v5), ((Sum.inr a6 : Key), v6), ((Sum.inr a7 : Key), v7)], rfl, Nat.le_of_ble_eq_true rfl, h⟩
theorem len_sl (h : SqL K H p xs) : LenV K (.ref p) H xs.length := .inl ⟨xs, h, rfl⟩
theorem len_st (h : SqT K H p xs) : LenV K (.ref p) H xs.length := .inr ⟨xs, h, rfl⟩
theorem sql_same {H' : Hp} (h : SqL K H p xs) (e : Same H H') : SqL K H' p xs := e.seq h
theorem sqt_same {H' : Hp} (h : SqT K H p xs) (e : Same H H') : SqT K H' p xs := e.seqT h
theorem ka1 {t c : Value} {b : Bool} (h : PySem.W.kitOne K t c = some b) : PySem.W.kitAny K t [c] = some (b || false) := kitAny_cons h (fun e => by rw [e]; rfl) (fun e => by rw [e]; rfl)
theorem kac {t c : Value} {cs : List Value} {b r : Bool} (h : PySem.W.kitOne K t c = some b) (h2 : PySem.W.kitAny K t cs = some r) : PySem.W.kitAny K t (c :: cs) = some (b || r) := kitAny_cons h (fun e => by rw [e]; exact h2) (fun e => by rw [e]; rfl)
theorem ka2 {t c1 c2 : Value} {b1 b2 : Bool} (h1 : PySem.W.kitOne K t c1 = some b1) (h2 : PySem.W.kitOne K t c2 = some b2) : PySem.W.kitAny K t [c1, c2] = some (b1 || (b2 || false)) := kac h1 (ka1 h2)
theorem ka3 {t c1 c2 c3 : Value} {b1 b2 b3 : Bool} (h1 : PySem.W.kitOne K t c1 = some b1) (h2 : PySem.W.kitOne K t c2 = some b2) (h3 : PySem.W.kitOne K t c3 = some b3) : PySem.W.kitAny K t [c1, c2, c3] = some (b1 || (b2 || (b3 || false))) := kac h1 (ka2 h2 h3)
theorem ka4 {t c1 c2 c3 c4 : Value} {b1 b2 b3 b4 : Bool} (h1 : PySem.W.kitOne K t c1 = some b1) (h2 : PySem.W.kitOne K t c2 = some b2) (h3 : PySem.W.kitOne K t c3 = some b3) (h4 : PySem.W.kitOne K t c4 = some b4) : PySem.W.kitAny K t [c1, c2, c3, c4] = some (b1 || (b2 || (b3 || (b4 || false)))) := kac h1 (ka3 h2 h3 h4)
theorem ka5 {t c1 c2 c3 c4 c5 : Value} {b1 b2 b3 b4 b5 : Bool} (h1 : PySem.W.kitOne K t c1 = some b1) (h2 : PySem.W.kitOne K t c2 = some b2) (h3 : PySem.W.kitOne K t c3 = some b3) (h4 : PySem.W.kitOne K t c4 = some b4) (h5 : PySem.W.kitOne K t c5 = some b5) : PySem.W.kitAny K t [c1, c2, c3, c4, c5] = some (b1 || (b2 || (b3 || (b4 || (b5 || false))))) := kac h1 (ka4 h2 h3 h4 h5)
theorem len_l (h : H p = some (.lst xs)) : LenV K (.ref p) H xs.length := .inl ⟨xs, SqL.of h, rfl⟩
theorem tyv_l (h : H p = some (.lst xs)) : tyV K "list" (.ref p) H := .inl ⟨rfl, _, SqL.of h⟩
theorem tyv_s (h : SqL K H p xs) : tyV K "list" (.ref p) H := .inl ⟨rfl, _, h⟩
theorem isd (h : H a = some (.dK kvs)) : IsD H a := .inl ⟨kvs, .inl h⟩
theorem cSsT (h : x = y) : decide (V.str x = V.str y) = true := decide_eq_true (congrArg V.str h)
theorem cSsF (h : x ≠ y) : decide (V.str x = V.str y) = false := decide_eq_false fun z => h (V.str.inj z)
theorem cNsT (h : x ≠ y) : (!decide (V.str x = V.str y)) = true := by rw [cSsF h]; rfl
theorem cNsF (h : x = y) : (!decide (V.str x = V.str y)) = false := by rw [cSsT h]; rfl
theorem cSiT (h : i = j) : decide (V.int i = V.int j) = true := decide_eq_true (congrArg V.int h)
theorem cSiF (h : i ≠ j) : decide (V.int i = V.int j) = false := decide_eq_false fun z => h (V.int.inj z)
theorem cNiT (h : i ≠ j) : (!decide (V.int i = V.int j)) = true := by rw [cSiF h]; rfl
theorem cNiF (h : i = j) : (!decide (V.int i = V.int j)) = false := by rw [cSiT h]; rfl
theorem someT (h : o = some v) : o.isSome = true := by rw [h]; rfl
theorem someF (h : o = none) : o.isSome = false := by rw [h]; rfl
theorem nsomeT (h : o = none) : (!o.isSome) = true := by rw [h]; rfl
theorem nsomeF (h : o = some v) : (!o.isSome) = false := by rw [h]; rfl
end
theorem k_int_int {K : PySem.W.Frag} : PySem.W.kitOne K (.type "int") (.type "int") = some true := kit_ty (by decide +kernel)
theorem k_int_bool {K : PySem.W.Frag} : PySem.W.kitOne K (.type "int") (.type "bool") = some false := kit_ty (by decide +kernel)
theorem k_int_str {K : PySem.W.Frag} : PySem.W.kitOne K (.type "int") (.type "str") = some false := kit_ty (by decide +kernel)
theorem k_int_list {K : PySem.W.Frag} : PySem.W.kitOne K (.type "int") (.type "list") = some false := kit_ty (by decide +kernel)
theorem k_int_tuple {K : PySem.W.Frag} : PySem.W.kitOne K (.type "int") (.type "tuple") = some false := kit_ty (by decide +kernel)
theorem k_int_dict {K : PySem.W.Frag} : PySem.W.kitOne K (.type "int") (.type "dict") = some false := kit_ty (by decide +kernel)
theorem k_bool_int {K : PySem.W.Frag} : PySem.W.kitOne K (.type "bool") (.type "int") = some true := kit_ty (by decide +kernel)
theorem k_bool_bool {K : PySem.W.Frag} : PySem.W.kitOne K (.type "bool") (.type "bool") = some true := kit_ty (by decide +kernel)
theorem k_bool_str {K : PySem.W.Frag} : PySem.W.kitOne K (.type "bool") (.type "str") = some false := kit_ty (by decide +kernel)
theorem k_bool_list {K : PySem.W.Frag} : PySem.W.kitOne K (.type "bool") (.type "list") = some false := kit_ty (by decide +kernel)
theorem k_bool_tuple {K : PySem.W.Frag} : PySem.W.kitOne K (.type "bool") (.type "tuple") = some false := kit_ty (by decide +kernel)
theorem k_bool_dict {K : PySem.W.Frag} : PySem.W.kitOne K (.type "bool") (.type "dict") = some false := kit_ty (by decide +kernel)
theorem k_str_int {K : PySem.W.Frag} : PySem.W.kitOne K (.type "str") (.type "int") = some false := kit_ty (by decide +kernel)
theorem k_str_bool {K : PySem.W.Frag} : PySem.W.kitOne K (.type "str") (.type "bool") = some false := kit_ty (by decide +kernel)
theorem k_str_str {K : PySem.W.Frag} : PySem.W.kitOne K (.type "str") (.type "str") = some true := kit_ty (by decide +kernel)
theorem k_str_list {K : PySem.W.Frag} : PySem.W.kitOne K (.type "str") (.type "list") = some false := kit_ty (by decide +kernel)
theorem k_str_tuple {K : PySem.W.Frag} : PySem.W.kitOne K (.type "str") (.type "tuple") = some false := kit_ty (by decide +kernel)
theorem k_str_dict {K : PySem.W.Frag} : PySem.W.kitOne K (.type "str") (.type "dict") = some false := kit_ty (by decide +kernel)
theorem k_NoneType_int {K : PySem.W.Frag} : PySem.W.kitOne K (.type "NoneType") (.type "int") = some false := kit_ty (by decide +kernel)
theorem k_NoneType_bool {K : PySem.W.Frag} : PySem.W.kitOne K (.type "NoneType") (.type "bool") = some false := kit_ty (by decide +kernel)
theorem k_NoneType_str {K : PySem.W.Frag} : PySem.W.kitOne K (.type "NoneType") (.type "str") = some false := kit_ty (by decide +kernel)
theorem k_NoneType_list {K : PySem.W.Frag} : PySem.W.kitOne K (.type "NoneType") (.type "list") = some false := kit_ty (by decide +kernel)
theorem k_NoneType_tuple {K : PySem.W.Frag} : PySem.W.kitOne K (.type "NoneType") (.type "tuple") = some false := kit_ty (by decide +kernel)
theorem k_NoneType_dict {K : PySem.W.Frag} : PySem.W.kitOne K (.type "NoneType") (.type "dict") = some false := kit_ty (by decide +kernel)
theorem k_list_int {K : PySem.W.Frag} : PySem.W.kitOne K (.type "list") (.type "int") = some false := kit_ty (by decide +kernel)
theorem k_list_bool {K : PySem.W.Frag} : PySem.W.kitOne K (.type "list") (.type "bool") = some false := kit_ty (by decide +kernel)
theorem k_list_str {K : PySem.W.Frag} : PySem.W.kitOne K (.type "list") (.type "str") = some false := kit_ty (by decide +kernel)
theorem k_list_list {K : PySem.W.Frag} : PySem.W.kitOne K (.type "list") (.type "list") = some true := kit_ty (by decide +kernel)
theorem k_list_tuple {K : PySem.W.Frag} : PySem.W.kitOne K (.type "list") (.type "tuple") = some false := kit_ty (by decide +kernel)
theorem k_list_dict {K : PySem.W.Frag} : PySem.W.kitOne K (.type "list") (.type "dict") = some false := kit_ty (by decide +kernel)
theorem k_tuple_int {K : PySem.W.Frag} : PySem.W.kitOne K (.type "tuple") (.type "int") = some false := kit_ty (by decide +kernel)
theorem k_tuple_bool {K : PySem.W.Frag} : PySem.W.kitOne K (.type "tuple") (.type "bool") = some false := kit_ty (by decide +kernel)
theorem k_tuple_str {K : PySem.W.Frag} : PySem.W.kitOne K (.type "tuple") (.type "str") = some false := kit_ty (by decide +kernel)
theorem k_tuple_list {K : PySem.W.Frag} : PySem.W.kitOne K (.type "tuple") (.type "list") = some false := kit_ty (by decide +kernel)
theorem k_tuple_tuple {K : PySem.W.Frag} : PySem.W.kitOne K (.type "tuple") (.type "tuple") = some true := kit_ty (by decide +kernel)
theorem k_tuple_dict {K : PySem.W.Frag} : PySem.W.kitOne K (.type "tuple") (.type "dict") = some false := kit_ty (by decide +kernel)
theorem k_dict_int {K : PySem.W.Frag} : PySem.W.kitOne K (.type "dict") (.type "int") = some false := kit_ty (by decide +kernel)
theorem k_dict_bool {K : PySem.W.Frag} : PySem.W.kitOne K (.type "dict") (.type "bool") = some false := kit_ty (by decide +kernel)
theorem k_dict_str {K : PySem.W.Frag} : PySem.W.kitOne K (.type "dict") (.type "str") = some false := kit_ty (by decide +kernel)
theorem k_dict_list {K : PySem.W.Frag} : PySem.W.kitOne K (.type "dict") (.type "list") = some false := kit_ty (by decide +kernel)
theorem k_dict_tuple {K : PySem.W.Frag} : PySem.W.kitOne K (.type "dict") (.type "tuple") = some false := kit_ty (by decide +kernel)
theorem k_dict_dict {K : PySem.W.Frag} : PySem.W.kitOne K (.type "dict") (.type "dict") = some true := kit_ty (by decide +kernel)
end RW

set_option Elab.async false
set_option linter.all false
set_option maxRecDepth 100000
set_option maxHeartbeats 0
namespace K17
open PySem PySem.Spec PyProof.Rows L2 RC
/-! ### the text -/
def top (i : Nat) : Stmt := PySem.Challenge.pw_recordyard_k36_streams_written.main.body.getD i (.Pass ⟨0, 0, 0, 0⟩)
abbrev s_Filterer_init : Stmt := inClass (top 18) 0
abbrev nm_Filterer_init : List Str := ["self"]
theorem sc_Filterer_init : FnScope nm_Filterer_init ["self"] (defScope s_Filterer_init) := ⟨rfl, rfl, rfl, by decide +kernel, rfl, by decide +kernel, by decide +kernel⟩
def dd_Filterer_init : He.DefD := ⟨("Filterer", some "__init__"), "__init__", "Filterer.__init__", defArgs s_Filterer_init, defBody s_Filterer_init, defScope s_Filterer_init, [], []⟩
abbrev s_copied_value : Stmt := top 11
abbrev nm_copied_value : List Str := ["thing", "part", "name"]
theorem sc_copied_value : FnScope nm_copied_value ["thing"] (defScope s_copied_value) := ⟨rfl, rfl, rfl, by decide +kernel, rfl, by decide +kernel, by decide +kernel⟩
def dd_copied_value : He.DefD := ⟨("copied_value", none), "copied_value", "copied_value", defArgs s_copied_value, defBody s_copied_value, defScope s_copied_value, [], []⟩
abbrev s_message_of : Stmt := top 12
abbrev nm_message_of : List Str := ["msg", "args", "found", "at", "used", "sign", "pair"]
theorem sc_message_of : FnScope nm_message_of ["msg", "args"] (defScope s_message_of) := ⟨rfl, rfl, rfl, by decide +kernel, rfl, by decide +kernel, by decide +kernel⟩
def dd_message_of : He.DefD := ⟨("message_of", none), "message_of", "message_of", defArgs s_message_of, defBody s_message_of, defScope s_message_of, [], []⟩
abbrev s_BadMessage_init : Stmt := inClass (top 5) 0
abbrev nm_BadMessage_init : List Str := ["self", "msg"]
theorem sc_BadMessage_init : FnScope nm_BadMessage_init ["self", "msg"] (defScope s_BadMessage_init) := ⟨rfl, rfl, rfl, by decide +kernel, rfl, by decide +kernel, by decide +kernel⟩
def dd_BadMessage_init : He.DefD := ⟨("BadMessage", some "__init__"), "__init__", "BadMessage.__init__", defArgs s_BadMessage_init, defBody s_BadMessage_init, defScope s_BadMessage_init, [], []⟩
abbrev s_BadField_init : Stmt := inClass (top 6) 0
abbrev nm_BadField_init : List Str := ["self", "name"]
theorem sc_BadField_init : FnScope nm_BadField_init ["self", "name"] (defScope s_BadField_init) := ⟨rfl, rfl, rfl, by decide +kernel, rfl, by decide +kernel, by decide +kernel⟩
def dd_BadField_init : He.DefD := ⟨("BadField", some "__init__"), "__init__", "BadField.__init__", defArgs s_BadField_init, defBody s_BadField_init, defScope s_BadField_init, [], []⟩
abbrev s_LogRecord_init : Stmt := inClass (top 13) 0
abbrev nm_LogRecord_init : List Str := ["self", "name", "levelno", "levelname", "msg", "args", "created", "extra"]
theorem sc_LogRecord_init : FnScope nm_LogRecord_init ["self", "name", "levelno", "levelname", "msg", "args", "created", "extra"] (defScope s_LogRecord_init) := ⟨rfl, rfl, rfl, by decide +kernel, rfl, by decide +kernel, by decide +kernel⟩
def dd_LogRecord_init : He.DefD := ⟨("LogRecord", some "__init__"), "__init__", "LogRecord.__init__", defArgs s_LogRecord_init, defBody s_LogRecord_init, defScope s_LogRecord_init, [], []⟩
abbrev s_LogRecord_message : Stmt := inClass (top 13) 1
abbrev nm_LogRecord_message : List Str := ["self"]
theorem sc_LogRecord_message : FnScope nm_LogRecord_message ["self"] (defScope s_LogRecord_message) := ⟨rfl, rfl, rfl, by decide +kernel, rfl, by decide +kernel, by decide +kernel⟩
def dd_LogRecord_message : He.DefD := ⟨("LogRecord", some "message"), "message", "LogRecord.message", defArgs s_LogRecord_message, defBody s_LogRecord_message, defScope s_LogRecord_message, [], []⟩
abbrev s_LogRecord_field : Stmt := inClass (top 13) 2
abbrev nm_LogRecord_field : List Str := ["self", "name", "own", "values"]
theorem sc_LogRecord_field : FnScope nm_LogRecord_field ["self", "name"] (defScope s_LogRecord_field) := ⟨rfl, rfl, rfl, by decide +kernel, rfl, by decide +kernel, by decide +kernel⟩
def dd_LogRecord_field : He.DefD := ⟨("LogRecord", some "field"), "field", "LogRecord.field", defArgs s_LogRecord_field, defBody s_LogRecord_field, defScope s_LogRecord_field, [], []⟩
abbrev s_Handler_init : Stmt := inClass (top 20) 0
abbrev nm_Handler_init : List Str := ["self", "yard"]
theorem sc_Handler_init : FnScope nm_Handler_init ["self", "yard"] (defScope s_Handler_init) := ⟨rfl, rfl, rfl, by decide +kernel, rfl, by decide +kernel, by decide +kernel⟩
def dd_Handler_init : He.DefD := ⟨("Handler", some "__init__"), "__init__", "Handler.__init__", defArgs s_Handler_init, defBody s_Handler_init, defScope s_Handler_init, [], []⟩
abbrev s_StreamHandler_init : Stmt := inClass (top 21) 0
abbrev nm_StreamHandler_init : List Str := ["self", "yard", "stream"]
theorem sc_StreamHandler_init : FnScope nm_StreamHandler_init ["self", "yard", "stream"] (defScope s_StreamHandler_init) := ⟨rfl, rfl, rfl, by decide +kernel, rfl, by decide +kernel, by decide +kernel⟩
def dd_StreamHandler_init : He.DefD := ⟨("StreamHandler", some "__init__"), "__init__", "StreamHandler.__init__", defArgs s_StreamHandler_init, defBody s_StreamHandler_init, defScope s_StreamHandler_init, [.str "stderr"], []⟩
def dd_NullHandler_init : He.DefD := ⟨("NullHandler", some "__init__"), "__init__", "Handler.__init__", defArgs s_Handler_init, defBody s_Handler_init, defScope s_Handler_init, [], []⟩
abbrev s_Filterer_filtered : Stmt := inClass (top 18) 3
abbrev nm_Filterer_filtered : List Str := ["self", "record", "found", "one"]
theorem sc_Filterer_filtered : FnScope nm_Filterer_filtered ["self", "record"] (defScope s_Filterer_filtered) := ⟨rfl, rfl, rfl, by decide +kernel, rfl, by decide +kernel, by decide +kernel⟩
def dd_StreamHandler_filtered : He.DefD := ⟨("StreamHandler", some "filtered"), "filtered", "Filterer.filtered", defArgs s_Filterer_filtered, defBody s_Filterer_filtered, defScope s_Filterer_filtered, [], []⟩
abbrev s_Handler_setFormatter : Stmt := inClass (top 20) 2
abbrev nm_Handler_setFormatter : List Str := ["self", "formatter"]
theorem sc_Handler_setFormatter : FnScope nm_Handler_setFormatter ["self", "formatter"] (defScope s_Handler_setFormatter) := ⟨rfl, rfl, rfl, by decide +kernel, rfl, by decide +kernel, by decide +kernel⟩
def dd_StreamHandler_setFormatter : He.DefD := ⟨("StreamHandler", some "setFormatter"), "setFormatter", "Handler.setFormatter", defArgs s_Handler_setFormatter, defBody s_Handler_setFormatter, defScope s_Handler_setFormatter, [], []⟩
abbrev s_Handler_setTerminator : Stmt := inClass (top 20) 3
abbrev nm_Handler_setTerminator : List Str := ["self", "text"]
theorem sc_Handler_setTerminator : FnScope nm_Handler_setTerminator ["self", "text"] (defScope s_Handler_setTerminator) := ⟨rfl, rfl, rfl, by decide +kernel, rfl, by decide +kernel, by decide +kernel⟩
def dd_StreamHandler_setTerminator : He.DefD := ⟨("StreamHandler", some "setTerminator"), "setTerminator", "Handler.setTerminator", defArgs s_Handler_setTerminator, defBody s_Handler_setTerminator, defScope s_Handler_setTerminator, [], []⟩
abbrev s_Handler_handle : Stmt := inClass (top 20) 5
abbrev nm_Handler_handle : List Str := ["self", "record", "found"]
theorem sc_Handler_handle : FnScope nm_Handler_handle ["self", "record"] (defScope s_Handler_handle) := ⟨rfl, rfl, rfl, by decide +kernel, rfl, by decide +kernel, by decide +kernel⟩
def dd_StreamHandler_handle : He.DefD := ⟨("StreamHandler", some "handle"), "handle", "Handler.handle", defArgs s_Handler_handle, defBody s_Handler_handle, defScope s_Handler_handle, [], []⟩
abbrev s_StreamHandler_emit : Stmt := inClass (top 21) 1
abbrev nm_StreamHandler_emit : List Str := ["self", "record", "text"]
theorem sc_StreamHandler_emit : FnScope nm_StreamHandler_emit ["self", "record"] (defScope s_StreamHandler_emit) := ⟨rfl, rfl, rfl, by decide +kernel, rfl, by decide +kernel, by decide +kernel⟩
def dd_StreamHandler_emit : He.DefD := ⟨("StreamHandler", some "emit"), "emit", "StreamHandler.emit", defArgs s_StreamHandler_emit, defBody s_StreamHandler_emit, defScope s_StreamHandler_emit, [], []⟩
abbrev s_Handler_formatted : Stmt := inClass (top 20) 7
abbrev nm_Handler_formatted : List Str := ["self", "record"]
theorem sc_Handler_formatted : FnScope nm_Handler_formatted ["self", "record"] (defScope s_Handler_formatted) := ⟨rfl, rfl, rfl, by decide +kernel, rfl, by decide +kernel, by decide +kernel⟩
def dd_StreamHandler_formatted : He.DefD := ⟨("StreamHandler", some "formatted"), "formatted", "Handler.formatted", defArgs s_Handler_formatted, defBody s_Handler_formatted, defScope s_Handler_formatted, [], []⟩
abbrev s_Handler_text_of : Stmt := inClass (top 20) 8
abbrev nm_Handler_text_of : List Str := ["self", "record", "found"]
theorem sc_Handler_text_of : FnScope nm_Handler_text_of ["self", "record"] (defScope s_Handler_text_of) := ⟨rfl, rfl, rfl, by decide +kernel, rfl, by decide +kernel, by decide +kernel⟩
def dd_StreamHandler_text_of : He.DefD := ⟨("StreamHandler", some "text_of"), "text_of", "Handler.text_of", defArgs s_Handler_text_of, defBody s_Handler_text_of, defScope s_Handler_text_of, [], []⟩
abbrev s_StreamHandler_setStream : Stmt := inClass (top 21) 2
abbrev nm_StreamHandler_setStream : List Str := ["self", "stream", "found"]
theorem sc_StreamHandler_setStream : FnScope nm_StreamHandler_setStream ["self", "stream"] (defScope s_StreamHandler_setStream) := ⟨rfl, rfl, rfl, by decide +kernel, rfl, by decide +kernel, by decide +kernel⟩
def dd_StreamHandler_setStream : He.DefD := ⟨("StreamHandler", some "setStream"), "setStream", "StreamHandler.setStream", defArgs s_StreamHandler_setStream, defBody s_StreamHandler_setStream, defScope s_StreamHandler_setStream, [], []⟩
def dd_NullHandler_filtered : He.DefD := ⟨("NullHandler", some "filtered"), "filtered", "Filterer.filtered", defArgs s_Filterer_filtered, defBody s_Filterer_filtered, defScope s_Filterer_filtered, [], []⟩
def dd_NullHandler_setFormatter : He.DefD := ⟨("NullHandler", some "setFormatter"), "setFormatter", "Handler.setFormatter", defArgs s_Handler_setFormatter, defBody s_Handler_setFormatter, defScope s_Handler_setFormatter, [], []⟩
def dd_NullHandler_setTerminator : He.DefD := ⟨("NullHandler", some "setTerminator"), "setTerminator", "Handler.setTerminator", defArgs s_Handler_setTerminator, defBody s_Handler_setTerminator, defScope s_Handler_setTerminator, [], []⟩
def dd_NullHandler_handle : He.DefD := ⟨("NullHandler", some "handle"), "handle", "Handler.handle", defArgs s_Handler_handle, defBody s_Handler_handle, defScope s_Handler_handle, [], []⟩
abbrev s_Handler_emit : Stmt := inClass (top 20) 6
abbrev nm_Handler_emit : List Str := ["self", "record"]
theorem sc_Handler_emit : FnScope nm_Handler_emit ["self", "record"] (defScope s_Handler_emit) := ⟨rfl, rfl, rfl, by decide +kernel, rfl, by decide +kernel, by decide +kernel⟩
def dd_NullHandler_emit : He.DefD := ⟨("NullHandler", some "emit"), "emit", "Handler.emit", defArgs s_Handler_emit, defBody s_Handler_emit, defScope s_Handler_emit, [], []⟩
abbrev s_is_integer : Stmt := top 32
abbrev nm_is_integer : List Str := ["thing"]
theorem sc_is_integer : FnScope nm_is_integer ["thing"] (defScope s_is_integer) := ⟨rfl, rfl, rfl, by decide +kernel, rfl, by decide +kernel, by decide +kernel⟩
def dd_is_integer : He.DefD := ⟨("is_integer", none), "is_integer", "is_integer", defArgs s_is_integer, defBody s_is_integer, defScope s_is_integer, [], []⟩
abbrev s_Field_init : Stmt := inClass (top 40) 0
abbrev nm_Field_init : List Str := ["self", "name", "conversion", "fill", "align", "width"]
theorem sc_Field_init : FnScope nm_Field_init ["self", "name", "conversion", "fill", "align", "width"] (defScope s_Field_init) := ⟨rfl, rfl, rfl, by decide +kernel, rfl, by decide +kernel, by decide +kernel⟩
def dd_Field_init : He.DefD := ⟨("Field", some "__init__"), "__init__", "Field.__init__", defArgs s_Field_init, defBody s_Field_init, defScope s_Field_init, [.str "", .str " ", .str "", .int 0], []⟩
abbrev s_Field_side_of : Stmt := inClass (top 40) 1
abbrev nm_Field_side_of : List Str := ["self", "value"]
theorem sc_Field_side_of : FnScope nm_Field_side_of ["self", "value"] (defScope s_Field_side_of) := ⟨rfl, rfl, rfl, by decide +kernel, rfl, by decide +kernel, by decide +kernel⟩
def dd_Field_side_of : He.DefD := ⟨("Field", some "side_of"), "side_of", "Field.side_of", defArgs s_Field_side_of, defBody s_Field_side_of, defScope s_Field_side_of, [], []⟩
abbrev s_Field_written : Stmt := inClass (top 40) 2
abbrev nm_Field_written : List Str := ["self", "value", "text", "more", "ahead"]
theorem sc_Field_written : FnScope nm_Field_written ["self", "value"] (defScope s_Field_written) := ⟨rfl, rfl, rfl, by decide +kernel, rfl, by decide +kernel, by decide +kernel⟩
def dd_Field_written : He.DefD := ⟨("Field", some "written"), "written", "Field.written", defArgs s_Field_written, defBody s_Field_written, defScope s_Field_written, [], []⟩
abbrev s_name_end : Stmt := top 41
abbrev nm_name_end : List Str := ["text", "start", "end"]
theorem sc_name_end : FnScope nm_name_end ["text", "start"] (defScope s_name_end) := ⟨rfl, rfl, rfl, by decide +kernel, rfl, by decide +kernel, by decide +kernel⟩
def dd_name_end : He.DefD := ⟨("name_end", none), "name_end", "name_end", defArgs s_name_end, defBody s_name_end, defScope s_name_end, [], []⟩
abbrev s_field_of : Stmt := top 46
abbrev nm_field_of : List Str := ["body", "end", "name", "rest", "conversion", "spec"]
theorem sc_field_of : FnScope nm_field_of ["body"] (defScope s_field_of) := ⟨rfl, rfl, rfl, by decide +kernel, rfl, by decide +kernel, by decide +kernel⟩
def dd_field_of : He.DefD := ⟨("field_of", none), "field_of", "field_of", defArgs s_field_of, defBody s_field_of, defScope s_field_of, [], []⟩
abbrev s_parts_of_braces : Stmt := top 47
abbrev nm_parts_of_braces : List Str := ["fmt", "found", "at", "end", "part"]
theorem sc_parts_of_braces : FnScope nm_parts_of_braces ["fmt"] (defScope s_parts_of_braces) := ⟨rfl, rfl, rfl, by decide +kernel, rfl, by decide +kernel, by decide +kernel⟩
def dd_parts_of_braces : He.DefD := ⟨("parts_of_braces", none), "parts_of_braces", "parts_of_braces", defArgs s_parts_of_braces, defBody s_parts_of_braces, defScope s_parts_of_braces, [], []⟩
abbrev s_field_behind : Stmt := top 59
abbrev nm_field_behind : List Str := ["fmt", "start", "ahead", "end", "name", "stop"]
theorem sc_field_behind : FnScope nm_field_behind ["fmt", "start"] (defScope s_field_behind) := ⟨rfl, rfl, rfl, by decide +kernel, rfl, by decide +kernel, by decide +kernel⟩
def dd_field_behind : He.DefD := ⟨("field_behind", none), "field_behind", "field_behind", defArgs s_field_behind, defBody s_field_behind, defScope s_field_behind, [], []⟩
abbrev s_parts_of_dollars : Stmt := top 60
abbrev nm_parts_of_dollars : List Str := ["fmt", "found", "at", "end", "part"]
theorem sc_parts_of_dollars : FnScope nm_parts_of_dollars ["fmt"] (defScope s_parts_of_dollars) := ⟨rfl, rfl, rfl, by decide +kernel, rfl, by decide +kernel, by decide +kernel⟩
def dd_parts_of_dollars : He.DefD := ⟨("parts_of_dollars", none), "parts_of_dollars", "parts_of_dollars", defArgs s_parts_of_dollars, defBody s_parts_of_dollars, defScope s_parts_of_dollars, [], []⟩
abbrev s_joined_texts : Stmt := top 63
abbrev nm_joined_texts : List Str := ["parts", "found", "part"]
theorem sc_joined_texts : FnScope nm_joined_texts ["parts"] (defScope s_joined_texts) := ⟨rfl, rfl, rfl, by decide +kernel, rfl, by decide +kernel, by decide +kernel⟩
def dd_joined_texts : He.DefD := ⟨("joined_texts", none), "joined_texts", "joined_texts", defArgs s_joined_texts, defBody s_joined_texts, defScope s_joined_texts, [], []⟩
abbrev s_Formatter_init : Stmt := inClass (top 64) 0
abbrev nm_Formatter_init : List Str := ["self", "fmt", "style", "validate", "defaults", "text", "parts", "part"]
theorem sc_Formatter_init : FnScope nm_Formatter_init ["self", "fmt", "style", "validate", "defaults"] (defScope s_Formatter_init) := ⟨rfl, rfl, rfl, by decide +kernel, rfl, by decide +kernel, by decide +kernel⟩
def dd_Formatter_init : He.DefD := ⟨("Formatter", some "__init__"), "__init__", "Formatter.__init__", defArgs s_Formatter_init, defBody s_Formatter_init, defScope s_Formatter_init, [.non, .str "{", .bl true, .non], []⟩
abbrev s_Formatter_value_of : Stmt := inClass (top 64) 1
abbrev nm_Formatter_value_of : List Str := ["self", "name", "record", "found"]
theorem sc_Formatter_value_of : FnScope nm_Formatter_value_of ["self", "name", "record"] (defScope s_Formatter_value_of) := ⟨rfl, rfl, rfl, by decide +kernel, rfl, by decide +kernel, by decide +kernel⟩
def dd_Formatter_value_of : He.DefD := ⟨("Formatter", some "value_of"), "value_of", "Formatter.value_of", defArgs s_Formatter_value_of, defBody s_Formatter_value_of, defScope s_Formatter_value_of, [], []⟩
abbrev s_Formatter_formatted : Stmt := inClass (top 64) 2
abbrev nm_Formatter_formatted : List Str := ["self", "record", "found", "part"]
theorem sc_Formatter_formatted : FnScope nm_Formatter_formatted ["self", "record"] (defScope s_Formatter_formatted) := ⟨rfl, rfl, rfl, by decide +kernel, rfl, by decide +kernel, by decide +kernel⟩
def dd_Formatter_formatted : He.DefD := ⟨("Formatter", some "formatted"), "formatted", "Formatter.formatted", defArgs s_Formatter_formatted, defBody s_Formatter_formatted, defScope s_Formatter_formatted, [], []⟩
abbrev s_Logger_init : Stmt := inClass (top 34) 0
abbrev nm_Logger_init : List Str := ["self", "yard", "name", "level"]
theorem sc_Logger_init : FnScope nm_Logger_init ["self", "yard", "name", "level"] (defScope s_Logger_init) := ⟨rfl, rfl, rfl, by decide +kernel, rfl, by decide +kernel, by decide +kernel⟩
def dd_Logger_init : He.DefD := ⟨("Logger", some "__init__"), "__init__", "Logger.__init__", defArgs s_Logger_init, defBody s_Logger_init, defScope s_Logger_init, [], []⟩
abbrev s_Yard_init : Stmt := inClass (top 36) 0
abbrev nm_Yard_init : List Str := ["self", "now"]
theorem sc_Yard_init : FnScope nm_Yard_init ["self", "now"] (defScope s_Yard_init) := ⟨rfl, rfl, rfl, by decide +kernel, rfl, by decide +kernel, by decide +kernel⟩
def dd_Yard_init : He.DefD := ⟨("Yard", some "__init__"), "__init__", "Yard.__init__", defArgs s_Yard_init, defBody s_Yard_init, defScope s_Yard_init, [.int 0], []⟩
abbrev s_Yard_text : Stmt := inClass (top 36) 3
abbrev nm_Yard_text : List Str := ["self", "stream"]
theorem sc_Yard_text : FnScope nm_Yard_text ["self", "stream"] (defScope s_Yard_text) := ⟨rfl, rfl, rfl, by decide +kernel, rfl, by decide +kernel, by decide +kernel⟩
def dd_Yard_text : He.DefD := ⟨("Yard", some "text"), "text", "Yard.text", defArgs s_Yard_text, defBody s_Yard_text, defScope s_Yard_text, [], []⟩
abbrev s_Yard_streams : Stmt := inClass (top 36) 4
abbrev nm_Yard_streams : List Str := ["self", "name"]
theorem sc_Yard_streams : FnScope nm_Yard_streams ["self"] (defScope s_Yard_streams) := ⟨rfl, rfl, rfl, by decide +kernel, rfl, by decide +kernel, by decide +kernel⟩
def dd_Yard_streams : He.DefD := ⟨("Yard", some "streams"), "streams", "Yard.streams", defArgs s_Yard_streams, defBody s_Yard_streams, defScope s_Yard_streams, [], []⟩
abbrev s_Yard_files : Stmt := inClass (top 36) 6
abbrev nm_Yard_files : List Str := ["self", "name"]
theorem sc_Yard_files : FnScope nm_Yard_files ["self"] (defScope s_Yard_files) := ⟨rfl, rfl, rfl, by decide +kernel, rfl, by decide +kernel, by decide +kernel⟩
def dd_Yard_files : He.DefD := ⟨("Yard", some "files"), "files", "Yard.files", defArgs s_Yard_files, defBody s_Yard_files, defScope s_Yard_files, [], []⟩
abbrev s_Yard_write_stream : Stmt := inClass (top 36) 5
abbrev nm_Yard_write_stream : List Str := ["self", "name", "text"]
theorem sc_Yard_write_stream : FnScope nm_Yard_write_stream ["self", "name", "text"] (defScope s_Yard_write_stream) := ⟨rfl, rfl, rfl, by decide +kernel, rfl, by decide +kernel, by decide +kernel⟩
def dd_Yard_write_stream : He.DefD := ⟨("Yard", some "write_stream"), "write_stream", "Yard.write_stream", defArgs s_Yard_write_stream, defBody s_Yard_write_stream, defScope s_Yard_write_stream, [], []⟩
abbrev s_Yard_level_name : Stmt := inClass (top 36) 16
abbrev nm_Yard_level_name : List Str := ["self", "level"]
theorem sc_Yard_level_name : FnScope nm_Yard_level_name ["self", "level"] (defScope s_Yard_level_name) := ⟨rfl, rfl, rfl, by decide +kernel, rfl, by decide +kernel, by decide +kernel⟩
def dd_Yard_level_name : He.DefD := ⟨("Yard", some "level_name"), "level_name", "Yard.level_name", defArgs s_Yard_level_name, defBody s_Yard_level_name, defScope s_Yard_level_name, [], []⟩
abbrev s_Yard_level_of : Stmt := inClass (top 36) 18
abbrev nm_Yard_level_of : List Str := ["self", "level"]
theorem sc_Yard_level_of : FnScope nm_Yard_level_of ["self", "level"] (defScope s_Yard_level_of) := ⟨rfl, rfl, rfl, by decide +kernel, rfl, by decide +kernel, by decide +kernel⟩
def dd_Yard_level_of : He.DefD := ⟨("Yard", some "level_of"), "level_of", "Yard.level_of", defArgs s_Yard_level_of, defBody s_Yard_level_of, defScope s_Yard_level_of, [], []⟩
abbrev s_Yard_make_record : Stmt := inClass (top 36) 19
abbrev nm_Yard_make_record : List Str := ["self", "name", "level", "msg", "args", "extra", "number", "more", "bad", "key"]
theorem sc_Yard_make_record : FnScope nm_Yard_make_record ["self", "name", "level", "msg", "args", "extra"] (defScope s_Yard_make_record) := ⟨rfl, rfl, rfl, by decide +kernel, rfl, by decide +kernel, by decide +kernel⟩
def dd_Yard_make_record : He.DefD := ⟨("Yard", some "make_record"), "make_record", "Yard.make_record", defArgs s_Yard_make_record, defBody s_Yard_make_record, defScope s_Yard_make_record, [.adr (He.dflAt ("Yard", some "make_record") 0), .non], []⟩
abbrev s_Yard_enrol : Stmt := inClass (top 36) 24
abbrev nm_Yard_enrol : List Str := ["self", "handler"]
theorem sc_Yard_enrol : FnScope nm_Yard_enrol ["self", "handler"] (defScope s_Yard_enrol) := ⟨rfl, rfl, rfl, by decide +kernel, rfl, by decide +kernel, by decide +kernel⟩
def dd_Yard_enrol : He.DefD := ⟨("Yard", some "enrol"), "enrol", "Yard.enrol", defArgs s_Yard_enrol, defBody s_Yard_enrol, defScope s_Yard_enrol, [], []⟩
abbrev s_Yard_keep_failure : Stmt := inClass (top 36) 29
abbrev nm_Yard_keep_failure : List Str := ["self", "name", "word"]
theorem sc_Yard_keep_failure : FnScope nm_Yard_keep_failure ["self", "name", "word"] (defScope s_Yard_keep_failure) := ⟨rfl, rfl, rfl, by decide +kernel, rfl, by decide +kernel, by decide +kernel⟩
def dd_Yard_keep_failure : He.DefD := ⟨("Yard", some "keep_failure"), "keep_failure", "Yard.keep_failure", defArgs s_Yard_keep_failure, defBody s_Yard_keep_failure, defScope s_Yard_keep_failure, [], []⟩
abbrev s_Yard_failures : Stmt := inClass (top 36) 30
abbrev nm_Yard_failures : List Str := ["self"]
theorem sc_Yard_failures : FnScope nm_Yard_failures ["self"] (defScope s_Yard_failures) := ⟨rfl, rfl, rfl, by decide +kernel, rfl, by decide +kernel, by decide +kernel⟩
def dd_Yard_failures : He.DefD := ⟨("Yard", some "failures"), "failures", "Yard.failures", defArgs s_Yard_failures, defBody s_Yard_failures, defScope s_Yard_failures, [], []⟩
abbrev s__law_draw : Stmt := top 66
abbrev nm__law_draw : List Str := ["_law_stream", "_law_many", "_law_digit", "_law_mixed", "_law_last"]
theorem sc__law_draw : FnScope nm__law_draw ["_law_stream", "_law_many"] (defScope s__law_draw) := ⟨rfl, rfl, rfl, by decide +kernel, rfl, by decide +kernel, by decide +kernel⟩
def dd__law_draw : He.DefD := ⟨("_law_draw", none), "_law_draw", "_law_draw", defArgs s__law_draw, defBody s__law_draw, defScope s__law_draw, [], []⟩
abbrev s__law_pick : Stmt := top 67
abbrev nm__law_pick : List Str := ["_law_stream", "_law_some"]
theorem sc__law_pick : FnScope nm__law_pick ["_law_stream", "_law_some"] (defScope s__law_pick) := ⟨rfl, rfl, rfl, by decide +kernel, rfl, by decide +kernel, by decide +kernel⟩
def dd__law_pick : He.DefD := ⟨("_law_pick", none), "_law_pick", "_law_pick", defArgs s__law_pick, defBody s__law_pick, defScope s__law_pick, [], []⟩
abbrev s__law_same : Stmt := top 68
abbrev nm__law_same : List Str := ["_law_found", "_law_due", "_law_one", "_law_two"]
theorem sc__law_same : FnScope nm__law_same ["_law_found", "_law_due"] (defScope s__law_same) := ⟨rfl, rfl, rfl, by decide +kernel, rfl, by decide +kernel, by decide +kernel⟩
def dd__law_same : He.DefD := ⟨("_law_same", none), "_law_same", "_law_same", defArgs s__law_same, defBody s__law_same, defScope s__law_same, [], []⟩
abbrev s__law_yard : Stmt := top 69
abbrev nm__law_yard : List Str := ["_law_now"]
theorem sc__law_yard : FnScope nm__law_yard ["_law_now"] (defScope s__law_yard) := ⟨rfl, rfl, rfl, by decide +kernel, rfl, by decide +kernel, by decide +kernel⟩
def dd__law_yard : He.DefD := ⟨("_law_yard", none), "_law_yard", "_law_yard", defArgs s__law_yard, defBody s__law_yard, defScope s__law_yard, [], []⟩
abbrev s__law_formatters : Stmt := top 70
abbrev nm__law_formatters : List Str := ["_law_found"]
theorem sc__law_formatters : FnScope nm__law_formatters [] (defScope s__law_formatters) := ⟨rfl, rfl, rfl, by decide +kernel, rfl, by decide +kernel, by decide +kernel⟩
def dd__law_formatters : He.DefD := ⟨("_law_formatters", none), "_law_formatters", "_law_formatters", defArgs s__law_formatters, defBody s__law_formatters, defScope s__law_formatters, [], []⟩
abbrev s__law_text : Stmt := top 71
abbrev nm__law_text : List Str := ["_law_way", "_law_row_here", "_law_name", "_law_level", "_law_message", "_law_args", "_law_arg"]
theorem sc__law_text : FnScope nm__law_text ["_law_way", "_law_row_here"] (defScope s__law_text) := ⟨rfl, rfl, rfl, by decide +kernel, rfl, by decide +kernel, by decide +kernel⟩
def dd__law_text : He.DefD := ⟨("_law_text", none), "_law_text", "_law_text", defArgs s__law_text, defBody s__law_text, defScope s__law_text, [], []⟩
abbrev s__law_row : Stmt := top 72
abbrev nm__law_row : List Str := ["_law_stream", "_law_some", "_law_message", "_law_args"]
theorem sc__law_row : FnScope nm__law_row ["_law_stream"] (defScope s__law_row) := ⟨rfl, rfl, rfl, by decide +kernel, rfl, by decide +kernel, by decide +kernel⟩
def dd__law_row : He.DefD := ⟨("_law_row", none), "_law_row", "_law_row", defArgs s__law_row, defBody s__law_row, defScope s__law_row, [], []⟩
abbrev s__law_record : Stmt := top 73
abbrev nm__law_record : List Str := ["_law_yard_here", "_law_row_here"]
theorem sc__law_record : FnScope nm__law_record ["_law_yard_here", "_law_row_here"] (defScope s__law_record) := ⟨rfl, rfl, rfl, by decide +kernel, rfl, by decide +kernel, by decide +kernel⟩
def dd__law_record : He.DefD := ⟨("_law_record", none), "_law_record", "_law_record", defArgs s__law_record, defBody s__law_record, defScope s__law_record, [], []⟩
abbrev s__law_line : Stmt := top 74
abbrev nm__law_line : List Str := ["_law_m", "_law_h", "_law_row_here", "_law_text_here", "_law_word"]
theorem sc__law_line : FnScope nm__law_line ["_law_m", "_law_h", "_law_row_here"] (defScope s__law_line) := ⟨rfl, rfl, rfl, by decide +kernel, rfl, by decide +kernel, by decide +kernel⟩
def dd__law_line : He.DefD := ⟨("_law_line", none), "_law_line", "_law_line", defArgs s__law_line, defBody s__law_line, defScope s__law_line, [], []⟩
abbrev s__law_to_stream : Stmt := top 75
abbrev nm__law_to_stream : List Str := ["_law_m", "_law_h", "_law_row_here", "_law_text_here"]
theorem sc__law_to_stream : FnScope nm__law_to_stream ["_law_m", "_law_h", "_law_row_here"] (defScope s__law_to_stream) := ⟨rfl, rfl, rfl, by decide +kernel, rfl, by decide +kernel, by decide +kernel⟩
def dd__law_to_stream : He.DefD := ⟨("_law_to_stream", none), "_law_to_stream", "_law_to_stream", defArgs s__law_to_stream, defBody s__law_to_stream, defScope s__law_to_stream, [], []⟩
abbrev s__law_to_none : Stmt := top 76
abbrev nm__law_to_none : List Str := ["_law_m", "_law_h", "_law_row_here"]
theorem sc__law_to_none : FnScope nm__law_to_none ["_law_m", "_law_h", "_law_row_here"] (defScope s__law_to_none) := ⟨rfl, rfl, rfl, by decide +kernel, rfl, by decide +kernel, by decide +kernel⟩
def dd__law_to_none : He.DefD := ⟨("_law_to_none", none), "_law_to_none", "_law_to_none", defArgs s__law_to_none, defBody s__law_to_none, defScope s__law_to_none, [], []⟩
abbrev s__law_handler : Stmt := top 77
abbrev nm__law_handler : List Str := ["_law_m", "_law_kind", "_law_told", "_law_h"]
theorem sc__law_handler : FnScope nm__law_handler ["_law_m", "_law_kind", "_law_told"] (defScope s__law_handler) := ⟨rfl, rfl, rfl, by decide +kernel, rfl, by decide +kernel, by decide +kernel⟩
def dd__law_handler : He.DefD := ⟨("_law_handler", none), "_law_handler", "_law_handler", defArgs s__law_handler, defBody s__law_handler, defScope s__law_handler, [], []⟩
abbrev s__law_is_like : Stmt := top 78
abbrev nm__law_is_like : List Str := ["_law_yard_here", "_law_m", "_law_files", "_law_failures", "_law_streams", "_law_due", "_law_name"]
theorem sc__law_is_like : FnScope nm__law_is_like ["_law_yard_here", "_law_m"] (defScope s__law_is_like) := ⟨rfl, rfl, rfl, by decide +kernel, rfl, by decide +kernel, by decide +kernel⟩
def dd__law_is_like : He.DefD := ⟨("_law_is_like", none), "_law_is_like", "_law_is_like", defArgs s__law_is_like, defBody s__law_is_like, defScope s__law_is_like, [], []⟩
abbrev s__law_made : Stmt := top 79
abbrev nm__law_made : List Str := ["_law_stream", "_law_yard_here", "_law_m", "_law_name"]
theorem sc__law_made : FnScope nm__law_made ["_law_stream", "_law_yard_here", "_law_m"] (defScope s__law_made) := ⟨rfl, rfl, rfl, by decide +kernel, rfl, by decide +kernel, by decide +kernel⟩
def dd__law_made : He.DefD := ⟨("_law_made", none), "_law_made", "_law_made", defArgs s__law_made, defBody s__law_made, defScope s__law_made, [], []⟩
abbrev s__law_deed : Stmt := top 80
abbrev nm__law_deed : List Str := ["_law_stream", "_law_handler_here", "_law_h", "_law_formatters_here", "_law_way", "_law_name", "_law_due"]
theorem sc__law_deed : FnScope nm__law_deed ["_law_stream", "_law_handler_here", "_law_h", "_law_formatters_here"] (defScope s__law_deed) := ⟨rfl, rfl, rfl, by decide +kernel, rfl, by decide +kernel, by decide +kernel⟩
def dd__law_deed : He.DefD := ⟨("_law_deed", none), "_law_deed", "_law_deed", defArgs s__law_deed, defBody s__law_deed, defScope s__law_deed, [], []⟩
abbrev s_law : Stmt := top 81
abbrev nm_law : List Str := ["_law_script", "_law_stream", "_law_yards", "_law_records", "_law_formatters_here", "_law_made_here", "_law_k", "_law_at", "_law_turn", "_law_handler_here", "_law_h", "_law_row_here", "_law_deed_here"]
theorem sc_law : FnScope nm_law ["_law_script"] (defScope s_law) := ⟨rfl, rfl, rfl, by decide +kernel, rfl, by decide +kernel, by decide +kernel⟩
def dd_law : He.DefD := ⟨("law", none), "law", "law", defArgs s_law, defBody s_law, defScope s_law, [], []⟩
def kv_FIRST_NAMES : List (Key × He.Dv) := [(Sum.inl (50), .str "CRITICAL"), (Sum.inl (40), .str "ERROR"), (Sum.inl (30), .str "WARNING"), (Sum.inl (20), .str "INFO"), (Sum.inl (10), .str "DEBUG"), (Sum.inl (0), .str "NOTSET")]
def kv_FIRST_NUMBERS : List (Key × He.Dv) := [(Sum.inr "CRITICAL", .int (50)), (Sum.inr "FATAL", .int (50)), (Sum.inr "ERROR", .int (40)), (Sum.inr "WARNING", .int (30)), (Sum.inr "WARN", .int (30)), (Sum.inr "INFO", .int (20)), (Sum.inr "DEBUG", .int (10)), (Sum.inr "NOTSET", .int (0))]
def kv_MESSAGE_ALONE : List (Key × He.Dv) := [(Sum.inr "{", .str "{message}"), (Sum.inr "$", .str "$message")]
def fa : List He.Fa := ([.glo "BadMessage", .glo "BadField", .glo "LogRecord", .glo "Filterer", .glo "Handler", .glo "StreamHandler", .glo "NullHandler", .glo "Field", .glo "Formatter", .glo "Logger", .glo "Yard", .glo "copied_value"] : List He.Fa) ++ ([.glo "message_of", .glo "is_integer", .glo "name_end", .glo "field_of", .glo "parts_of_braces", .glo "field_behind", .glo "parts_of_dollars", .glo "joined_texts", .glo "_law_draw", .glo "_law_pick", .glo "_law_same", .glo "_law_yard"] : List He.Fa) ++ ([.glo "_law_formatters", .glo "_law_text", .glo "_law_row", .glo "_law_record", .glo "_law_line", .glo "_law_to_stream", .glo "_law_to_none", .glo "_law_handler", .glo "_law_is_like", .glo "_law_made", .glo "_law_deed", .glo "law"] : List He.Fa) ++ ([.int "WARNING" 30, .int "NOTSET" 0, .glo "OWN_FIELDS", .glo "FIRST_NAMES", .glo "FIRST_NUMBERS", .str "LETTERS" "abcdefghijklmnopqrstuvwxyzABCDEFGHIJKLMNOPQRSTUVWXYZ_", .str "DIGITS" "0123456789", .glo "MESSAGE_ALONE", .free "len", .free "isinstance", .free "int", .free "str"] : List He.Fa) ++ ([.free "list", .free "tuple", .free "bool", .free "dict", .free "range", .free "sorted", .free "all", .free "zip", .free "max", .cls "LogRecord", .noat "LogRecord" "name", .noat "LogRecord" "levelno"] : List He.Fa) ++ ([.noat "LogRecord" "levelname", .noat "LogRecord" "msg", .noat "LogRecord" "given", .noat "LogRecord" "created", .noat "LogRecord" "extra", .cls "StreamHandler", .noat "StreamHandler" "filters", .noat "StreamHandler" "yard", .noat "StreamHandler" "level", .noat "StreamHandler" "formatter", .noat "StreamHandler" "name", .noat "StreamHandler" "terminator"] : List He.Fa) ++ ([.noat "StreamHandler" "closed", .noat "StreamHandler" "stream", .cls "NullHandler", .noat "NullHandler" "filters", .noat "NullHandler" "yard", .noat "NullHandler" "level", .noat "NullHandler" "formatter", .noat "NullHandler" "name", .noat "NullHandler" "terminator", .noat "NullHandler" "closed", .cls "Field", .noat "Field" "name"] : List He.Fa) ++ ([.noat "Field" "conversion", .noat "Field" "fill", .noat "Field" "align", .noat "Field" "width", .cls "Formatter", .noat "Formatter" "fmt", .noat "Formatter" "style", .noat "Formatter" "parts", .noat "Formatter" "defaults", .cls "Logger", .noat "Logger" "filters", .noat "Logger" "yard"] : List He.Fa) ++ ([.noat "Logger" "name", .noat "Logger" "level", .noat "Logger" "propagate", .noat "Logger" "disabled", .noat "Logger" "handlers", .noat "Logger" "parent", .cls "Yard", .noat "Yard" "clock", .noat "Yard" "stream_texts", .noat "Yard" "file_rows", .noat "Yard" "names_of", .noat "Yard" "numbers_of"] : List He.Fa) ++ ([.noat "Yard" "bar_level", .noat "Yard" "logger_map", .noat "Yard" "made", .noat "Yard" "handler_names", .noat "Yard" "failure_rows", .noat "Yard" "root", .noat "Yard" "last_resort", .meth "LogRecord" "message", .meth "LogRecord" "field", .meth "StreamHandler" "filtered", .meth "StreamHandler" "setFormatter", .meth "StreamHandler" "setTerminator"] : List He.Fa) ++ ([.meth "StreamHandler" "handle", .meth "StreamHandler" "emit", .meth "StreamHandler" "formatted", .meth "StreamHandler" "text_of", .meth "StreamHandler" "setStream", .meth "NullHandler" "filtered", .meth "NullHandler" "setFormatter", .meth "NullHandler" "setTerminator", .meth "NullHandler" "handle", .meth "NullHandler" "emit", .meth "Field" "side_of", .meth "Field" "written"] : List He.Fa) ++ ([.meth "Formatter" "value_of", .meth "Formatter" "formatted", .meth "Yard" "text", .meth "Yard" "streams", .meth "Yard" "files", .meth "Yard" "write_stream", .meth "Yard" "level_name", .meth "Yard" "level_of", .meth "Yard" "make_record", .meth "Yard" "enrol", .meth "Yard" "keep_failure", .meth "Yard" "failures"] : List He.Fa) ++ ([.mkr "LogRecord", .mkr "StreamHandler", .mkr "NullHandler", .mkr "Field", .mkr "Formatter", .mkr "Logger", .mkr "Yard"] : List He.Fa)
def fx : List RB.Fx := ([.exc "BadMessage" "msg", .exc "BadField" "name", .exm "BadMessage" "BadMessage" true, .exm "BadMessage" "BadField" false, .exm "BadField" "BadMessage" false, .exm "BadField" "BadField" true, .pl "Logger", .pl "StreamHandler", .pl "NullHandler", .pl "LogRecord", .sub "Logger" "Logger", .sub "StreamHandler" "StreamHandler"] : List RB.Fx) ++ ([.sub "LogRecord" "LogRecord", .sub "NullHandler" "NullHandler", .sub "StreamHandler" "NullHandler", .sub "NullHandler" "StreamHandler", .cf "Filterer" "__init__", .cf "Handler" "__init__", .ty "Field", .kiy "Field" "str" false, .dtup ("Yard", some "make_record") 0] : List RB.Fx)
def fn : List He.DefD := ([dd_Filterer_init, dd_copied_value, dd_message_of, dd_BadMessage_init, dd_BadField_init, dd_LogRecord_init, dd_LogRecord_message, dd_LogRecord_field, dd_Handler_init, dd_StreamHandler_init, dd_NullHandler_init, dd_StreamHandler_filtered] : List He.DefD) ++ ([dd_StreamHandler_setFormatter, dd_StreamHandler_setTerminator, dd_StreamHandler_handle, dd_StreamHandler_emit, dd_StreamHandler_formatted, dd_StreamHandler_text_of, dd_StreamHandler_setStream, dd_NullHandler_filtered, dd_NullHandler_setFormatter, dd_NullHandler_setTerminator, dd_NullHandler_handle, dd_NullHandler_emit] : List He.DefD) ++ ([dd_is_integer, dd_Field_init, dd_Field_side_of, dd_Field_written, dd_name_end, dd_field_of, dd_parts_of_braces, dd_field_behind, dd_parts_of_dollars, dd_joined_texts, dd_Formatter_init, dd_Formatter_value_of] : List He.DefD) ++ ([dd_Formatter_formatted, dd_Logger_init, dd_Yard_init, dd_Yard_text, dd_Yard_streams, dd_Yard_files, dd_Yard_write_stream, dd_Yard_level_name, dd_Yard_level_of, dd_Yard_make_record, dd_Yard_enrol, dd_Yard_keep_failure] : List He.DefD) ++ ([dd_Yard_failures, dd__law_draw, dd__law_pick, dd__law_same, dd__law_yard, dd__law_formatters, dd__law_text, dd__law_row, dd__law_record, dd__law_line, dd__law_to_stream, dd__law_to_none] : List He.DefD) ++ ([dd__law_handler, dd__law_is_like, dd__law_made, dd__law_deed, dd_law] : List He.DefD)
def ts : List RB.Tb := ([("FIRST_NAMES", kv_FIRST_NAMES), ("FIRST_NUMBERS", kv_FIRST_NUMBERS), ("MESSAGE_ALONE", kv_MESSAGE_ALONE)] : List RB.Tb)
def names : List PySem.Str := (["_wall", "YardError", "BadLevel", "BadExtra", "BadMessage", "BadField", "BadFormat", "BadStyle", "OWN_FIELDS", "copied_value", "message_of", "LogRecord"] : List PySem.Str) ++ (["is_below", "let_by", "Filter", "Filterer", "Handler", "StreamHandler", "NullHandler", "CRITICAL", "ERROR", "WARNING", "INFO", "DEBUG"] : List PySem.Str) ++ (["NOTSET", "FIRST_NAMES", "FIRST_NUMBERS", "is_integer", "Logger", "Yard", "LETTERS", "DIGITS", "Field", "name_end", "ALIGNS", "is_width"] : List PySem.Str) ++ (["spec_of", "field_of", "parts_of_braces", "DAY", "MONTHS", "is_leap", "first_day", "date_of", "padded", "date_text", "clock_parts", "shown_time"] : List PySem.Str) ++ (["field_behind", "parts_of_dollars", "MESSAGE_ALONE", "joined_texts", "Formatter", "_law_draw", "_law_pick", "_law_same", "_law_yard", "_law_formatters", "_law_text", "_law_row"] : List PySem.Str) ++ (["_law_record", "_law_line", "_law_to_stream", "_law_to_none", "_law_handler", "_law_is_like", "_law_made", "_law_deed"] : List PySem.Str)
/-- what the text is, behind the top -/
structure Txt (P : Program) (w : World) (K : PySem.W.Frag) (mg : Str → Option Value) : Prop where
  g_BadMessage : mg "BadMessage" = some (.ref (He.ga K "BadMessage"))
  g_BadField : mg "BadField" = some (.ref (He.ga K "BadField"))
  g_LogRecord : mg "LogRecord" = some (.ref (He.ga K "LogRecord"))
  g_Filterer : mg "Filterer" = some (.ref (He.ga K "Filterer"))
  g_Handler : mg "Handler" = some (.ref (He.ga K "Handler"))
  g_StreamHandler : mg "StreamHandler" = some (.ref (He.ga K "StreamHandler"))
  g_NullHandler : mg "NullHandler" = some (.ref (He.ga K "NullHandler"))
  g_Field : mg "Field" = some (.ref (He.ga K "Field"))
  g_Formatter : mg "Formatter" = some (.ref (He.ga K "Formatter"))
  g_Logger : mg "Logger" = some (.ref (He.ga K "Logger"))
  g_Yard : mg "Yard" = some (.ref (He.ga K "Yard"))
  g_copied_value : mg "copied_value" = some (.ref (He.ga K "copied_value"))
  g_message_of : mg "message_of" = some (.ref (He.ga K "message_of"))
  g_is_integer : mg "is_integer" = some (.ref (He.ga K "is_integer"))
  g_name_end : mg "name_end" = some (.ref (He.ga K "name_end"))
  g_field_of : mg "field_of" = some (.ref (He.ga K "field_of"))
  g_parts_of_braces : mg "parts_of_braces" = some (.ref (He.ga K "parts_of_braces"))
  g_field_behind : mg "field_behind" = some (.ref (He.ga K "field_behind"))
  g_parts_of_dollars : mg "parts_of_dollars" = some (.ref (He.ga K "parts_of_dollars"))
  g_joined_texts : mg "joined_texts" = some (.ref (He.ga K "joined_texts"))
  g__law_draw : mg "_law_draw" = some (.ref (He.ga K "_law_draw"))
  g__law_pick : mg "_law_pick" = some (.ref (He.ga K "_law_pick"))
  g__law_same : mg "_law_same" = some (.ref (He.ga K "_law_same"))
  g__law_yard : mg "_law_yard" = some (.ref (He.ga K "_law_yard"))
  g__law_formatters : mg "_law_formatters" = some (.ref (He.ga K "_law_formatters"))
  g__law_text : mg "_law_text" = some (.ref (He.ga K "_law_text"))
  g__law_row : mg "_law_row" = some (.ref (He.ga K "_law_row"))
  g__law_record : mg "_law_record" = some (.ref (He.ga K "_law_record"))
  g__law_line : mg "_law_line" = some (.ref (He.ga K "_law_line"))
  g__law_to_stream : mg "_law_to_stream" = some (.ref (He.ga K "_law_to_stream"))
  g__law_to_none : mg "_law_to_none" = some (.ref (He.ga K "_law_to_none"))
  g__law_handler : mg "_law_handler" = some (.ref (He.ga K "_law_handler"))
  g__law_is_like : mg "_law_is_like" = some (.ref (He.ga K "_law_is_like"))
  g__law_made : mg "_law_made" = some (.ref (He.ga K "_law_made"))
  g__law_deed : mg "_law_deed" = some (.ref (He.ga K "_law_deed"))
  g_law : mg "law" = some (.ref (He.ga K "law"))
  g_WARNING : ∃ t, mg "WARNING" = some (.int 30 t)
  g_NOTSET : ∃ t, mg "NOTSET" = some (.int 0 t)
  g_OWN_FIELDS : mg "OWN_FIELDS" = some (.ref (He.ga K "OWN_FIELDS"))
  g_FIRST_NAMES : mg "FIRST_NAMES" = some (.ref (He.ga K "FIRST_NAMES"))
  g_FIRST_NUMBERS : mg "FIRST_NUMBERS" = some (.ref (He.ga K "FIRST_NUMBERS"))
  g_LETTERS : ∃ t, mg "LETTERS" = some (.str "abcdefghijklmnopqrstuvwxyzABCDEFGHIJKLMNOPQRSTUVWXYZ_" t)
  g_DIGITS : ∃ t, mg "DIGITS" = some (.str "0123456789" t)
  g_MESSAGE_ALONE : mg "MESSAGE_ALONE" = some (.ref (He.ga K "MESSAGE_ALONE"))
  b_len : mg "len" = none
  b_isinstance : mg "isinstance" = none
  b_int : mg "int" = none
  b_str : mg "str" = none
  b_list : mg "list" = none
  b_tuple : mg "tuple" = none
  b_bool : mg "bool" = none
  b_dict : mg "dict" = none
  b_range : mg "range" = none
  b_sorted : mg "sorted" = none
  b_all : mg "all" = none
  b_zip : mg "zip" = none
  b_max : mg "max" = none
  c_LogRecord : Cls K (He.ga K "LogRecord")
  n_LogRecord_name : NoAttr K (He.ga K "LogRecord") "name"
  n_LogRecord_levelno : NoAttr K (He.ga K "LogRecord") "levelno"
  n_LogRecord_levelname : NoAttr K (He.ga K "LogRecord") "levelname"
  n_LogRecord_msg : NoAttr K (He.ga K "LogRecord") "msg"
  n_LogRecord_given : NoAttr K (He.ga K "LogRecord") "given"
  n_LogRecord_created : NoAttr K (He.ga K "LogRecord") "created"
  n_LogRecord_extra : NoAttr K (He.ga K "LogRecord") "extra"
  c_StreamHandler : Cls K (He.ga K "StreamHandler")
  n_StreamHandler_filters : NoAttr K (He.ga K "StreamHandler") "filters"
  n_StreamHandler_yard : NoAttr K (He.ga K "StreamHandler") "yard"
  n_StreamHandler_level : NoAttr K (He.ga K "StreamHandler") "level"
  n_StreamHandler_formatter : NoAttr K (He.ga K "StreamHandler") "formatter"
  n_StreamHandler_name : NoAttr K (He.ga K "StreamHandler") "name"
  n_StreamHandler_terminator : NoAttr K (He.ga K "StreamHandler") "terminator"
  n_StreamHandler_closed : NoAttr K (He.ga K "StreamHandler") "closed"
  n_StreamHandler_stream : NoAttr K (He.ga K "StreamHandler") "stream"
  c_NullHandler : Cls K (He.ga K "NullHandler")
  n_NullHandler_filters : NoAttr K (He.ga K "NullHandler") "filters"
  n_NullHandler_yard : NoAttr K (He.ga K "NullHandler") "yard"
  n_NullHandler_level : NoAttr K (He.ga K "NullHandler") "level"
  n_NullHandler_formatter : NoAttr K (He.ga K "NullHandler") "formatter"
  n_NullHandler_name : NoAttr K (He.ga K "NullHandler") "name"
  n_NullHandler_terminator : NoAttr K (He.ga K "NullHandler") "terminator"
  n_NullHandler_closed : NoAttr K (He.ga K "NullHandler") "closed"
  c_Field : Cls K (He.ga K "Field")
  n_Field_name : NoAttr K (He.ga K "Field") "name"
  n_Field_conversion : NoAttr K (He.ga K "Field") "conversion"
  n_Field_fill : NoAttr K (He.ga K "Field") "fill"
  n_Field_align : NoAttr K (He.ga K "Field") "align"
  n_Field_width : NoAttr K (He.ga K "Field") "width"
  c_Formatter : Cls K (He.ga K "Formatter")
  n_Formatter_fmt : NoAttr K (He.ga K "Formatter") "fmt"
  n_Formatter_style : NoAttr K (He.ga K "Formatter") "style"
  n_Formatter_parts : NoAttr K (He.ga K "Formatter") "parts"
  n_Formatter_defaults : NoAttr K (He.ga K "Formatter") "defaults"
  c_Logger : Cls K (He.ga K "Logger")
  n_Logger_filters : NoAttr K (He.ga K "Logger") "filters"
  n_Logger_yard : NoAttr K (He.ga K "Logger") "yard"
  n_Logger_name : NoAttr K (He.ga K "Logger") "name"
  n_Logger_level : NoAttr K (He.ga K "Logger") "level"
  n_Logger_propagate : NoAttr K (He.ga K "Logger") "propagate"
  n_Logger_disabled : NoAttr K (He.ga K "Logger") "disabled"
  n_Logger_handlers : NoAttr K (He.ga K "Logger") "handlers"
  n_Logger_parent : NoAttr K (He.ga K "Logger") "parent"
  c_Yard : Cls K (He.ga K "Yard")
  n_Yard_clock : NoAttr K (He.ga K "Yard") "clock"
  n_Yard_stream_texts : NoAttr K (He.ga K "Yard") "stream_texts"
  n_Yard_file_rows : NoAttr K (He.ga K "Yard") "file_rows"
  n_Yard_names_of : NoAttr K (He.ga K "Yard") "names_of"
  n_Yard_numbers_of : NoAttr K (He.ga K "Yard") "numbers_of"
  n_Yard_bar_level : NoAttr K (He.ga K "Yard") "bar_level"
  n_Yard_logger_map : NoAttr K (He.ga K "Yard") "logger_map"
  n_Yard_made : NoAttr K (He.ga K "Yard") "made"
  n_Yard_handler_names : NoAttr K (He.ga K "Yard") "handler_names"
  n_Yard_failure_rows : NoAttr K (He.ga K "Yard") "failure_rows"
  n_Yard_root : NoAttr K (He.ga K "Yard") "root"
  n_Yard_last_resort : NoAttr K (He.ga K "Yard") "last_resort"
  m_LogRecord_message : Meth K (He.ga K "LogRecord") "message" (He.ma K (He.ga K "LogRecord") "message")
  m_LogRecord_field : Meth K (He.ga K "LogRecord") "field" (He.ma K (He.ga K "LogRecord") "field")
  m_StreamHandler_filtered : Meth K (He.ga K "StreamHandler") "filtered" (He.ma K (He.ga K "StreamHandler") "filtered")
  m_StreamHandler_setFormatter : Meth K (He.ga K "StreamHandler") "setFormatter" (He.ma K (He.ga K "StreamHandler") "setFormatter")
  m_StreamHandler_setTerminator : Meth K (He.ga K "StreamHandler") "setTerminator" (He.ma K (He.ga K "StreamHandler") "setTerminator")
  m_StreamHandler_handle : Meth K (He.ga K "StreamHandler") "handle" (He.ma K (He.ga K "StreamHandler") "handle")
  m_StreamHandler_emit : Meth K (He.ga K "StreamHandler") "emit" (He.ma K (He.ga K "StreamHandler") "emit")
  m_StreamHandler_formatted : Meth K (He.ga K "StreamHandler") "formatted" (He.ma K (He.ga K "StreamHandler") "formatted")
  m_StreamHandler_text_of : Meth K (He.ga K "StreamHandler") "text_of" (He.ma K (He.ga K "StreamHandler") "text_of")
  m_StreamHandler_setStream : Meth K (He.ga K "StreamHandler") "setStream" (He.ma K (He.ga K "StreamHandler") "setStream")
  m_NullHandler_filtered : Meth K (He.ga K "NullHandler") "filtered" (He.ma K (He.ga K "NullHandler") "filtered")
  m_NullHandler_setFormatter : Meth K (He.ga K "NullHandler") "setFormatter" (He.ma K (He.ga K "NullHandler") "setFormatter")
  m_NullHandler_setTerminator : Meth K (He.ga K "NullHandler") "setTerminator" (He.ma K (He.ga K "NullHandler") "setTerminator")
  m_NullHandler_handle : Meth K (He.ga K "NullHandler") "handle" (He.ma K (He.ga K "NullHandler") "handle")
  m_NullHandler_emit : Meth K (He.ga K "NullHandler") "emit" (He.ma K (He.ga K "NullHandler") "emit")
  m_Field_side_of : Meth K (He.ga K "Field") "side_of" (He.ma K (He.ga K "Field") "side_of")
  m_Field_written : Meth K (He.ga K "Field") "written" (He.ma K (He.ga K "Field") "written")
  m_Formatter_value_of : Meth K (He.ga K "Formatter") "value_of" (He.ma K (He.ga K "Formatter") "value_of")
  m_Formatter_formatted : Meth K (He.ga K "Formatter") "formatted" (He.ma K (He.ga K "Formatter") "formatted")
  m_Yard_text : Meth K (He.ga K "Yard") "text" (He.ma K (He.ga K "Yard") "text")
  m_Yard_streams : Meth K (He.ga K "Yard") "streams" (He.ma K (He.ga K "Yard") "streams")
  m_Yard_files : Meth K (He.ga K "Yard") "files" (He.ma K (He.ga K "Yard") "files")
  m_Yard_write_stream : Meth K (He.ga K "Yard") "write_stream" (He.ma K (He.ga K "Yard") "write_stream")
  m_Yard_level_name : Meth K (He.ga K "Yard") "level_name" (He.ma K (He.ga K "Yard") "level_name")
  m_Yard_level_of : Meth K (He.ga K "Yard") "level_of" (He.ma K (He.ga K "Yard") "level_of")
  m_Yard_make_record : Meth K (He.ga K "Yard") "make_record" (He.ma K (He.ga K "Yard") "make_record")
  m_Yard_enrol : Meth K (He.ga K "Yard") "enrol" (He.ma K (He.ga K "Yard") "enrol")
  m_Yard_keep_failure : Meth K (He.ga K "Yard") "keep_failure" (He.ma K (He.ga K "Yard") "keep_failure")
  m_Yard_failures : Meth K (He.ga K "Yard") "failures" (He.ma K (He.ga K "Yard") "failures")
  k_LogRecord : Mk K (He.ga K "LogRecord") (He.ma K (He.ga K "LogRecord") "__init__")
  k_StreamHandler : Mk K (He.ga K "StreamHandler") (He.ma K (He.ga K "StreamHandler") "__init__")
  k_NullHandler : Mk K (He.ga K "NullHandler") (He.ma K (He.ga K "NullHandler") "__init__")
  k_Field : Mk K (He.ga K "Field") (He.ma K (He.ga K "Field") "__init__")
  k_Formatter : Mk K (He.ga K "Formatter") (He.ma K (He.ga K "Formatter") "__init__")
  k_Logger : Mk K (He.ga K "Logger") (He.ma K (He.ga K "Logger") "__init__")
  k_Yard : Mk K (He.ga K "Yard") (He.ma K (He.ga K "Yard") "__init__")
  x_BadMessage : RB.ExcF K (He.ga K "BadMessage") "msg"
  x_BadField : RB.ExcF K (He.ga K "BadField") "name"
  e_BadMessage_BadMessage : PySem.W.exmOne K (.ref (He.ga K "BadMessage")) (.ref (He.ga K "BadMessage")) = some true
  e_BadMessage_BadField : PySem.W.exmOne K (.ref (He.ga K "BadMessage")) (.ref (He.ga K "BadField")) = some false
  e_BadField_BadMessage : PySem.W.exmOne K (.ref (He.ga K "BadField")) (.ref (He.ga K "BadMessage")) = some false
  e_BadField_BadField : PySem.W.exmOne K (.ref (He.ga K "BadField")) (.ref (He.ga K "BadField")) = some true
  p_Logger : RA.PlainC K (He.ga K "Logger")
  p_StreamHandler : RA.PlainC K (He.ga K "StreamHandler")
  p_NullHandler : RA.PlainC K (He.ga K "NullHandler")
  p_LogRecord : RA.PlainC K (He.ga K "LogRecord")
  sub_Logger_Logger : RA.PairC K (He.ga K "Logger") (He.ga K "Logger")
  sub_StreamHandler_StreamHandler : RA.PairC K (He.ga K "StreamHandler") (He.ga K "StreamHandler")
  sub_LogRecord_LogRecord : RA.PairC K (He.ga K "LogRecord") (He.ga K "LogRecord")
  sub_NullHandler_NullHandler : RA.PairC K (He.ga K "NullHandler") (He.ga K "NullHandler")
  sub_StreamHandler_NullHandler : RA.PairC K (He.ga K "StreamHandler") (He.ga K "NullHandler")
  sub_NullHandler_StreamHandler : RA.PairC K (He.ga K "NullHandler") (He.ga K "StreamHandler")
  cf_Filterer_init : RA.CFun K (He.ga K "Filterer") "__init__" (He.ma K (He.ga K "Filterer") "__init__")
  cf_Handler_init : RA.CFun K (He.ga K "Handler") "__init__" (He.ma K (He.ga K "Handler") "__init__")
  ty_Field : RB.TyC K (He.ga K "Field")
  kiy_Field_str : PySem.W.kitOne K (.ref (He.ga K "Field")) (.type "str") = some false
  dt_Yard_make_record_0 : ∀ H : Hp, SqT K H (He.dflAt ("Yard", some "make_record") 0 K) []
  d_Filterer_init : Stands K "__init__" "Filterer.__init__" s_Filterer_init [] (He.fAd K ("Filterer", some "__init__"))
  d_copied_value : Stands K "copied_value" "copied_value" s_copied_value [] (He.fAd K ("copied_value", none))
  d_message_of : Stands K "message_of" "message_of" s_message_of [] (He.fAd K ("message_of", none))
  d_BadMessage_init : Stands K "__init__" "BadMessage.__init__" s_BadMessage_init [] (He.fAd K ("BadMessage", some "__init__"))
  d_BadField_init : Stands K "__init__" "BadField.__init__" s_BadField_init [] (He.fAd K ("BadField", some "__init__"))
  d_LogRecord_init : Stands K "__init__" "LogRecord.__init__" s_LogRecord_init [] (He.fAd K ("LogRecord", some "__init__"))
  d_LogRecord_message : Stands K "message" "LogRecord.message" s_LogRecord_message [] (He.fAd K ("LogRecord", some "message"))
  d_LogRecord_field : Stands K "field" "LogRecord.field" s_LogRecord_field [] (He.fAd K ("LogRecord", some "field"))
  d_Handler_init : Stands K "__init__" "Handler.__init__" s_Handler_init [] (He.fAd K ("Handler", some "__init__"))
  d_StreamHandler_init : Stands K "__init__" "StreamHandler.__init__" s_StreamHandler_init [(He.Dv.str "stderr" : He.Dv).v K] (He.fAd K ("StreamHandler", some "__init__"))
  d_NullHandler_init : Stands K "__init__" "Handler.__init__" s_Handler_init [] (He.fAd K ("NullHandler", some "__init__"))
  d_StreamHandler_filtered : Stands K "filtered" "Filterer.filtered" s_Filterer_filtered [] (He.fAd K ("StreamHandler", some "filtered"))
  d_StreamHandler_setFormatter : Stands K "setFormatter" "Handler.setFormatter" s_Handler_setFormatter [] (He.fAd K ("StreamHandler", some "setFormatter"))
  d_StreamHandler_setTerminator : Stands K "setTerminator" "Handler.setTerminator" s_Handler_setTerminator [] (He.fAd K ("StreamHandler", some "setTerminator"))
  d_StreamHandler_handle : Stands K "handle" "Handler.handle" s_Handler_handle [] (He.fAd K ("StreamHandler", some "handle"))
  d_StreamHandler_emit : Stands K "emit" "StreamHandler.emit" s_StreamHandler_emit [] (He.fAd K ("StreamHandler", some "emit"))
  d_StreamHandler_formatted : Stands K "formatted" "Handler.formatted" s_Handler_formatted [] (He.fAd K ("StreamHandler", some "formatted"))
  d_StreamHandler_text_of : Stands K "text_of" "Handler.text_of" s_Handler_text_of [] (He.fAd K ("StreamHandler", some "text_of"))
  d_StreamHandler_setStream : Stands K "setStream" "StreamHandler.setStream" s_StreamHandler_setStream [] (He.fAd K ("StreamHandler", some "setStream"))
  d_NullHandler_filtered : Stands K "filtered" "Filterer.filtered" s_Filterer_filtered [] (He.fAd K ("NullHandler", some "filtered"))
  d_NullHandler_setFormatter : Stands K "setFormatter" "Handler.setFormatter" s_Handler_setFormatter [] (He.fAd K ("NullHandler", some "setFormatter"))
  d_NullHandler_setTerminator : Stands K "setTerminator" "Handler.setTerminator" s_Handler_setTerminator [] (He.fAd K ("NullHandler", some "setTerminator"))
  d_NullHandler_handle : Stands K "handle" "Handler.handle" s_Handler_handle [] (He.fAd K ("NullHandler", some "handle"))
  d_NullHandler_emit : Stands K "emit" "Handler.emit" s_Handler_emit [] (He.fAd K ("NullHandler", some "emit"))
  d_is_integer : Stands K "is_integer" "is_integer" s_is_integer [] (He.fAd K ("is_integer", none))
  d_Field_init : Stands K "__init__" "Field.__init__" s_Field_init [(He.Dv.str "" : He.Dv).v K, (He.Dv.str " " : He.Dv).v K, (He.Dv.str "" : He.Dv).v K, (He.Dv.int 0 : He.Dv).v K] (He.fAd K ("Field", some "__init__"))
  d_Field_side_of : Stands K "side_of" "Field.side_of" s_Field_side_of [] (He.fAd K ("Field", some "side_of"))
  d_Field_written : Stands K "written" "Field.written" s_Field_written [] (He.fAd K ("Field", some "written"))
  d_name_end : Stands K "name_end" "name_end" s_name_end [] (He.fAd K ("name_end", none))
  d_field_of : Stands K "field_of" "field_of" s_field_of [] (He.fAd K ("field_of", none))
  d_parts_of_braces : Stands K "parts_of_braces" "parts_of_braces" s_parts_of_braces [] (He.fAd K ("parts_of_braces", none))
  d_field_behind : Stands K "field_behind" "field_behind" s_field_behind [] (He.fAd K ("field_behind", none))
  d_parts_of_dollars : Stands K "parts_of_dollars" "parts_of_dollars" s_parts_of_dollars [] (He.fAd K ("parts_of_dollars", none))
  d_joined_texts : Stands K "joined_texts" "joined_texts" s_joined_texts [] (He.fAd K ("joined_texts", none))
  d_Formatter_init : Stands K "__init__" "Formatter.__init__" s_Formatter_init [(He.Dv.non : He.Dv).v K, (He.Dv.str "{" : He.Dv).v K, (He.Dv.bl true : He.Dv).v K, (He.Dv.non : He.Dv).v K] (He.fAd K ("Formatter", some "__init__"))
  d_Formatter_value_of : Stands K "value_of" "Formatter.value_of" s_Formatter_value_of [] (He.fAd K ("Formatter", some "value_of"))
  d_Formatter_formatted : Stands K "formatted" "Formatter.formatted" s_Formatter_formatted [] (He.fAd K ("Formatter", some "formatted"))
  d_Logger_init : Stands K "__init__" "Logger.__init__" s_Logger_init [] (He.fAd K ("Logger", some "__init__"))
  d_Yard_init : Stands K "__init__" "Yard.__init__" s_Yard_init [(He.Dv.int 0 : He.Dv).v K] (He.fAd K ("Yard", some "__init__"))
  d_Yard_text : Stands K "text" "Yard.text" s_Yard_text [] (He.fAd K ("Yard", some "text"))
  d_Yard_streams : Stands K "streams" "Yard.streams" s_Yard_streams [] (He.fAd K ("Yard", some "streams"))
  d_Yard_files : Stands K "files" "Yard.files" s_Yard_files [] (He.fAd K ("Yard", some "files"))
  d_Yard_write_stream : Stands K "write_stream" "Yard.write_stream" s_Yard_write_stream [] (He.fAd K ("Yard", some "write_stream"))
  d_Yard_level_name : Stands K "level_name" "Yard.level_name" s_Yard_level_name [] (He.fAd K ("Yard", some "level_name"))
  d_Yard_level_of : Stands K "level_of" "Yard.level_of" s_Yard_level_of [] (He.fAd K ("Yard", some "level_of"))
  d_Yard_make_record : Stands K "make_record" "Yard.make_record" s_Yard_make_record [(He.Dv.adr (He.dflAt ("Yard", some "make_record") 0) : He.Dv).v K, (He.Dv.non : He.Dv).v K] (He.fAd K ("Yard", some "make_record"))
  d_Yard_enrol : Stands K "enrol" "Yard.enrol" s_Yard_enrol [] (He.fAd K ("Yard", some "enrol"))
  d_Yard_keep_failure : Stands K "keep_failure" "Yard.keep_failure" s_Yard_keep_failure [] (He.fAd K ("Yard", some "keep_failure"))
  d_Yard_failures : Stands K "failures" "Yard.failures" s_Yard_failures [] (He.fAd K ("Yard", some "failures"))
  d__law_draw : Stands K "_law_draw" "_law_draw" s__law_draw [] (He.fAd K ("_law_draw", none))
  d__law_pick : Stands K "_law_pick" "_law_pick" s__law_pick [] (He.fAd K ("_law_pick", none))
  d__law_same : Stands K "_law_same" "_law_same" s__law_same [] (He.fAd K ("_law_same", none))
  d__law_yard : Stands K "_law_yard" "_law_yard" s__law_yard [] (He.fAd K ("_law_yard", none))
  d__law_formatters : Stands K "_law_formatters" "_law_formatters" s__law_formatters [] (He.fAd K ("_law_formatters", none))
  d__law_text : Stands K "_law_text" "_law_text" s__law_text [] (He.fAd K ("_law_text", none))
  d__law_row : Stands K "_law_row" "_law_row" s__law_row [] (He.fAd K ("_law_row", none))
  d__law_record : Stands K "_law_record" "_law_record" s__law_record [] (He.fAd K ("_law_record", none))
  d__law_line : Stands K "_law_line" "_law_line" s__law_line [] (He.fAd K ("_law_line", none))
  d__law_to_stream : Stands K "_law_to_stream" "_law_to_stream" s__law_to_stream [] (He.fAd K ("_law_to_stream", none))
  d__law_to_none : Stands K "_law_to_none" "_law_to_none" s__law_to_none [] (He.fAd K ("_law_to_none", none))
  d__law_handler : Stands K "_law_handler" "_law_handler" s__law_handler [] (He.fAd K ("_law_handler", none))
  d__law_is_like : Stands K "_law_is_like" "_law_is_like" s__law_is_like [] (He.fAd K ("_law_is_like", none))
  d__law_made : Stands K "_law_made" "_law_made" s__law_made [] (He.fAd K ("_law_made", none))
  d__law_deed : Stands K "_law_deed" "_law_deed" s__law_deed [] (He.fAd K ("_law_deed", none))
  d_law : Stands K "law" "law" s_law [] (He.fAd K ("law", none))
  t_FIRST_NAMES : RB.KD P w K (He.ga K "FIRST_NAMES") (kv_FIRST_NAMES.map fun q => (q.1, q.2.v K))
  t_FIRST_NUMBERS : RB.KD P w K (He.ga K "FIRST_NUMBERS") (kv_FIRST_NUMBERS.map fun q => (q.1, q.2.v K))
  t_MESSAGE_ALONE : RB.KD P w K (He.ga K "MESSAGE_ALONE") (kv_MESSAGE_ALONE.map fun q => (q.1, q.2.v K))
theorem Txt.of {P : Program} {w : World} {K : PySem.W.Frag} {h : Heap} {mg : Str → Option Value} (X : K.In h) (G : h.Ns mainGlobals mg) (c : RB.SaysB fa fx fn ts w K) : Txt P w K mg where
    g_BadMessage := He.glo_ok X G (c.fact 0 (f := .glo "BadMessage") (by rfl))
    g_BadField := He.glo_ok X G (c.fact 1 (f := .glo "BadField") (by rfl))
    g_LogRecord := He.glo_ok X G (c.fact 2 (f := .glo "LogRecord") (by rfl))
    g_Filterer := He.glo_ok X G (c.fact 3 (f := .glo "Filterer") (by rfl))
    g_Handler := He.glo_ok X G (c.fact 4 (f := .glo "Handler") (by rfl))
    g_StreamHandler := He.glo_ok X G (c.fact 5 (f := .glo "StreamHandler") (by rfl))
    g_NullHandler := He.glo_ok X G (c.fact 6 (f := .glo "NullHandler") (by rfl))
    g_Field := He.glo_ok X G (c.fact 7 (f := .glo "Field") (by rfl))
    g_Formatter := He.glo_ok X G (c.fact 8 (f := .glo "Formatter") (by rfl))
    g_Logger := He.glo_ok X G (c.fact 9 (f := .glo "Logger") (by rfl))
    g_Yard := He.glo_ok X G (c.fact 10 (f := .glo "Yard") (by rfl))
    g_copied_value := He.glo_ok X G (c.fact 11 (f := .glo "copied_value") (by rfl))
    g_message_of := He.glo_ok X G (c.fact 12 (f := .glo "message_of") (by rfl))
    g_is_integer := He.glo_ok X G (c.fact 13 (f := .glo "is_integer") (by rfl))
    g_name_end := He.glo_ok X G (c.fact 14 (f := .glo "name_end") (by rfl))
    g_field_of := He.glo_ok X G (c.fact 15 (f := .glo "field_of") (by rfl))
    g_parts_of_braces := He.glo_ok X G (c.fact 16 (f := .glo "parts_of_braces") (by rfl))
    g_field_behind := He.glo_ok X G (c.fact 17 (f := .glo "field_behind") (by rfl))
    g_parts_of_dollars := He.glo_ok X G (c.fact 18 (f := .glo "parts_of_dollars") (by rfl))
    g_joined_texts := He.glo_ok X G (c.fact 19 (f := .glo "joined_texts") (by rfl))
    g__law_draw := He.glo_ok X G (c.fact 20 (f := .glo "_law_draw") (by rfl))
    g__law_pick := He.glo_ok X G (c.fact 21 (f := .glo "_law_pick") (by rfl))
    g__law_same := He.glo_ok X G (c.fact 22 (f := .glo "_law_same") (by rfl))
    g__law_yard := He.glo_ok X G (c.fact 23 (f := .glo "_law_yard") (by rfl))
    g__law_formatters := He.glo_ok X G (c.fact 24 (f := .glo "_law_formatters") (by rfl))
    g__law_text := He.glo_ok X G (c.fact 25 (f := .glo "_law_text") (by rfl))
    g__law_row := He.glo_ok X G (c.fact 26 (f := .glo "_law_row") (by rfl))
    g__law_record := He.glo_ok X G (c.fact 27 (f := .glo "_law_record") (by rfl))
    g__law_line := He.glo_ok X G (c.fact 28 (f := .glo "_law_line") (by rfl))
    g__law_to_stream := He.glo_ok X G (c.fact 29 (f := .glo "_law_to_stream") (by rfl))
    g__law_to_none := He.glo_ok X G (c.fact 30 (f := .glo "_law_to_none") (by rfl))
    g__law_handler := He.glo_ok X G (c.fact 31 (f := .glo "_law_handler") (by rfl))
    g__law_is_like := He.glo_ok X G (c.fact 32 (f := .glo "_law_is_like") (by rfl))
    g__law_made := He.glo_ok X G (c.fact 33 (f := .glo "_law_made") (by rfl))
    g__law_deed := He.glo_ok X G (c.fact 34 (f := .glo "_law_deed") (by rfl))
    g_law := He.glo_ok X G (c.fact 35 (f := .glo "law") (by rfl))
    g_WARNING := He.int_ok X G (c.fact 36 (f := .int "WARNING" 30) (by rfl))
    g_NOTSET := He.int_ok X G (c.fact 37 (f := .int "NOTSET" 0) (by rfl))
    g_OWN_FIELDS := He.glo_ok X G (c.fact 38 (f := .glo "OWN_FIELDS") (by rfl))
    g_FIRST_NAMES := He.glo_ok X G (c.fact 39 (f := .glo "FIRST_NAMES") (by rfl))
    g_FIRST_NUMBERS := He.glo_ok X G (c.fact 40 (f := .glo "FIRST_NUMBERS") (by rfl))
    g_LETTERS := He.str_ok X G (c.fact 41 (f := .str "LETTERS" "abcdefghijklmnopqrstuvwxyzABCDEFGHIJKLMNOPQRSTUVWXYZ_") (by rfl))
    g_DIGITS := He.str_ok X G (c.fact 42 (f := .str "DIGITS" "0123456789") (by rfl))
    g_MESSAGE_ALONE := He.glo_ok X G (c.fact 43 (f := .glo "MESSAGE_ALONE") (by rfl))
    b_len := He.free_ok X G (c.fact 44 (f := .free "len") (by rfl))
    b_isinstance := He.free_ok X G (c.fact 45 (f := .free "isinstance") (by rfl))
    b_int := He.free_ok X G (c.fact 46 (f := .free "int") (by rfl))
    b_str := He.free_ok X G (c.fact 47 (f := .free "str") (by rfl))
    b_list := He.free_ok X G (c.fact 48 (f := .free "list") (by rfl))
    b_tuple := He.free_ok X G (c.fact 49 (f := .free "tuple") (by rfl))
    b_bool := He.free_ok X G (c.fact 50 (f := .free "bool") (by rfl))
    b_dict := He.free_ok X G (c.fact 51 (f := .free "dict") (by rfl))
    b_range := He.free_ok X G (c.fact 52 (f := .free "range") (by rfl))
    b_sorted := He.free_ok X G (c.fact 53 (f := .free "sorted") (by rfl))
    b_all := He.free_ok X G (c.fact 54 (f := .free "all") (by rfl))
    b_zip := He.free_ok X G (c.fact 55 (f := .free "zip") (by rfl))
    b_max := He.free_ok X G (c.fact 56 (f := .free "max") (by rfl))
    c_LogRecord := He.cls_ok (c.fact 57 (f := .cls "LogRecord") (by rfl))
    n_LogRecord_name := He.noat_ok (c.fact 58 (f := .noat "LogRecord" "name") (by rfl))
    n_LogRecord_levelno := He.noat_ok (c.fact 59 (f := .noat "LogRecord" "levelno") (by rfl))
    n_LogRecord_levelname := He.noat_ok (c.fact 60 (f := .noat "LogRecord" "levelname") (by rfl))
    n_LogRecord_msg := He.noat_ok (c.fact 61 (f := .noat "LogRecord" "msg") (by rfl))
    n_LogRecord_given := He.noat_ok (c.fact 62 (f := .noat "LogRecord" "given") (by rfl))
    n_LogRecord_created := He.noat_ok (c.fact 63 (f := .noat "LogRecord" "created") (by rfl))
    n_LogRecord_extra := He.noat_ok (c.fact 64 (f := .noat "LogRecord" "extra") (by rfl))
    c_StreamHandler := He.cls_ok (c.fact 65 (f := .cls "StreamHandler") (by rfl))
    n_StreamHandler_filters := He.noat_ok (c.fact 66 (f := .noat "StreamHandler" "filters") (by rfl))
    n_StreamHandler_yard := He.noat_ok (c.fact 67 (f := .noat "StreamHandler" "yard") (by rfl))
    n_StreamHandler_level := He.noat_ok (c.fact 68 (f := .noat "StreamHandler" "level") (by rfl))
    n_StreamHandler_formatter := He.noat_ok (c.fact 69 (f := .noat "StreamHandler" "formatter") (by rfl))
    n_StreamHandler_name := He.noat_ok (c.fact 70 (f := .noat "StreamHandler" "name") (by rfl))
    n_StreamHandler_terminator := He.noat_ok (c.fact 71 (f := .noat "StreamHandler" "terminator") (by rfl))
    n_StreamHandler_closed := He.noat_ok (c.fact 72 (f := .noat "StreamHandler" "closed") (by rfl))
    n_StreamHandler_stream := He.noat_ok (c.fact 73 (f := .noat "StreamHandler" "stream") (by rfl))
    c_NullHandler := He.cls_ok (c.fact 74 (f := .cls "NullHandler") (by rfl))
    n_NullHandler_filters := He.noat_ok (c.fact 75 (f := .noat "NullHandler" "filters") (by rfl))
    n_NullHandler_yard := He.noat_ok (c.fact 76 (f := .noat "NullHandler" "yard") (by rfl))
    n_NullHandler_level := He.noat_ok (c.fact 77 (f := .noat "NullHandler" "level") (by rfl))
    n_NullHandler_formatter := He.noat_ok (c.fact 78 (f := .noat "NullHandler" "formatter") (by rfl))
    n_NullHandler_name := He.noat_ok (c.fact 79 (f := .noat "NullHandler" "name") (by rfl))
    n_NullHandler_terminator := He.noat_ok (c.fact 80 (f := .noat "NullHandler" "terminator") (by rfl))
    n_NullHandler_closed := He.noat_ok (c.fact 81 (f := .noat "NullHandler" "closed") (by rfl))
    c_Field := He.cls_ok (c.fact 82 (f := .cls "Field") (by rfl))
    n_Field_name := He.noat_ok (c.fact 83 (f := .noat "Field" "name") (by rfl))
    n_Field_conversion := He.noat_ok (c.fact 84 (f := .noat "Field" "conversion") (by rfl))
    n_Field_fill := He.noat_ok (c.fact 85 (f := .noat "Field" "fill") (by rfl))
    n_Field_align := He.noat_ok (c.fact 86 (f := .noat "Field" "align") (by rfl))
    n_Field_width := He.noat_ok (c.fact 87 (f := .noat "Field" "width") (by rfl))
    c_Formatter := He.cls_ok (c.fact 88 (f := .cls "Formatter") (by rfl))
    n_Formatter_fmt := He.noat_ok (c.fact 89 (f := .noat "Formatter" "fmt") (by rfl))
    n_Formatter_style := He.noat_ok (c.fact 90 (f := .noat "Formatter" "style") (by rfl))
    n_Formatter_parts := He.noat_ok (c.fact 91 (f := .noat "Formatter" "parts") (by rfl))
    n_Formatter_defaults := He.noat_ok (c.fact 92 (f := .noat "Formatter" "defaults") (by rfl))
    c_Logger := He.cls_ok (c.fact 93 (f := .cls "Logger") (by rfl))
    n_Logger_filters := He.noat_ok (c.fact 94 (f := .noat "Logger" "filters") (by rfl))
    n_Logger_yard := He.noat_ok (c.fact 95 (f := .noat "Logger" "yard") (by rfl))
    n_Logger_name := He.noat_ok (c.fact 96 (f := .noat "Logger" "name") (by rfl))
    n_Logger_level := He.noat_ok (c.fact 97 (f := .noat "Logger" "level") (by rfl))
    n_Logger_propagate := He.noat_ok (c.fact 98 (f := .noat "Logger" "propagate") (by rfl))
    n_Logger_disabled := He.noat_ok (c.fact 99 (f := .noat "Logger" "disabled") (by rfl))
    n_Logger_handlers := He.noat_ok (c.fact 100 (f := .noat "Logger" "handlers") (by rfl))
    n_Logger_parent := He.noat_ok (c.fact 101 (f := .noat "Logger" "parent") (by rfl))
    c_Yard := He.cls_ok (c.fact 102 (f := .cls "Yard") (by rfl))
    n_Yard_clock := He.noat_ok (c.fact 103 (f := .noat "Yard" "clock") (by rfl))
    n_Yard_stream_texts := He.noat_ok (c.fact 104 (f := .noat "Yard" "stream_texts") (by rfl))
    n_Yard_file_rows := He.noat_ok (c.fact 105 (f := .noat "Yard" "file_rows") (by rfl))
    n_Yard_names_of := He.noat_ok (c.fact 106 (f := .noat "Yard" "names_of") (by rfl))
    n_Yard_numbers_of := He.noat_ok (c.fact 107 (f := .noat "Yard" "numbers_of") (by rfl))
    n_Yard_bar_level := He.noat_ok (c.fact 108 (f := .noat "Yard" "bar_level") (by rfl))
    n_Yard_logger_map := He.noat_ok (c.fact 109 (f := .noat "Yard" "logger_map") (by rfl))
    n_Yard_made := He.noat_ok (c.fact 110 (f := .noat "Yard" "made") (by rfl))
    n_Yard_handler_names := He.noat_ok (c.fact 111 (f := .noat "Yard" "handler_names") (by rfl))
    n_Yard_failure_rows := He.noat_ok (c.fact 112 (f := .noat "Yard" "failure_rows") (by rfl))
    n_Yard_root := He.noat_ok (c.fact 113 (f := .noat "Yard" "root") (by rfl))
    n_Yard_last_resort := He.noat_ok (c.fact 114 (f := .noat "Yard" "last_resort") (by rfl))
    m_LogRecord_message := He.meth_ok (c.fact 115 (f := .meth "LogRecord" "message") (by rfl))
    m_LogRecord_field := He.meth_ok (c.fact 116 (f := .meth "LogRecord" "field") (by rfl))
    m_StreamHandler_filtered := He.meth_ok (c.fact 117 (f := .meth "StreamHandler" "filtered") (by rfl))
    m_StreamHandler_setFormatter := He.meth_ok (c.fact 118 (f := .meth "StreamHandler" "setFormatter") (by rfl))
    m_StreamHandler_setTerminator := He.meth_ok (c.fact 119 (f := .meth "StreamHandler" "setTerminator") (by rfl))
    m_StreamHandler_handle := He.meth_ok (c.fact 120 (f := .meth "StreamHandler" "handle") (by rfl))
    m_StreamHandler_emit := He.meth_ok (c.fact 121 (f := .meth "StreamHandler" "emit") (by rfl))
    m_StreamHandler_formatted := He.meth_ok (c.fact 122 (f := .meth "StreamHandler" "formatted") (by rfl))
    m_StreamHandler_text_of := He.meth_ok (c.fact 123 (f := .meth "StreamHandler" "text_of") (by rfl))
    m_StreamHandler_setStream := He.meth_ok (c.fact 124 (f := .meth "StreamHandler" "setStream") (by rfl))
    m_NullHandler_filtered := He.meth_ok (c.fact 125 (f := .meth "NullHandler" "filtered") (by rfl))
    m_NullHandler_setFormatter := He.meth_ok (c.fact 126 (f := .meth "NullHandler" "setFormatter") (by rfl))
    m_NullHandler_setTerminator := He.meth_ok (c.fact 127 (f := .meth "NullHandler" "setTerminator") (by rfl))
    m_NullHandler_handle := He.meth_ok (c.fact 128 (f := .meth "NullHandler" "handle") (by rfl))
    m_NullHandler_emit := He.meth_ok (c.fact 129 (f := .meth "NullHandler" "emit") (by rfl))
    m_Field_side_of := He.meth_ok (c.fact 130 (f := .meth "Field" "side_of") (by rfl))
    m_Field_written := He.meth_ok (c.fact 131 (f := .meth "Field" "written") (by rfl))
    m_Formatter_value_of := He.meth_ok (c.fact 132 (f := .meth "Formatter" "value_of") (by rfl))
    m_Formatter_formatted := He.meth_ok (c.fact 133 (f := .meth "Formatter" "formatted") (by rfl))
    m_Yard_text := He.meth_ok (c.fact 134 (f := .meth "Yard" "text") (by rfl))
    m_Yard_streams := He.meth_ok (c.fact 135 (f := .meth "Yard" "streams") (by rfl))
    m_Yard_files := He.meth_ok (c.fact 136 (f := .meth "Yard" "files") (by rfl))
    m_Yard_write_stream := He.meth_ok (c.fact 137 (f := .meth "Yard" "write_stream") (by rfl))
    m_Yard_level_name := He.meth_ok (c.fact 138 (f := .meth "Yard" "level_name") (by rfl))
    m_Yard_level_of := He.meth_ok (c.fact 139 (f := .meth "Yard" "level_of") (by rfl))
    m_Yard_make_record := He.meth_ok (c.fact 140 (f := .meth "Yard" "make_record") (by rfl))
    m_Yard_enrol := He.meth_ok (c.fact 141 (f := .meth "Yard" "enrol") (by rfl))
    m_Yard_keep_failure := He.meth_ok (c.fact 142 (f := .meth "Yard" "keep_failure") (by rfl))
    m_Yard_failures := He.meth_ok (c.fact 143 (f := .meth "Yard" "failures") (by rfl))
    k_LogRecord := He.mkr_ok (c.fact 144 (f := .mkr "LogRecord") (by rfl))
    k_StreamHandler := He.mkr_ok (c.fact 145 (f := .mkr "StreamHandler") (by rfl))
    k_NullHandler := He.mkr_ok (c.fact 146 (f := .mkr "NullHandler") (by rfl))
    k_Field := He.mkr_ok (c.fact 147 (f := .mkr "Field") (by rfl))
    k_Formatter := He.mkr_ok (c.fact 148 (f := .mkr "Formatter") (by rfl))
    k_Logger := He.mkr_ok (c.fact 149 (f := .mkr "Logger") (by rfl))
    k_Yard := He.mkr_ok (c.fact 150 (f := .mkr "Yard") (by rfl))
    x_BadMessage := RB.exc_ok (c.more 0 (f := .exc "BadMessage" "msg") (by rfl))
    x_BadField := RB.exc_ok (c.more 1 (f := .exc "BadField" "name") (by rfl))
    e_BadMessage_BadMessage := RB.exm_ok (c.more 2 (f := .exm "BadMessage" "BadMessage" true) (by rfl))
    e_BadMessage_BadField := RB.exm_ok (c.more 3 (f := .exm "BadMessage" "BadField" false) (by rfl))
    e_BadField_BadMessage := RB.exm_ok (c.more 4 (f := .exm "BadField" "BadMessage" false) (by rfl))
    e_BadField_BadField := RB.exm_ok (c.more 5 (f := .exm "BadField" "BadField" true) (by rfl))
    p_Logger := RB.pl_ok (c.more 6 (f := .pl "Logger") (by rfl))
    p_StreamHandler := RB.pl_ok (c.more 7 (f := .pl "StreamHandler") (by rfl))
    p_NullHandler := RB.pl_ok (c.more 8 (f := .pl "NullHandler") (by rfl))
    p_LogRecord := RB.pl_ok (c.more 9 (f := .pl "LogRecord") (by rfl))
    sub_Logger_Logger := RB.sub_ok (c.more 10 (f := .sub "Logger" "Logger") (by rfl))
    sub_StreamHandler_StreamHandler := RB.sub_ok (c.more 11 (f := .sub "StreamHandler" "StreamHandler") (by rfl))
    sub_LogRecord_LogRecord := RB.sub_ok (c.more 12 (f := .sub "LogRecord" "LogRecord") (by rfl))
    sub_NullHandler_NullHandler := RB.sub_ok (c.more 13 (f := .sub "NullHandler" "NullHandler") (by rfl))
    sub_StreamHandler_NullHandler := RB.sub_ok (c.more 14 (f := .sub "StreamHandler" "NullHandler") (by rfl))
    sub_NullHandler_StreamHandler := RB.sub_ok (c.more 15 (f := .sub "NullHandler" "StreamHandler") (by rfl))
    cf_Filterer_init := RB.cf_ok (c.more 16 (f := .cf "Filterer" "__init__") (by rfl))
    cf_Handler_init := RB.cf_ok (c.more 17 (f := .cf "Handler" "__init__") (by rfl))
    ty_Field := RB.ty_ok (c.more 18 (f := .ty "Field") (by rfl))
    kiy_Field_str := RB.kiy_ok (c.more 19 (f := .kiy "Field" "str" false) (by rfl))
    dt_Yard_make_record_0 := RB.dtup_ok (c.more 20 (f := .dtup ("Yard", some "make_record") 0) (by rfl))
    d_Filterer_init := c.d.def_ 0 (d := dd_Filterer_init) (by rfl)
    d_copied_value := c.d.def_ 1 (d := dd_copied_value) (by rfl)
    d_message_of := c.d.def_ 2 (d := dd_message_of) (by rfl)
    d_BadMessage_init := c.d.def_ 3 (d := dd_BadMessage_init) (by rfl)
    d_BadField_init := c.d.def_ 4 (d := dd_BadField_init) (by rfl)
    d_LogRecord_init := c.d.def_ 5 (d := dd_LogRecord_init) (by rfl)
    d_LogRecord_message := c.d.def_ 6 (d := dd_LogRecord_message) (by rfl)
    d_LogRecord_field := c.d.def_ 7 (d := dd_LogRecord_field) (by rfl)
    d_Handler_init := c.d.def_ 8 (d := dd_Handler_init) (by rfl)
    d_StreamHandler_init := c.d.def_ 9 (d := dd_StreamHandler_init) (by rfl)
    d_NullHandler_init := c.d.def_ 10 (d := dd_NullHandler_init) (by rfl)
    d_StreamHandler_filtered := c.d.def_ 11 (d := dd_StreamHandler_filtered) (by rfl)
    d_StreamHandler_setFormatter := c.d.def_ 12 (d := dd_StreamHandler_setFormatter) (by rfl)
    d_StreamHandler_setTerminator := c.d.def_ 13 (d := dd_StreamHandler_setTerminator) (by rfl)
    d_StreamHandler_handle := c.d.def_ 14 (d := dd_StreamHandler_handle) (by rfl)
    d_StreamHandler_emit := c.d.def_ 15 (d := dd_StreamHandler_emit) (by rfl)
    d_StreamHandler_formatted := c.d.def_ 16 (d := dd_StreamHandler_formatted) (by rfl)
    d_StreamHandler_text_of := c.d.def_ 17 (d := dd_StreamHandler_text_of) (by rfl)
    d_StreamHandler_setStream := c.d.def_ 18 (d := dd_StreamHandler_setStream) (by rfl)
    d_NullHandler_filtered := c.d.def_ 19 (d := dd_NullHandler_filtered) (by rfl)
    d_NullHandler_setFormatter := c.d.def_ 20 (d := dd_NullHandler_setFormatter) (by rfl)
    d_NullHandler_setTerminator := c.d.def_ 21 (d := dd_NullHandler_setTerminator) (by rfl)
    d_NullHandler_handle := c.d.def_ 22 (d := dd_NullHandler_handle) (by rfl)
    d_NullHandler_emit := c.d.def_ 23 (d := dd_NullHandler_emit) (by rfl)
    d_is_integer := c.d.def_ 24 (d := dd_is_integer) (by rfl)
    d_Field_init := c.d.def_ 25 (d := dd_Field_init) (by rfl)
    d_Field_side_of := c.d.def_ 26 (d := dd_Field_side_of) (by rfl)
    d_Field_written := c.d.def_ 27 (d := dd_Field_written) (by rfl)
    d_name_end := c.d.def_ 28 (d := dd_name_end) (by rfl)
    d_field_of := c.d.def_ 29 (d := dd_field_of) (by rfl)
    d_parts_of_braces := c.d.def_ 30 (d := dd_parts_of_braces) (by rfl)
    d_field_behind := c.d.def_ 31 (d := dd_field_behind) (by rfl)
    d_parts_of_dollars := c.d.def_ 32 (d := dd_parts_of_dollars) (by rfl)
    d_joined_texts := c.d.def_ 33 (d := dd_joined_texts) (by rfl)
    d_Formatter_init := c.d.def_ 34 (d := dd_Formatter_init) (by rfl)
    d_Formatter_value_of := c.d.def_ 35 (d := dd_Formatter_value_of) (by rfl)
    d_Formatter_formatted := c.d.def_ 36 (d := dd_Formatter_formatted) (by rfl)
    d_Logger_init := c.d.def_ 37 (d := dd_Logger_init) (by rfl)
    d_Yard_init := c.d.def_ 38 (d := dd_Yard_init) (by rfl)
    d_Yard_text := c.d.def_ 39 (d := dd_Yard_text) (by rfl)
    d_Yard_streams := c.d.def_ 40 (d := dd_Yard_streams) (by rfl)
    d_Yard_files := c.d.def_ 41 (d := dd_Yard_files) (by rfl)
    d_Yard_write_stream := c.d.def_ 42 (d := dd_Yard_write_stream) (by rfl)
    d_Yard_level_name := c.d.def_ 43 (d := dd_Yard_level_name) (by rfl)
    d_Yard_level_of := c.d.def_ 44 (d := dd_Yard_level_of) (by rfl)
    d_Yard_make_record := c.d.def_ 45 (d := dd_Yard_make_record) (by rfl)
    d_Yard_enrol := c.d.def_ 46 (d := dd_Yard_enrol) (by rfl)
    d_Yard_keep_failure := c.d.def_ 47 (d := dd_Yard_keep_failure) (by rfl)
    d_Yard_failures := c.d.def_ 48 (d := dd_Yard_failures) (by rfl)
    d__law_draw := c.d.def_ 49 (d := dd__law_draw) (by rfl)
    d__law_pick := c.d.def_ 50 (d := dd__law_pick) (by rfl)
    d__law_same := c.d.def_ 51 (d := dd__law_same) (by rfl)
    d__law_yard := c.d.def_ 52 (d := dd__law_yard) (by rfl)
    d__law_formatters := c.d.def_ 53 (d := dd__law_formatters) (by rfl)
    d__law_text := c.d.def_ 54 (d := dd__law_text) (by rfl)
    d__law_row := c.d.def_ 55 (d := dd__law_row) (by rfl)
    d__law_record := c.d.def_ 56 (d := dd__law_record) (by rfl)
    d__law_line := c.d.def_ 57 (d := dd__law_line) (by rfl)
    d__law_to_stream := c.d.def_ 58 (d := dd__law_to_stream) (by rfl)
    d__law_to_none := c.d.def_ 59 (d := dd__law_to_none) (by rfl)
    d__law_handler := c.d.def_ 60 (d := dd__law_handler) (by rfl)
    d__law_is_like := c.d.def_ 61 (d := dd__law_is_like) (by rfl)
    d__law_made := c.d.def_ 62 (d := dd__law_made) (by rfl)
    d__law_deed := c.d.def_ 63 (d := dd__law_deed) (by rfl)
    d_law := c.d.def_ 64 (d := dd_law) (by rfl)
    t_FIRST_NAMES := c.tb 0 (t := ("FIRST_NAMES", kv_FIRST_NAMES)) (by rfl) P
    t_FIRST_NUMBERS := c.tb 1 (t := ("FIRST_NUMBERS", kv_FIRST_NUMBERS)) (by rfl) P
    t_MESSAGE_ALONE := c.tb 2 (t := ("MESSAGE_ALONE", kv_MESSAGE_ALONE)) (by rfl) P
end K17

set_option Elab.async false
set_option linter.all false
set_option maxRecDepth 100000
set_option maxHeartbeats 4000000
/-! The head's facts over the objects that the module's names reach, level by level. -/
namespace RHd
open PySem PySem.Spec PyProof.Rows L2 He RB
/-- what the objects at a level name -/
def lvl (g : Addr → Option Obj) : Nat → List Addr → List Addr
  | 0, as => as
  | n + 1, as => as ++ lvl g n (as.flatMap fun a => match g a with
    | some o => (refsD o).filter fun b => !Nat.beq b a
    | none => [])
def asL (g : Addr → Option Obj) (n : Nat) : List Addr := lvl g n [mainGlobals]
def obsLG (n : Nat) (fa : List Fa) (fx : List Fx) (fn : List DefD) (ts : List Tb) (g : Addr → Option Obj) : AlB := obsB fa fx fn ts (frG g (extraB g fx (asL g n)))
def hookL (n : Nat) (fa : List Fa) (fx : List Fx) (fn : List DefD) (ts : List Tb) : PySem.W.Hook where
  α := AlB
  obs := fun s => obsLG n fa fx fn ts s.heap.get?
  val := fun w => valB fn ts w
  says := fun w h => ∃ K : PySem.W.Frag, K.In h ∧ SaysB fa fx fn ts w K
  of := fun _ _ e => ⟨_, frG_in, e⟩
  keeps := fun _ _ _ ⟨K, hK, c⟩ k => ⟨K, PySem.W.Frag.In.keeps hK k, c⟩
theorem obsLG_eq {n : Nat} {fa : List Fa} {fx : List Fx} {fn : List DefD} {ts : List Tb} {g : Addr → Option Obj} {s : Shared} (h : ∀ a, g a = s.heap.get? a) : obsLG n fa fx fn ts g = (hookL n fa fx fn ts).obs s := by
  have e : g = s.heap.get? := funext h
  rw [e] <;> rfl
end RHd

set_option Elab.async false
set_option linter.all false
set_option maxRecDepth 100000
set_option maxHeartbeats 0
namespace K17
open PySem PySem.Spec PyProof.Rows L2 RC
/-! ### the head -/
abbrev R : PySem.W.OpenRow := PySem.W.OpenLaw.row PySem.Challenge.rw_recordyard_k36_streams_written
abbrev hk : PySem.W.Hook := RHd.hookL 4 fa fx fn ts
def ob (s : PySem.W.SharedT) : RB.AlB := RHd.obsLG 4 fa fx fn ts (HandSHeadRun.getT s)
theorem ob_eq (s : PySem.W.SharedT) : ob s = hk.obs s.abs := RHd.obsLG_eq (HandSHeadRun.getT_eq s)
open HandSHeadRun PySem.W
abbrev AlR : Type := List (Option (List (Option (Key × Int)))) × Bool
noncomputable def fr (s : PySem.W.SharedT) : PySem.W.Frag := He.frG (HandSHeadRun.getT s) (RB.extraB (HandSHeadRun.getT s) fx (RHd.asL (HandSHeadRun.getT s) 4))
noncomputable def obD (s : PySem.W.SharedT) : He.AlD := He.obsD fa fn (fr s)
noncomputable def obR (s : PySem.W.SharedT) : AlR := (ts.map fun t => RB.tbRow (fr s) t.1, (fx.all fun f => f.ok (fr s)) && ts.all fun t => RB.tbVals (fr s) t)
noncomputable abbrev lk (w : World) (s : PySem.W.SharedT) : Bool := HandSHeadRun.looksF R.prog (boot_heap w.params) s.abs
noncomputable abbrev sn (s : PySem.W.SharedT) := HandSHeadRun.seenQ (PySem.W.view R.prog [81]) names (importedModules R.prog.main.body) (fun s => xlAt (PySem.W.view R.prog [81]) [] s && recOk R.toRowW.records s) s.abs
theorem hjoin3 {S A B D C : Type} {o : Option S} {a : S → A} {b : S → B} {d : S → D} {r : S → C} {x : A} {y : B} {v : D} {z : C} (h1 : o.map (fun s => (a s, b s, r s)) = some (x, y, z)) (h2 : o.map d = some v) : o.map (fun s => (a s, b s, (d s, r s))) = some (x, y, (v, z)) := by
  cases o with
  | none => cases h1
  | some s =>
    have e1 := Option.some.inj h1
    have e2 := Option.some.inj h2
    injection e1 with p1 p2
    injection p2 with p2 p3
    show some (a s, b s, (d s, r s)) = _
    rw [p1, p2, p3, e2]
theorem r1_f (w : World) (os : OsState) : (HandSHeadRun.endF (HandSHeadRun.stepQ (HandSHeadRun.denQ tabQ) R.prog (w.withFollow "special-get-raises" false)) 15000 R.prog (w.withFollow "special-get-raises" false) os).map (fun s => (lk (w.withFollow "special-get-raises" false) s, sn s, obR s)) = some (true, openGood (PySem.W.view R.prog [81]) names, (ts.map fun t => RB.tbWant (w.withFollow "special-get-raises" false).params t.2, true)) := by
  kernel_rfl
theorem r2_f (w : World) (os : OsState) : (HandSHeadRun.endF (HandSHeadRun.stepQ (HandSHeadRun.denQ tabQ) R.prog (w.withFollow "special-get-raises" false)) 15000 R.prog (w.withFollow "special-get-raises" false) os).map obD = some (He.valD fn) := by
  kernel_rfl
theorem run_f (w : World) : HandSHeadRun.RunEq R (PySem.W.view R.prog [81]) hk ob 15000 names (w.withFollow "special-get-raises" false) := fun os => hjoin3 (r1_f w os) (r2_f w os)
theorem r1_t (w : World) (os : OsState) : (HandSHeadRun.endF (HandSHeadRun.stepQ (HandSHeadRun.denQ tabQ) R.prog (w.withFollow "special-get-raises" true)) 15000 R.prog (w.withFollow "special-get-raises" true) os).map (fun s => (lk (w.withFollow "special-get-raises" true) s, sn s, obR s)) = some (true, openGood (PySem.W.view R.prog [81]) names, (ts.map fun t => RB.tbWant (w.withFollow "special-get-raises" true).params t.2, true)) := by
  kernel_rfl
theorem r2_t (w : World) (os : OsState) : (HandSHeadRun.endF (HandSHeadRun.stepQ (HandSHeadRun.denQ tabQ) R.prog (w.withFollow "special-get-raises" true)) 15000 R.prog (w.withFollow "special-get-raises" true) os).map obD = some (He.valD fn) := by
  kernel_rfl
theorem run_t (w : World) : HandSHeadRun.RunEq R (PySem.W.view R.prog [81]) hk ob 15000 names (w.withFollow "special-get-raises" true) := fun os => hjoin3 (r1_t w os) (r2_t w os)
theorem run (w : World) : HandSHeadRun.RunEq R (PySem.W.view R.prog [81]) hk ob 15000 names w := PySem.W.byRow2 "special-get-raises" (P := fun w => HandSHeadRun.RunEq R (PySem.W.view R.prog [81]) hk ob 15000 names w) run_f run_t w
end K17

set_option Elab.async false
set_option linter.all false
set_option maxRecDepth 100000
set_option maxHeartbeats 4000000
/-! What changes: all but some places stay; what is apart from these places. -/
namespace RC
open PySem PySem.Spec PyProof.Rows L2
theorem yes_if {σ : L2.St} {H : Hp} {A B : Hp → Prop} (h : A H) : tYes σ H (fun b H3 => if b = true then A H3 else B H3) := by
  show if true = true then A H else B H
  rw [if_pos rfl]; exact h
theorem seq_of {a b : TS} {D : Ends} {σ : L2.St} {H : Hp} (Mid : L2.St → Hp → Prop) (hA : ∀ b' : TS, (∀ σ' H', Mid σ' H' → b' D σ' H') → tSeq a b' D σ H) (hB : ∀ σ' H', Mid σ' H' → b D σ' H') : tSeq a b D σ H := hA b hB
theorem free_same {H H' : Hp} {a : Addr} (s : Same H H') (h : H' a = none) : H a = none := by
  cases e : H a with
  | none => rfl
  | some o => rw [s _ _ e] at h; cases h
theorem cxK2 {CX : CXT} {P : Program} {w : World} {K : PySem.W.Frag} {mg : Str → Option Value} {base : Heap} {N : List Str} {qual : Str} {scope : Scope} {f : Addr} {cd : Value} {A : Around} {outer : List Env} {sh : Shared} {H : Hp} {E : XK} :
    (cxOf CX P w K mg base N qual scope f cd A outer sh H E).K = K := rfl
theorem cxK3 {CX : CXT} {P : Program} {w : World} {K : PySem.W.Frag} {mg : Str → Option Value} {base : Heap} {N : List Str} {qual : Str} {scope : Scope} {f : Addr} {cd : Value} {A : Around} {outer : List Env} {sh : Shared} {H : Hp} {E : XK} {p : Addr × Obj} :
    (L2H.cxH CX P w K mg base N qual scope f cd A outer sh H E p).K = K := rfl
theorem hu_hot {A : Around} {k : Nat} {h : Option Value} (hr : Room k A) : (A.mark h).units + 1 < cLine := (show A.units + 1 < cLine from hu_of hr)
/-- all that stands outside of ms is as it was -/
def Chg (ms : List Addr) (H H' : Hp) : Prop := ∀ b o, b ∉ ms → H b = some o → H' b = some o
section
variable {ms ns : List Addr} {H H' H'' G : Hp} {a b p : Addr} {o o' : HO}
theorem Chg.refl : Chg ms H H := fun _ _ _ e => e
theorem Chg.of (s : Same H H') : Chg ms H H' := fun b o _ e => s b o e
theorem Chg.trans (c : Chg ms H H') (d : Chg ms H' H'') : Chg ms H H'' := fun b o n e => d b o n (c b o n e)
theorem Chg.mono (c : Chg ms H H') (h : ∀ b ∈ ms, b ∈ ns) : Chg ns H H' := fun b o n e => c b o (fun z => n (h b z)) e
theorem Chg.put (h : a ∈ ms) : Chg ms H (upd H a o) := fun b u n e => by rw [upd_ne (fun z => n (by rw [z]; exact h))]; exact e
theorem Chg.sameR (c : Chg ms H H') (s : Same H' H'') : Chg ms H H'' := fun b o n e => s b o (c b o n e)
theorem Chg.sameL (s : Same H H') (c : Chg ms H' H'') : Chg ms H H'' := fun b o n e => c b o n (s b o e)
theorem Chg.new (c : Chg ms H H') (h : H a = none) : Chg ms H (upd H' a o) := fun b u n e => by rw [upd_ne (ne_of_none e h)]; exact c b u n e
theorem Chg.set (c : Chg ms H H') (h : a ∈ ms) : Chg ms H (upd H' a o) := c.trans (Chg.put h)
theorem nin1 (h : b ≠ a) : b ∉ [a] := fun z => h (List.mem_singleton.mp z)
theorem nin2 {c : Addr} (h : b ≠ a) (k : b ≠ c) : b ∉ [a, c] := fun z => (List.mem_cons.mp z).elim h fun z => k (List.mem_singleton.mp z)
/-- what an apart heap holds stays -/
theorem Chg.apart (c : Chg ms H H') (s : Same G H) (out : ∀ m ∈ ms, G m = none) : Same G H' := fun b o e => c b o (fun z => by rw [out b z] at e; cases e) (s b o e)
/-- the heap without some places -/
noncomputable def rst (S : Addr → Prop) (H : Hp) : Hp := open Classical in fun b => if S b then none else H b
variable {S S' : Addr → Prop}
theorem rst_same : Same (rst S H) H := fun b o e => by
  unfold rst at e
  split at e
  · cases e
  · exact e
theorem rst_at (h : H b = some o) (n : ¬ S b) : rst S H b = some o := by unfold rst; rw [if_neg n]; exact h
theorem rst_none (h : S b) : rst S H b = none := by unfold rst; rw [if_pos h]
theorem rst_next (c : ∀ b o, ¬ S b → H b = some o → H' b = some o) (h : ∀ b, S' b → S b ∨ H b = none) : Same (rst S H) (rst S' H') := fun b o e => by
  have e2 := rst_same _ _ e
  have n : ¬ S b := fun z => by rw [rst_none z] at e; cases e
  refine rst_at (c b o n e2) fun z => ?_
  rcases h b z with k | k
  · exact n k
  · rw [k] at e2; cases e2
end
end RC

set_option Elab.async false
set_option linter.all false
set_option maxRecDepth 100000
set_option maxHeartbeats 4000000
/-! Further rules: two lists of the same objects are equal; a text times an int. -/
namespace RX
open PySem PySem.Spec PyProof.Rows PySem.SeqAt L2
open RD
/-- two lists of objects that are the same, or of unlike lengths -/
def rEqLL (K : PySem.W.Frag) : R2 := fun x y H Q => ∃ (a b : Addr) (as bs : List Addr), x = .ref a ∧ y = .ref b ∧ SqL K H a (as.map V.ref) ∧ SqL K H b (bs.map V.ref) ∧ (as = bs ∨ as.length ≠ bs.length) ∧ Q (.bl (decide (as = bs))) H
def rNeLL (K : PySem.W.Frag) : R2 := fun x y H Q => ∃ (a b : Addr) (as bs : List Addr), x = .ref a ∧ y = .ref b ∧ SqL K H a (as.map V.ref) ∧ SqL K H b (bs.map V.ref) ∧ (as = bs ∨ as.length ≠ bs.length) ∧ Q (.bl (!decide (as = bs))) H
section
variable {X : Cx}
theorem size_ne {as bs : List Addr} (h : as.length ≠ bs.length) : ((as.map Value.ref).toArray.size != (bs.map Value.ref).toArray.size) = true := by simpa using h
theorem op_eqLL (hu : X.A.units < cLine) : OpR X (compareOp .Eq) (rEqLL X.K) := by
  intro pins s σ H x y v u Q I rx ry h
  obtain ⟨a, b, as, bs, rfl, rfl, ha, hb, c, q⟩ := h
  cases rx
  cases ry
  obtain ⟨its, rv, hl, _⟩ := I.list ha
  obtain ⟨its2, rv2, hl2, _⟩ := I.list hb
  obtain rfl := vals_refs rv
  obtain rfl := vals_refs rv2
  rcases c with rfl | c
  · refine eq_listAt (e := fun _ => true) hl.isList hl2.isList rfl hu (fun j h1 h2 => EqAt.same _) ?_
    rw [all_true]
    rw [decide_eq_true rfl] at q
    exact fin_bl I q rfl
  · rw [decide_eq_false (fun z => c (by rw [z]))] at q
    exact eq_list_lengthsAt hl.isList hl2.isList (size_ne c) hu (fin_bl I q rfl)
theorem op_neLL (hu : X.A.units < cLine) : OpR X (compareOp .NotEq) (rNeLL X.K) := by
  intro pins s σ H x y v u Q I rx ry h
  obtain ⟨a, b, as, bs, rfl, rfl, ha, hb, c, q⟩ := h
  cases rx
  cases ry
  obtain ⟨its, rv, hl, _⟩ := I.list ha
  obtain ⟨its2, rv2, hl2, _⟩ := I.list hb
  obtain rfl := vals_refs rv
  obtain rfl := vals_refs rv2
  rcases c with rfl | c
  · refine RcNeAt.lists (e := fun _ => true) hl.isList hl2.isList rfl hu (fun j h1 h2 => EqAt.same _) X.prog X.w X.xe _ ?_
    rw [all_true]
    rw [decide_eq_true rfl] at q
    exact fin_bl I q rfl
  · rw [decide_eq_false (fun z => c (by rw [z]))] at q
    exact RcNeAt.lists_lengths hl.isList hl2.isList (size_ne c) hu X.prog X.w X.xe _ (fin_bl I q rfl)
end
end RX

set_option Elab.async false
set_option linter.all false
set_option maxRecDepth 100000
set_option maxHeartbeats 4000000
/-! How long the text of a number is. -/
namespace RN
open PySem PySem.Spec PyProof.Rows L2
theorem log2_div (n : Nat) (h : 10 ≤ n) : (n / 10).log2 + 1 ≤ n.log2 := by
  have h1 : n / 10 ≤ n / 2 := by omega
  have h2 : n / 10 ≠ 0 := by omega
  have h3 : n ≠ 0 := by omega
  have h4 := Nat.log2_self_le h2
  have h5 : 2 ^ ((n / 10).log2 + 1) ≤ n := by rw [Nat.pow_succ]; omega
  exact (Nat.le_log2 h3).mpr h5
theorem len_numL (n : Nat) : (TL.numL n).length ≤ n.log2 + 1 := by
  induction n using Nat.strongRecOn with
  | ind n ih =>
    by_cases h : n < 10
    · rw [TL.numL_lt h]; simp
    · have h : 10 ≤ n := by omega
      rw [TL.numL_step h, List.length_append]
      have := ih (n / 10) (by omega)
      have := log2_div n h
      simp only [List.length_singleton]
      omega
theorem len_toString (i : Int) : (Str.ofString (toString i)).length ≤ i.natAbs.log2 + 2 := by
  cases i with
  | ofNat n =>
    have e := TL.tl_num n
    rw [TL.len_tl]
    show (TL.tl (Str.ofString (toString ((n : Nat) : Int)))).length ≤ _
    rw [e]
    have := len_numL n
    show _ ≤ n.log2 + 2
    omega
  | negSucc n =>
    have e := TL.tl_num (n + 1)
    have e2 : toString (Int.negSucc n) = "-" ++ toString (((n + 1 : Nat)) : Int) := rfl
    rw [TL.len_tl, e2]
    have e3 : TL.tl (Str.ofString ("-" ++ toString (((n + 1 : Nat)) : Int))) = 45 :: TL.tl (Str.ofString (toString (((n + 1 : Nat)) : Int))) := by
      show (Str.ofString _).cps.toList = 45 :: (Str.ofString _).cps.toList
      rw [signs_ofString, signs_ofString, String.toList_append, List.map_append]; rfl
    rw [e3, e, List.length_cons]
    have := len_numL (n + 1)
    show _ ≤ (n + 1).log2 + 2
    omega
end RN

set_option Elab.async false
set_option linter.all false
set_option maxRecDepth 100000
set_option maxHeartbeats 4000000
/-! Further rules: a list and an empty one. -/
namespace RY
open PySem PySem.Spec PyProof.Rows PySem.SeqAt L2
open RD
def rEqE (K : PySem.W.Frag) : R2 := fun x y H Q => ∃ (a b : Addr) (xs : List V), x = .ref a ∧ y = .ref b ∧ SqL K H a xs ∧ SqL K H b [] ∧ Q (.bl (xs.isEmpty)) H
def rNeE (K : PySem.W.Frag) : R2 := fun x y H Q => ∃ (a b : Addr) (xs : List V), x = .ref a ∧ y = .ref b ∧ SqL K H a xs ∧ SqL K H b [] ∧ Q (.bl (!xs.isEmpty)) H
section
variable {X : Cx}
theorem vals_nil {us : List Value} (h : Vals [] us) : us = [] := by cases h; rfl
theorem vals_cons {x : V} {xs : List V} {us : List Value} (h : Vals (x :: xs) us) : (us.toArray.size != (([] : List Value)).toArray.size) = true := by cases h; simp
theorem op_eqE (hu : X.A.units < cLine) : OpR X (compareOp .Eq) (rEqE X.K) := by
  intro pins s σ H x y v u Q I rx ry h
  obtain ⟨a, b, xs, rfl, rfl, ha, hb, q⟩ := h
  cases rx
  cases ry
  obtain ⟨its, rv, hl, _⟩ := I.list ha
  obtain ⟨its2, rv2, hl2, _⟩ := I.list hb
  obtain rfl := vals_nil rv2
  cases xs with
  | nil =>
    obtain rfl := vals_nil rv
    refine eq_listAt (e := fun _ => true) hl.isList hl2.isList rfl hu (fun j h1 h2 => EqAt.same _) ?_
    rw [all_true]
    exact fin_bl I q rfl
  | cons x xs => exact eq_list_lengthsAt hl.isList hl2.isList (vals_cons rv) hu (fin_bl I q rfl)
theorem op_neE (hu : X.A.units < cLine) : OpR X (compareOp .NotEq) (rNeE X.K) := by
  intro pins s σ H x y v u Q I rx ry h
  obtain ⟨a, b, xs, rfl, rfl, ha, hb, q⟩ := h
  cases rx
  cases ry
  obtain ⟨its, rv, hl, _⟩ := I.list ha
  obtain ⟨its2, rv2, hl2, _⟩ := I.list hb
  obtain rfl := vals_nil rv2
  cases xs with
  | nil =>
    obtain rfl := vals_nil rv
    refine RcNeAt.lists (e := fun _ => true) hl.isList hl2.isList rfl hu (fun j h1 h2 => EqAt.same _) X.prog X.w X.xe _ ?_
    rw [all_true]
    exact fin_bl I q rfl
  | cons x xs => exact RcNeAt.lists_lengths hl.isList hl2.isList (vals_cons rv) hu X.prog X.w X.xe _ (fin_bl I q rfl)

def flatW : V → Bool
  | .int _ => true
  | .bl _ => true
  | .str _ => true
  | .non => true
  | .ref _ => true
  | _ => false
/-- two lists of the same plain values -/
def rEqV (K : PySem.W.Frag) : R2 := fun x y H Q => ∃ (a b : Addr) (xs : List V), x = .ref a ∧ y = .ref b ∧ SqL K H a xs ∧ SqL K H b xs ∧ xs.all flatW = true ∧ Q (.bl true) H
def rNeV (K : PySem.W.Frag) : R2 := fun x y H Q => ∃ (a b : Addr) (xs : List V), x = .ref a ∧ y = .ref b ∧ SqL K H a xs ∧ SqL K H b xs ∧ xs.all flatW = true ∧ Q (.bl false) H
theorem eq_same {A : Around} {s : Shared} {x : V} {u u' : Value} (h : RelV x u) (h' : RelV x u') (hf : flatW x = true) : EqAt A s u u' true := by
  cases x with
  | int i =>
    obtain ⟨t, rfl⟩ := h
    obtain ⟨t', rfl⟩ := h'
    have e := EqAt.int_int (A := A) (s := s) i t i t'
    rw [beq_self_eq_true] at e; exact e
  | str i =>
    obtain ⟨t, rfl⟩ := h
    obtain ⟨t', rfl⟩ := h'
    have e := EqAt.str_str (A := A) (s := s) i t i t'
    rw [beq_self_eq_true] at e; exact e
  | bl b => cases h; cases h'; exact EqAt.same _
  | non => cases h; cases h'; exact EqAt.same _
  | ref a => cases h; cases h'; exact EqAt.same _
  | _ => cases hf
theorem eq_all {A : Around} {s : Shared} : ∀ {xs : List V} {us us' : List Value}, Vals xs us → Vals xs us' → xs.all flatW = true → us.length = us'.length ∧ ∀ (j : Nat) (h1 : j < us.length) (h2 : j < us'.length), EqAt A s us[j] us'[j] true
  | [], _, _, .nil, .nil, _ => ⟨rfl, fun j h1 _ => absurd h1 (Nat.not_lt_zero _)⟩
  | x :: xs, _, _, .cons h t, .cons h' t', hf => by
    rw [List.all_cons, Bool.and_eq_true] at hf
    have ih := eq_all (A := A) (s := s) t t' hf.2
    refine ⟨congrArg (· + 1) ih.1, fun j h1 h2 => ?_⟩
    cases j with
    | zero => exact eq_same h h' hf.1
    | succ j => exact ih.2 j (Nat.lt_of_succ_lt_succ h1) (Nat.lt_of_succ_lt_succ h2)
theorem all_tt (n : Nat) : (List.range n).all (fun _ => true) = true := by simp
theorem op_eqV (hu : X.A.units < cLine) : OpR X (compareOp .Eq) (rEqV X.K) := by
  intro pins s σ H x y v u Q I rx ry h
  obtain ⟨a, b, xs, rfl, rfl, ha, hb, hf, q⟩ := h
  cases rx
  cases ry
  obtain ⟨its, rv, hl, _⟩ := I.list ha
  obtain ⟨its2, rv2, hl2, _⟩ := I.list hb
  have e := eq_all (A := X.A.in1) (s := s) rv rv2 hf
  refine eq_listAt (e := fun _ => true) hl.isList hl2.isList (by simpa using e.1) hu (fun j h1 h2 => by simpa using e.2 j (by simpa using h1) (by simpa using h2)) ?_
  rw [all_tt]
  exact fin_bl I q rfl
theorem op_neV (hu : X.A.units < cLine) : OpR X (compareOp .NotEq) (rNeV X.K) := by
  intro pins s σ H x y v u Q I rx ry h
  obtain ⟨a, b, xs, rfl, rfl, ha, hb, hf, q⟩ := h
  cases rx
  cases ry
  obtain ⟨its, rv, hl, _⟩ := I.list ha
  obtain ⟨its2, rv2, hl2, _⟩ := I.list hb
  have e := eq_all (A := X.A.in1) (s := s) rv rv2 hf
  refine RcNeAt.lists (e := fun _ => true) hl.isList hl2.isList (by simpa using e.1) hu (fun j h1 h2 => by simpa using e.2 j (by simpa using h1) (by simpa using h2)) X.prog X.w X.xe _ ?_
  rw [all_tt]
  exact fin_bl I q rfl
end
end RY

set_option Elab.async false
set_option linter.all false
set_option maxRecDepth 100000
set_option maxHeartbeats 0
namespace K17
open PySem PySem.Spec PyProof.Rows L2 RC
section
variable {P : Program} {w : World} {K : PySem.W.Frag} {mg : Str → Option Value} {base : Heap}
theorem dp_ints {K : PySem.W.Frag} {H : Hp} : ∀ ns : List Int, DpAll K H (ns.map V.int) (ns.map PyData.int)
  | [] => .nil
  | n :: r => .cons (.int n) (dp_ints r)
theorem can_ints : ∀ ns : List Int, PyData.canLayAll0 (ns.map PyData.int) = true
  | [] => by simp [PyData.canLayAll0]
  | n :: r => by simp [PyData.canLayAll0, PyData.canLay0, can_ints r]
theorem dep_ints : ∀ ns : List Int, PyData.depthAll (ns.map PyData.int) = 0
  | [] => by simp [PyData.depthAll]
  | n :: r => by simp [PyData.depthAll, PyData.depth, dep_ints r]
theorem sh_ints (ns : List Int) : SeqAt.shaped (.list (ns.map PyData.int)) = true := by
  unfold SeqAt.shaped
  simp [PyData.canLay0, PyData.depth, can_ints, dep_ints]
theorem seq0 (v : Int) (r : List Int) : seqIndex? 0 ((v :: r).map V.int).length = some 0 := by
  unfold seqIndex?
  simp
def spDraw : Sp := fun vs H Q _ => ∃ (s l : Addr) (n : Nat) (many : Int), vs = [.ref s, .int many] ∧ Stm H s l n ∧ n ≤ 1000000 ∧ 1 ≤ many ∧ many < 1073741824 ∧
  ∀ (H' : Hp) (d : Int), Old s l H H' → Stm H' s l (n + 1) → 0 ≤ d → d < many → Q (.int d) H'
theorem old_upd {s l : Addr} {H H' : Hp} {a : Addr} {o : HO} (h : Old s l H H') (ha : a = s ∨ a = l ∨ H' a = none) : Old s l H (upd H' a o) := fun b u h1 h2 e => by
  have e2 := h b u h1 h2 e
  have hb : b ≠ a := by
    rintro rfl
    rcases ha with z | z | z
    · exact h1 z
    · exact h2 z
    · rw [z] at e2; cases e2
  rw [upd_ne hb]; exact e2
theorem stm_small {d c : Int} (h : 0 ≤ d) (h1 : d < 2147483647) (h2 : 0 ≤ c) (h3 : c ≤ 1000001) : (d + 104729 * c + 17).natAbs < 2 ^ 64 := by omega
theorem stm_small2 {m c : Int} (h : 0 ≤ m) (h1 : m < 2147483629) (h2 : 0 ≤ c) (h3 : c ≤ 1000001) : (m * 48271 + 40503 * c * c + 13).natAbs < 2 ^ 64 := by
  have q1 : 0 ≤ 40503 * c * c := Int.mul_nonneg (by omega) h2
  have q2 : 40503 * c * c ≤ 40503 * c * 1000001 := Int.mul_le_mul_of_nonneg_left h3 (by omega)
  omega
theorem ok_draw {f : Addr} (T : Txt P w K mg) (F : Stands K "_law_draw" "_law_draw" s__law_draw [] f) : Callable P w K mg base 1 f ["_law_stream", "_law_many"] [] spDraw := by
  refine F.call0 sc__law_draw (fun vs H Q E h => ?_) (fun cdv A outer s H vs Q E hr h => ?_) (fun _ _ _ _ _ _ us hl => match us, hl with | [_, _], _ => rfl)
  · obtain ⟨s, l, n, m, rfl, _⟩ := h
    rfl
  obtain ⟨p, l, n, many, rfl, hS, hn, hm1, hm2, hQ⟩ := h
  refine ⟨_, (pss_cons (ps_while PassesOwn.never (PW.pt (pw_and (pt_cmpR op_eq (pe_ix ix_list (pv 0) pe_int (fun _ _ => rfl)) pe_int (nomark _)) (pw_and1 (pt_cmpR (op_neD hr.units) (pe_ix ix_list (pv 0) pe_int (fun _ _ => rfl)) (pe_lst pa_nil) (nomark _))))) (pss_cons (ps_asg (pe_bm PySem.F.plainAttrs_list PySem.F.slot_list_pop PySem.F.type_list_pop mt_popAt (pe_ix ix_list (pv 0) pe_int (fun _ _ => rfl)) (pa_cons pe_int pa_nil)) (pg_sub (pv 0) pe_int set_list))
      (pss_one (ps_if (pt_cmpR op_lt (pe_ix ix_list (pv 0) pe_int (fun _ _ => rfl)) (pe_op op_pow pe_int pe_int) (nomark _)) (pss_cons (ps_asg (pe_op op_mod (pe_callTy call_int1 (by rfl) T.b_int (by decide +kernel) (pa_cons (pe_op op_add (pe_op op_add (pe_op op_mul (pe_ix ix_list (pv 0) pe_int (fun _ _ => rfl)) pe_int) (pe_ix ix_list (pv 0) pe_int (fun _ _ => rfl))) pe_int) pa_nil)) pe_int) (pg_sub (pv 0) pe_int set_list))
      (pss_one (ps_asg pe_int (pg_sub (pv 0) pe_int set_list)))) pss_nil))))
      (pss_cons (ps_if (pt_cmpR op_gt (pe_ix ix_list (pv 0) pe_int (fun _ _ => rfl)) pe_int (nomark _)) (pss_cons (ps_set (i := 2) sc__law_draw.nd rfl (by first | exact Or.inl rfl | exact Or.inr rfl) (pe_op op_mod (pe_callTy call_int1 (by rfl) T.b_int (by decide +kernel) (pa_cons (pe_ix ix_list (pv 0) pe_int (fun _ _ => rfl)) pa_nil)) (pv 1)))
      (pss_cons (ps_asg (pe_op op_fdiv (pe_ix ix_list (pv 0) pe_int (fun _ _ => rfl)) (pv 1)) (pg_sub (pv 0) pe_int set_list))
      (pss_one (ps_ret (pv 2))))) pss_nil)
      (pss_cons (ps_asg (pe_op op_add (pe_ix ix_list (pv 0) pe_int (fun _ _ => rfl)) pe_int) (pg_sub (pv 0) pe_int set_list))
      (pss_cons (ps_set (i := 3) sc__law_draw.nd rfl (by first | exact Or.inl rfl | exact Or.inr rfl) (pe_op op_mod (pe_callTy call_int1 (by rfl) T.b_int (by decide +kernel) (pa_cons (pe_op op_pow (pe_op op_add (pe_op op_add (pe_ix ix_list (pv 0) pe_int (fun _ _ => rfl)) (pe_op op_mul pe_int (pe_ix ix_list (pv 0) pe_int (fun _ _ => rfl)))) pe_int) pe_int) pa_nil)) pe_int))
      (pss_cons (ps_set (i := 4) sc__law_draw.nd rfl (by first | exact Or.inl rfl | exact Or.inr rfl) (pe_op op_mod (pe_callTy call_int1 (by rfl) T.b_int (by decide +kernel) (pa_cons (pe_op op_pow (pe_op op_add (pe_op op_add (pe_op op_mul (pv 3) pe_int) (pe_op op_mul (pe_op op_mul pe_int (pe_ix ix_list (pv 0) pe_int (fun _ _ => rfl))) (pe_ix ix_list (pv 0) pe_int (fun _ _ => rfl)))) pe_int) pe_int) pa_nil)) pe_int))
      (pss_one (ps_ret (pe_op op_mod (pe_callTy call_int1 (by rfl) T.b_int (by decide +kernel) (pa_cons (pv 4) pa_nil)) (pv 1))))))))), ?_⟩
  obtain ⟨hne, ns, x, c, d, h1, h2, h3, h4, h5, h6, h7, h8⟩ := hS
  refine ⟨fun m σ H' => σ = [some (.ref p), some (.int many), none, none, none] ∧ Old p l H H' ∧ ∃ (ns : List Int) (x c d : Int), m = ns.length ∧ H' p = some (.lst [.ref l, .int x, .int c, .int d]) ∧ H' l = some (.lst (ns.map V.int)) ∧ ns.length ≤ 63 ∧ 0 ≤ x ∧ 0 ≤ c ∧ c ≤ n ∧ 0 ≤ d ∧ d < 2147483647,
    ⟨_, rfl, Old.refl _, ns, x, c, d, rfl, h1, h2, h3, h4, h5, h6, h7, h8⟩, ?_⟩
  clear h1 h2 h3 h4 h5 h6 h7 h8 ns x c d
  rintro m σ H1 ⟨rfl, hO, ns, x, c, d, rfl, h1, h2, h3, h4, h5, h6, h7, h8⟩
  refine ⟨_, rfl, p, _, _, _, rfl, rfl, SqL.of h1, rfl, rfl, _, rfl, ?_⟩
  by_cases hx : x = 0
  · subst hx
    refine iteT' (decide_eq_true rfl) ?_
    refine ⟨_, rfl, p, _, _, _, rfl, rfl, SqL.of h1, rfl, (by show 0 ≤ sizeLine; decide), fun q hq => ?_⟩
    have g1 : upd H1 q (.lst []) p = some (.lst [.ref l, .int 0, .int c, .int d]) := by rw [upd_ne (ne_of_none h1 hq)]; exact h1
    have g2 : upd H1 q (.lst []) l = some (.lst (ns.map V.int)) := by rw [upd_ne (ne_of_none h2 hq)]; exact h2
    have gO : Old p l H (upd H1 q (.lst [])) := old_upd hO (.inr (.inr hq))
    refine ⟨_, _, Dp.lst (SqL.of g2) (dp_ints ns), Dp.lst (SqL.of upd_same) .nil, sh_ints ns, by decide +kernel, _, rfl, ?_⟩
    generalize upd H1 q (.lst []) = H2 at g1 g2 gO
    cases ns with
    | cons v r =>
      refine iteT' (by rfl) ?_
      refine ⟨fun σ' H' => ∃ m', m' < (v :: r).length ∧ (σ' = [some (.ref p), some (.int many), none, none, none] ∧ Old p l H H' ∧ ∃ (ns : List Int) (x c d : Int), m' = ns.length ∧ H' p = some (.lst [.ref l, .int x, .int c, .int d]) ∧ H' l = some (.lst (ns.map V.int)) ∧ ns.length ≤ 63 ∧ 0 ≤ x ∧ 0 ≤ c ∧ c ≤ n ∧ 0 ≤ d ∧ d < 2147483647), fun σ' H' z => z, ?_⟩
      -- s[1] = s[0].pop(0)
      refine ⟨_, rfl, p, _, _, _, rfl, rfl, SqL.of g1, rfl, .inl ⟨rfl, _, SqL.of g2⟩, l, (v :: r).map V.int, 0, 0, .int v, rfl, rfl, g2, by decide, by decide, seq0 _ _, rfl, ?_⟩
      generalize e3 : upd H2 l _ = H3
      have k1 : H3 p = some (.lst [.ref l, .int 0, .int c, .int d]) := by rw [← e3, upd_ne hne]; exact g1
      have kO : Old p l H H3 := by rw [← e3]; exact old_upd gO (.inr (.inl rfl))
      have k2 : H3 l = some (.lst (r.map V.int)) := by rw [← e3]; exact upd_same
      clear e3
      refine ⟨_, rfl, p, _, 1, 1, rfl, rfl, k1, rfl, ?_⟩
      generalize e4 : upd H3 p _ = H4
      have j1 : H4 p = some (.lst [.ref l, .int v, .int c, .int d]) := by rw [← e4]; exact upd_same
      have j2 : H4 l = some (.lst (r.map V.int)) := by rw [← e4, upd_ne (Ne.symm hne)]; exact k2
      have jO : Old p l H H4 := by rw [← e4]; exact old_upd kO (.inl rfl)
      clear e4
      have hl : r.length ≤ 63 := Nat.le_of_succ_le h3
      refine ⟨_, rfl, p, _, _, _, rfl, rfl, SqL.of j1, rfl, _, _, rfl, rfl, ⟨by decide, by decide, by decide⟩, _, _, rfl, rfl, _, rfl, ?_⟩
      refine ite2 (fun hv => ?_) (fun hv => ?_)
      · -- s[3] = int(..) % 2147483647
        refine ⟨_, rfl, p, _, _, _, rfl, rfl, SqL.of j1, rfl, _, _, rfl, rfl, .inr ⟨by decide, by decide⟩, _, rfl, p, _, _, _, rfl, rfl, SqL.of j1, rfl, _, _, rfl, rfl, _, _, rfl, rfl, .inl ⟨_, rfl, _, _, rfl, rfl, (by show (0 : Int) < 2147483647; decide), _, rfl, p, _, 3, 3, rfl, rfl, j1, rfl, ?_⟩⟩
        have m1 := Int.emod_nonneg (d * 31 + v + 7) (show (2147483647 : Int) ≠ 0 by decide)
        have m2 := Int.emod_lt_of_pos (d * 31 + v + 7) (show (0 : Int) < 2147483647 by decide)
        refine ⟨_, rfl, p, _, 1, 1, rfl, rfl, upd_same, rfl, r.length, Nat.lt_succ_self _, rfl, old_upd (old_upd jO (.inl rfl)) (.inl rfl), r, 0, c, (d * 31 + v + 7) % 2147483647, rfl, upd_same, ?_, hl, Int.le_refl 0, h5, h6, m1, m2⟩
        rw [upd_ne (Ne.symm hne), upd_ne (Ne.symm hne)]; exact j2
      · have hv : 10 ^ 18 ≤ v := by
          have z : ¬ v < 10 ^ (18 : Int).toNat := fun z => hv (decide_eq_true z)
          have e : (18 : Int).toNat = 18 := rfl
          rw [e] at z; omega
        exact ⟨r.length, Nat.lt_succ_self _, rfl, jO, r, v, c, d, rfl, j1, j2, hl, by omega, h5, h6, h7, h8⟩
    | nil =>
      refine iteF' (by rfl) ?_
      refine ⟨_, rfl, p, _, _, _, rfl, rfl, SqL.of g1, rfl, _, _, rfl, rfl, _, rfl, ?_⟩
      refine iteF' (by rfl) ?_
      -- s[2] = s[2] + 1
      refine ⟨_, rfl, p, _, _, _, rfl, rfl, SqL.of g1, rfl, _, _, rfl, rfl, _, rfl, p, _, 2, 2, rfl, rfl, g1, rfl, ?_⟩
      generalize e3 : upd H2 p _ = H3
      have a1 : H3 p = some (.lst [.ref l, .int 0, .int (c + 1), .int d]) := by rw [← e3]; exact upd_same
      have a2 : H3 l = some (.lst (([] : List Int).map V.int)) := by rw [← e3, upd_ne (Ne.symm hne)]; exact g2
      have aO : Old p l H H3 := by rw [← e3]; exact old_upd gO (.inl rfl)
      have hc : c + 1 ≤ 1000001 := by omega
      clear e3
      refine ⟨_, rfl, p, _, _, _, rfl, rfl, SqL.of a1, rfl, _, rfl, p, _, _, _, rfl, rfl, SqL.of a1, rfl, _, _, rfl, rfl, .inl ⟨by decide, by decide⟩, _, _, rfl, rfl, _, _, rfl, rfl, _, _, rfl, rfl, ⟨by decide, by decide, stm_small h7 h8 (by omega) hc⟩, .inl ⟨_, rfl, _, _, rfl, rfl, (by show (0 : Int) < 2147483629; decide), ?_⟩⟩
      have m1 := Int.emod_nonneg ((d + 104729 * (c + 1) + 17) ^ (5 : Int).toNat) (show (2147483629 : Int) ≠ 0 by decide)
      have m2 := Int.emod_lt_of_pos ((d + 104729 * (c + 1) + 17) ^ (5 : Int).toNat) (show (0 : Int) < 2147483629 by decide)
      refine ⟨_, rfl, _, _, rfl, rfl, .inr ⟨by decide, by decide⟩, _, rfl, p, _, _, _, rfl, rfl, SqL.of a1, rfl, _, _, rfl, rfl, .inl ⟨by decide, by decide⟩, _, rfl, p, _, _, _, rfl, rfl, SqL.of a1, rfl, _, _, rfl, rfl, .inr ⟨by omega, by omega⟩, _, _, rfl, rfl, _, _, rfl, rfl, _, _, rfl, rfl, ⟨by decide, by decide, stm_small2 m1 m2 (by omega) hc⟩, .inl ⟨_, rfl, _, _, rfl, rfl, (by show (0 : Int) < 1000000007; decide), ?_⟩⟩
      refine ⟨_, rfl, .inl ⟨_, rfl, _, rfl, _, _, rfl, rfl, (by show (0 : Int) < many; omega), ?_⟩⟩
      exact hQ _ _ aO ⟨hne, [], 0, c + 1, d, a1, a2, Nat.zero_le _, Int.le_refl 0, by omega, by omega, h7, h8⟩ (Int.emod_nonneg _ (by omega)) (Int.emod_lt_of_pos _ (by omega))
  · refine iteF' (decide_eq_false fun z => hx (V.int.inj z)) ?_
    have hx1 : 0 < x := by omega
    refine ⟨_, rfl, p, _, _, _, rfl, rfl, SqL.of h1, rfl, _, _, rfl, rfl, _, rfl, ?_⟩
    refine iteT' (decide_eq_true hx1) ?_
    refine ⟨_, rfl, p, _, _, _, rfl, rfl, SqL.of h1, rfl, .inl ⟨_, rfl, _, rfl, _, _, rfl, rfl, (by show (0 : Int) < many; omega), ?_⟩⟩
    refine ⟨_, rfl, p, _, _, _, rfl, rfl, SqL.of h1, rfl, _, rfl, _, _, rfl, rfl, ⟨by omega, by omega⟩, _, rfl, p, _, 1, 1, rfl, rfl, h1, rfl, _, rfl, ?_⟩
    refine hQ _ _ (old_upd hO (.inl rfl)) ⟨hne, ns, x / many, c, d, upd_same, by rw [upd_ne (Ne.symm hne)]; exact h2, h3, Int.ediv_nonneg h4 (by omega), h5, by omega, h7, h8⟩ (Int.emod_nonneg _ (by omega)) (Int.emod_lt_of_pos _ (by omega))
end
end K17

set_option Elab.async false
set_option linter.all false
set_option maxRecDepth 100000
set_option maxHeartbeats 0
namespace K17
open PySem PySem.Spec PyProof.Rows L2 RC
section
variable {P : Program} {w : World} {K : PySem.W.Frag} {mg : Str → Option Value} {base : Heap}
/-- all but p is as it was -/
def SameBut (p : Addr) (H H' : Hp) : Prop := ∀ b o, b ≠ p → H b = some o → H' b = some o
theorem SameBut.trans {p : Addr} {H H1 H2 : Hp} (a : SameBut p H H1) (b : SameBut p H1 H2) : SameBut p H H2 := fun c o h e => b c o h (a c o h e)
theorem SameBut.of {p : Addr} {H H' : Hp} (a : Same H H') : SameBut p H H' := fun c o _ e => a c o e
theorem SameBut.put {p : Addr} {H : Hp} {o : HO} : SameBut p H (upd H p o) := fun c u h e => by rw [upd_ne h]; exact e
theorem made_same {H H' : Hp} {x dx C : Addr} {o : HO} {fs : List (Str × V)} (hx : H x = none) (hd : H dx = none) (b : SameBut x (upd (upd H dx o) x (.ins C dx fs)) H') : Same H H' := fun c u e => by
  have h1 : c ≠ x := ne_of_none e hx
  have h2 : c ≠ dx := ne_of_none e hd
  exact b c u h1 (by rw [upd_ne h1, upd_ne h2]; exact e)
def spFiltererInit (K : PySem.W.Frag) : Sp := fun vs H Q _ => ∃ (C p dx : Addr) (fs : List (Str × V)), vs = [.ref p] ∧ H p = some (.ins C dx fs) ∧ Cls K C ∧ NoAttr K C "filters" ∧ fs.length < 100 ∧ ∀ l, H l = none → Q .non (upd (upd H l (.lst [])) p (.ins C dx (putF "filters" (.ref l) fs)))
theorem ok_filterer_init {f : Addr} (T : Txt P w K mg) (F : Stands K "__init__" "Filterer.__init__" s_Filterer_init [] f) : Callable P w K mg base 1 f ["self"] [] (spFiltererInit K) := by
  refine F.call0 sc_Filterer_init (fun vs H Q E h => ?_) (fun cdv A outer s H vs Q E hr h => ?_) (fun _ _ _ _ _ _ us hl => match us, hl with | [_], _ => rfl)
  · obtain ⟨C, p, dx, fs, rfl, _⟩ := h; rfl
  obtain ⟨C, p, dx, fs, rfl, hp, c, n, hl, hQ⟩ := h
  refine ⟨_, (pss_one (ps_fld (pv 0) (pe_lst pa_nil) rfl)), ?_⟩
  refine ⟨(by show 0 ≤ sizeLine; decide), fun l hl' => ?_⟩
  exact ⟨_, rfl, p, C, dx, fs, rfl, (by rw [upd_ne (ne_of_none hp hl')]; exact hp), c, n, (by omega), hQ l hl'⟩
end
end K17

set_option Elab.async false
set_option linter.all false
set_option maxRecDepth 100000
set_option maxHeartbeats 0
namespace K17
open PySem PySem.Spec PyProof.Rows L2 RC
section
variable {P : Program} {w : World} {K : PySem.W.Frag} {mg : Str → Option Value} {base : Heap}
/-! ### what is made -/
abbrev CY (K : PySem.W.Frag) : Addr := He.ga K "Yard"
abbrev CL (K : PySem.W.Frag) : Addr := He.ga K "Logger"
def spEnrol (K : PySem.W.Frag) : Sp := fun vs H Q _ => ∃ (y h dy m : Addr) (fs : List (Str × V)) (xs : List V), vs = [.ref y, .ref h] ∧ H y = some (.ins (CY K) dy fs) ∧ fs.lookup ("made" : Str) = some (.ref m) ∧ H m = some (.lst xs) ∧ xs.length ≤ 1000 ∧ Q .non (upd H m (.lst (xs ++ [.ref h])))
theorem ok_enrol {f : Addr} (T : Txt P w K mg) (F : Stands K "enrol" "Yard.enrol" s_Yard_enrol [] f) : Callable P w K mg base 1 f ["self", "handler"] [] (spEnrol K) := by
  refine F.call0 sc_Yard_enrol (fun vs H Q E h => ?_) (fun cdv A outer s H vs Q E hr h => ?_) (fun _ _ _ _ _ _ us hl => match us, hl with | [_, _], _ => rfl)
  · obtain ⟨y, h, dy, m, fs, xs, rfl, _⟩ := h; rfl
  obtain ⟨y, h, dy, m, fs, xs, rfl, h1, h2, h3, h4, hQ⟩ := h
  refine ⟨_, (pss_one (ps_expr (pe_bm PySem.F.plainAttrs_list PySem.F.slot_list_append PySem.F.type_list_append mt_append (pe_fld (pv 0) rfl) (pa_cons (pv 1) pa_nil)))), ?_⟩
  exact ⟨_, rfl, y, _, dy, fs, _, rfl, h1, T.c_Yard, T.n_Yard_made, h2, .inl ⟨rfl, _, SqL.of h3⟩, _, rfl, m, _, _, rfl, rfl, h3, (by rw [sizeLine_eq]; omega), hQ⟩
/-- what the text says of a class of handlers -/
structure HCls (K : PySem.W.Frag) (C : Addr) : Prop where
  c : Cls K C
  n1 : NoAttr K C "filters"
  n2 : NoAttr K C "yard"
  n3 : NoAttr K C "level"
  n4 : NoAttr K C "formatter"
  n5 : NoAttr K C "name"
  n6 : NoAttr K C "terminator"
  n7 : NoAttr K C "closed"
def hF (l y : Addr) : List (Str × V) := [("filters", .ref l), ("yard", .ref y), ("level", .int 0), ("formatter", .non), ("name", .non), ("terminator", .str "\n"), ("closed", .bl false)]
/-- a handler at p was made: its filters at l; the yard's list of what was made, at m, has it at its end -/
def HMade (K : PySem.W.Frag) (H : Hp) (p C dx y m : Addr) (xs : List V) (H' : Hp) : Prop := ∃ l, (∀ b o, b ≠ p → b ≠ m → H b = some o → H' b = some o) ∧ H l = none ∧ H' p = some (.ins C dx (hF l y)) ∧ H' l = some (.lst []) ∧ H' m = some (.lst (xs ++ [.ref p]))
def spHandlerInit (K : PySem.W.Frag) : Sp := fun vs H Q _ => ∃ (p C dx y dy m : Addr) (fs : List (Str × V)) (xs : List V), vs = [.ref p, .ref y] ∧ H p = some (.ins C dx []) ∧ HCls K C ∧ p ≠ y ∧ H y = some (.ins (CY K) dy fs) ∧ fs.lookup ("made" : Str) = some (.ref m) ∧ fs.lookup ("enrol" : Str) = none ∧ H m = some (.lst xs) ∧ xs.length ≤ 1000 ∧
  ∀ H', HMade K H p C dx y m xs H' → Q .non H'
theorem ok_handler_init {f : Addr} (T : Txt P w K mg) (F : Stands K "__init__" "Handler.__init__" s_Handler_init [] f) (c_Filterer_init : Callable P w K mg base 1 (He.ma K (He.ga K "Filterer") "__init__") ["self"] [] (spFiltererInit K))
    (c_Yard_enrol : Callable P w K mg base 1 (He.ma K (He.ga K "Yard") "enrol") ["self", "handler"] [] (spEnrol K)) : Callable P w K mg base 2 f ["self", "yard"] [] (spHandlerInit K) := by
  refine F.call0 sc_Handler_init (fun vs H Q E h => ?_) (fun cdv A outer s H vs Q E hr h => ?_) (fun _ _ _ _ _ _ us hl => match us, hl with | [_, _], _ => rfl)
  · obtain ⟨p, C, dx, y, dy, m, fs, xs, rfl, _⟩ := h; rfl
  obtain ⟨p, C, dx, y, dy, m, fs, xs, rfl, hp, c, npy, hy, hm, he, hmm, hxs, hQ⟩ := h
  refine ⟨_, (pss_cons (ps_expr (pe_cf T.cf_Filterer_init c_Filterer_init (hr.mono (by first | decide | exact Nat.le_refl _)) (pe_glob (v := .ref _) (by rfl) T.g_Filterer rfl) (pa_cons (pv 0) pa_nil)))
      (pss_cons (ps_fld (pv 0) (pv 1) rfl)
      (pss_cons (ps_fld (pv 0) pe_int rfl)
      (pss_cons (ps_fld (pv 0) pe_non rfl)
      (pss_cons (ps_fld (pv 0) pe_non rfl)
      (pss_cons (ps_fld (pv 0) pe_str rfl)
      (pss_cons (ps_fld (pv 0) pe_bl rfl)
      (pss_one (ps_expr (pe_mt T.c_Yard T.m_Yard_enrol c_Yard_enrol (hr.mono (by first | decide | exact Nat.le_refl _)) (pv 1) (pa_cons (pv 0) pa_nil))))))))))), ?_⟩
  refine ⟨rfl, _, rfl, C, p, dx, [], rfl, hp, c.c, c.n1, (by decide), fun l hl => ?_⟩
  refine ⟨_, rfl, _, rfl, p, C, dx, _, rfl, upd_same, c.c, c.n2, (by show 1 < 1000; decide), ?_⟩
  rw [upd_upd]
  refine ⟨_, rfl, p, C, dx, _, rfl, upd_same, c.c, c.n3, (by show 2 < 1000; decide), ?_⟩
  rw [upd_upd]
  refine ⟨_, rfl, p, C, dx, _, rfl, upd_same, c.c, c.n4, (by show 3 < 1000; decide), ?_⟩
  rw [upd_upd]
  refine ⟨_, rfl, p, C, dx, _, rfl, upd_same, c.c, c.n5, (by show 4 < 1000; decide), ?_⟩
  rw [upd_upd]
  refine ⟨_, rfl, p, C, dx, _, rfl, upd_same, c.c, c.n6, (by show 5 < 1000; decide), ?_⟩
  rw [upd_upd]
  refine ⟨_, rfl, p, C, dx, _, rfl, upd_same, c.c, c.n7, (by show 6 < 1000; decide), ?_⟩
  rw [upd_upd]
  generalize e1 : upd (upd H l (.lst [])) p _ = H1
  have nlp : l ≠ p := fun z => by rw [z, hp] at hl; cases hl
  have npm : p ≠ m := fun z => by rw [z, hmm] at hp; cases hp
  have nlm : l ≠ m := fun z => by rw [z, hmm] at hl; cases hl
  have q1 : H1 p = some (.ins C dx (hF l y)) := by rw [← e1]; exact upd_same
  have q2 : H1 l = some (.lst []) := by rw [← e1, upd_ne nlp]; exact upd_same
  have q3 : ∀ b o, b ≠ p → H b = some o → H1 b = some o := fun b o h1 h2 => by rw [← e1, upd_ne h1]; exact same_new hl _ b o h2
  clear e1
  refine ⟨_, rfl, y, dy, fs, rfl, q3 _ _ (Ne.symm npy) hy, he, _, rfl, y, p, dy, m, fs, xs, rfl, q3 _ _ (Ne.symm npy) hy, hm, q3 _ _ (Ne.symm npm) hmm, hxs, ?_⟩
  exact hQ _ ⟨l, fun b o h1 h2 h3 => by rw [upd_ne h2]; exact q3 b o h1 h3, hl, by rw [upd_ne npm]; exact q1, by rw [upd_ne nlm]; exact q2, upd_same⟩
def spStreamInit (K : PySem.W.Frag) : Sp := fun vs H Q _ => ∃ (p dx y dy m : Addr) (st : Str) (fs : List (Str × V)) (xs : List V), vs = [.ref p, .ref y, .str st] ∧ H p = some (.ins (He.ga K "StreamHandler") dx []) ∧ p ≠ y ∧ H y = some (.ins (CY K) dy fs) ∧ fs.lookup ("made" : Str) = some (.ref m) ∧ fs.lookup ("enrol" : Str) = none ∧ H m = some (.lst xs) ∧ xs.length ≤ 1000 ∧
  ∀ (H' : Hp) (l : Addr), (∀ b o, b ≠ p → b ≠ m → H b = some o → H' b = some o) → H l = none → H' p = some (.ins (He.ga K "StreamHandler") dx (hF l y ++ ([("stream", .str st)] : List (Str × V)))) → H' l = some (.lst []) → H' m = some (.lst (xs ++ [.ref p])) → Q .non H'
theorem ok_stream_init {f : Addr} (T : Txt P w K mg) (F : Stands K "__init__" "StreamHandler.__init__" s_StreamHandler_init [.str "stderr"] f) (c_Handler_init : Callable P w K mg base 2 (He.ma K (He.ga K "Handler") "__init__") ["self", "yard"] [] (spHandlerInit K)) :
    Callable P w K mg base 3 f ["self", "yard", "stream"] [.str "stderr"] (spStreamInit K) := by
  refine F.call sc_StreamHandler_init 2 0 (fun vs H Q E h => ?_) (fun cdv A outer s H vs Q E hr h => ?_) (fun z => nomatch z) fun _ => ⟨rfl, fun _ _ _ _ _ _ _ us its hl hi => match us, hl, its, hi with | [_, _], _, [_], _ => ⟨_, rfl, rfl⟩⟩
  · obtain ⟨p, dx, y, dy, m, st, fs, xs, rfl, _⟩ := h; rfl
  obtain ⟨p, dx, y, dy, m, st, fs, xs, rfl, hp, npy, hy, hm, he, hmm, hxs, hQ⟩ := h
  refine ⟨_, (pss_cons (ps_expr (pe_cf T.cf_Handler_init c_Handler_init (hr.mono (by first | decide | exact Nat.le_refl _)) (pe_glob (v := .ref _) (by rfl) T.g_Handler rfl) (pa_cons (pv 0) (pa_cons (pv 1) pa_nil))))
      (pss_one (ps_fld (pv 0) (pv 2) rfl))), ?_⟩
  have c : HCls K (He.ga K "StreamHandler") := ⟨T.c_StreamHandler, T.n_StreamHandler_filters, T.n_StreamHandler_yard, T.n_StreamHandler_level, T.n_StreamHandler_formatter, T.n_StreamHandler_name, T.n_StreamHandler_terminator, T.n_StreamHandler_closed⟩
  refine ⟨rfl, _, rfl, _, rfl, p, _, dx, y, dy, m, fs, xs, rfl, hp, c, npy, hy, hm, he, hmm, hxs, fun H1 hM => ?_⟩
  obtain ⟨l, k1, k2, k3, k4, k5⟩ := hM
  have nlp : l ≠ p := fun z => by rw [z, hp] at k2; cases k2
  have npm : m ≠ p := fun z => by rw [z, hp] at hmm; cases hmm
  refine ⟨_, rfl, _, rfl, p, _, dx, _, rfl, k3, T.c_StreamHandler, T.n_StreamHandler_stream, (by show 7 < 1000; decide), ?_⟩
  exact hQ _ l (fun b o h1 h2 h3 => by rw [upd_ne h1]; exact k1 b o h1 h2 h3) k2 upd_same (by rw [upd_ne nlp]; exact k4) (by rw [upd_ne npm]; exact k5)
theorem ok_stream_init3 {f : Addr} (T : Txt P w K mg) (F : Stands K "__init__" "StreamHandler.__init__" s_StreamHandler_init [.str "stderr"] f) (c_Handler_init : Callable P w K mg base 2 (He.ma K (He.ga K "Handler") "__init__") ["self", "yard"] [] (spHandlerInit K)) :
    Callable P w K mg base 3 f ["self", "yard", "stream"] [] (spStreamInit K) := by
  refine F.call sc_StreamHandler_init 3 1 (fun vs H Q E h => ?_) (fun cdv A outer s H vs Q E hr h => ?_) (fun z => nomatch z) fun _ => ⟨rfl, fun _ _ _ _ _ _ _ us its hl hi => match us, hl, its, hi with | [_, _, _], _, [_], _ => ⟨_, rfl, rfl⟩⟩
  · obtain ⟨p, dx, y, dy, m, st, fs, xs, rfl, _⟩ := h; rfl
  obtain ⟨p, dx, y, dy, m, st, fs, xs, rfl, hp, npy, hy, hm, he, hmm, hxs, hQ⟩ := h
  refine ⟨_, (pss_cons (ps_expr (pe_cf T.cf_Handler_init c_Handler_init (hr.mono (by first | decide | exact Nat.le_refl _)) (pe_glob (v := .ref _) (by rfl) T.g_Handler rfl) (pa_cons (pv 0) (pa_cons (pv 1) pa_nil))))
      (pss_one (ps_fld (pv 0) (pv 2) rfl))), ?_⟩
  have c : HCls K (He.ga K "StreamHandler") := ⟨T.c_StreamHandler, T.n_StreamHandler_filters, T.n_StreamHandler_yard, T.n_StreamHandler_level, T.n_StreamHandler_formatter, T.n_StreamHandler_name, T.n_StreamHandler_terminator, T.n_StreamHandler_closed⟩
  refine ⟨rfl, _, rfl, _, rfl, p, _, dx, y, dy, m, fs, xs, rfl, hp, c, npy, hy, hm, he, hmm, hxs, fun H1 hM => ?_⟩
  obtain ⟨l, k1, k2, k3, k4, k5⟩ := hM
  have nlp : l ≠ p := fun z => by rw [z, hp] at k2; cases k2
  have npm : m ≠ p := fun z => by rw [z, hp] at hmm; cases hmm
  refine ⟨_, rfl, _, rfl, p, _, dx, _, rfl, k3, T.c_StreamHandler, T.n_StreamHandler_stream, (by show 7 < 1000; decide), ?_⟩
  exact hQ _ l (fun b o h1 h2 h3 => by rw [upd_ne h1]; exact k1 b o h1 h2 h3) k2 upd_same (by rw [upd_ne nlp]; exact k4) (by rw [upd_ne npm]; exact k5)
def lF (l y : Addr) (name : Str) (lev : Int) (h : Addr) (par : V) : List (Str × V) := [("filters", .ref l), ("yard", .ref y), ("name", .str name), ("level", .int lev), ("propagate", .bl true), ("disabled", .bl false), ("handlers", .ref h), ("parent", par)]
def spLoggerInit (K : PySem.W.Frag) : Sp := fun vs H Q _ => ∃ (p dx y : Addr) (name : Str) (lev : Int), vs = [.ref p, .ref y, .str name, .int lev] ∧ H p = some (.ins (CL K) dx []) ∧
  ∀ (H' : Hp) (l h : Addr), SameBut p H H' → H l = none → H h = none → l ≠ h → H' p = some (.ins (CL K) dx (lF l y name lev h .non)) → H' l = some (.lst []) → H' h = some (.lst []) → Q .non H'
theorem ok_logger_init {f : Addr} (T : Txt P w K mg) (F : Stands K "__init__" "Logger.__init__" s_Logger_init [] f) (c_Filterer_init : Callable P w K mg base 1 (He.ma K (He.ga K "Filterer") "__init__") ["self"] [] (spFiltererInit K)) :
    Callable P w K mg base 2 f ["self", "yard", "name", "level"] [] (spLoggerInit K) := by
  refine F.call0 sc_Logger_init (fun vs H Q E h => ?_) (fun cdv A outer s H vs Q E hr h => ?_) (fun _ _ _ _ _ _ us hl => match us, hl with | [_, _, _, _], _ => rfl)
  · obtain ⟨p, dx, y, name, lev, rfl, _⟩ := h; rfl
  obtain ⟨p, dx, y, name, lev, rfl, hp, hQ⟩ := h
  refine ⟨_, (pss_cons (ps_expr (pe_cf T.cf_Filterer_init c_Filterer_init (hr.mono (by first | decide | exact Nat.le_refl _)) (pe_glob (v := .ref _) (by rfl) T.g_Filterer rfl) (pa_cons (pv 0) pa_nil)))
      (pss_cons (ps_fld (pv 0) (pv 1) rfl)
      (pss_cons (ps_fld (pv 0) (pv 2) rfl)
      (pss_cons (ps_fld (pv 0) (pv 3) rfl)
      (pss_cons (ps_fld (pv 0) pe_bl rfl)
      (pss_cons (ps_fld (pv 0) pe_bl rfl)
      (pss_cons (ps_fld (pv 0) (pe_lst pa_nil) rfl)
      (pss_one (ps_fld (pv 0) pe_non rfl))))))))), ?_⟩
  refine ⟨rfl, _, rfl, _, p, dx, [], rfl, hp, T.c_Logger, T.n_Logger_filters, (by decide), fun l hl => ?_⟩
  refine ⟨_, rfl, _, rfl, p, _, dx, _, rfl, upd_same, T.c_Logger, T.n_Logger_yard, (by show 1 < 1000; decide), ?_⟩
  rw [upd_upd]
  refine ⟨_, rfl, _, rfl, p, _, dx, _, rfl, upd_same, T.c_Logger, T.n_Logger_name, (by show 2 < 1000; decide), ?_⟩
  rw [upd_upd]
  refine ⟨_, rfl, _, rfl, p, _, dx, _, rfl, upd_same, T.c_Logger, T.n_Logger_level, (by show 3 < 1000; decide), ?_⟩
  rw [upd_upd]
  refine ⟨_, rfl, p, _, dx, _, rfl, upd_same, T.c_Logger, T.n_Logger_propagate, (by show 4 < 1000; decide), ?_⟩
  rw [upd_upd]
  refine ⟨_, rfl, p, _, dx, _, rfl, upd_same, T.c_Logger, T.n_Logger_disabled, (by show 5 < 1000; decide), ?_⟩
  rw [upd_upd]
  refine ⟨(by show 0 ≤ sizeLine; decide), fun h hh => ?_⟩
  obtain ⟨nhp, hh1⟩ := upd_none hh
  obtain ⟨nhl, hh2⟩ := upd_none hh1
  refine ⟨_, rfl, p, _, dx, _, rfl, (by rw [upd_ne (Ne.symm nhp)]; exact upd_same), T.c_Logger, T.n_Logger_handlers, (by show 6 < 1000; decide), ?_⟩
  refine ⟨_, rfl, p, _, dx, _, rfl, upd_same, T.c_Logger, T.n_Logger_parent, (by show 7 < 1000; decide), ?_⟩
  rw [upd_upd]
  have nlp : l ≠ p := fun z => by rw [z, hp] at hl; cases hl
  refine hQ _ l h (fun b o h1 h2 => ?_) hl hh2 (Ne.symm nhl) upd_same ?_ ?_
  · have n1 : b ≠ h := ne_of_none h2 hh2
    have n2 : b ≠ l := ne_of_none h2 hl
    rw [upd_ne h1, upd_ne n1, upd_ne h1, upd_ne n2]; exact h2
  · rw [upd_ne nlp, upd_ne (Ne.symm nhl), upd_ne nlp]; exact upd_same
  · rw [upd_ne nhp]; exact upd_same
end
end K17

set_option Elab.async false
set_option linter.all false
set_option maxRecDepth 100000
set_option maxHeartbeats 0
namespace K17
open PySem PySem.Spec PyProof.Rows L2 RC
section
variable {P : Program} {w : World} {K : PySem.W.Frag} {mg : Str → Option Value} {base : Heap}
/-! ### levels -/
/-- what a level may be here -/
inductive LvIn where
  | int (i : Int)
  | nm (x : Str)
def LvIn.v : LvIn → V
  | .int i => .int i
  | .nm x => .str x
def spIsInt : Sp := fun vs H Q _ => ∃ v : LvIn, vs = [v.v] ∧ Q (.bl (match v with | .int _ => true | .nm _ => false)) H
theorem ok_is_integer {f : Addr} (T : Txt P w K mg) (F : Stands K "is_integer" "is_integer" s_is_integer [] f) : Callable P w K mg base 1 f ["thing"] [] spIsInt := by
  refine F.call0 sc_is_integer (fun vs H Q E h => ?_) (fun cdv A outer s H vs Q E hr h => ?_) (fun _ _ _ _ _ _ us hl => match us, hl with | [_], _ => rfl)
  · obtain ⟨v, rfl, _⟩ := h; rfl
  obtain ⟨v, rfl, hQ⟩ := h
  refine ⟨_, (pss_one (ps_ret (pe_and (pe_callB call_isi (by rfl) T.b_isinstance (by decide +kernel) (pa_cons (pv 0) (pa_cons (pe_bltn (v := .ty "int") (u := .type "int") (by rfl) T.b_int (by decide +kernel) rfl) pa_nil))) (pe_one (pe_not (pe_callB call_isi (by rfl) T.b_isinstance (by decide +kernel) (pa_cons (pv 0) (pa_cons (pe_bltn (v := .ty "bool") (u := .type "bool") (by rfl) T.b_bool (by decide +kernel) rfl) pa_nil)))))))), ?_⟩
  cases v with
  | int i =>
    refine ⟨_, rfl, _, _, _, _, true, rfl, .ty _, .base (.int i), kit_ty (b := "int") (by decide +kernel), _, rfl, iteT ?_⟩
    exact ⟨_, rfl, _, _, _, _, false, rfl, .ty _, .base (.int i), kit_ty (b := "bool") (by decide +kernel), _, rfl, hQ⟩
  | nm x =>
    exact ⟨_, rfl, _, _, _, _, false, rfl, .ty _, .base (.str x), kit_ty (b := "int") (by decide +kernel), _, rfl, iteF hQ⟩
/-- the number of a level by the yard's table -/
def lvNum (nums : List (Key × V)) : LvIn → Option V
  | .int i => some (.int i)
  | .nm x => valV nums (Sum.inr x)
def spLevelOf (K : PySem.W.Frag) : Sp := fun vs H Q _ => ∃ (y dy nu : Addr) (fs : List (Str × V)) (nums : List (Key × V)) (v : LvIn) (r : V), vs = [.ref y, v.v] ∧ H y = some (.ins (CY K) dy fs) ∧ fs.lookup ("numbers_of" : Str) = some (.ref nu) ∧ H nu = some (.dK nums) ∧ lvNum nums v = some r ∧ Q r H
theorem ok_level_of {f : Addr} (T : Txt P w K mg) (F : Stands K "level_of" "Yard.level_of" s_Yard_level_of [] f) (c_is_integer : Callable P w K mg base 1 (He.ga K "is_integer") ["thing"] [] spIsInt) : Callable P w K mg base 2 f ["self", "level"] [] (spLevelOf K) := by
  refine F.call0 sc_Yard_level_of (fun vs H Q E h => ?_) (fun cdv A outer s H vs Q E hr h => ?_) (fun _ _ _ _ _ _ us hl => match us, hl with | [_, _], _ => rfl)
  · obtain ⟨y, dy, nu, fs, nums, v, r, rfl, _⟩ := h; rfl
  obtain ⟨y, dy, nu, fs, nums, v, r, rfl, hy, hnu, hnums, hr2, hQ⟩ := h
  refine ⟨_, (pss_cons (ps_if (pt_val (pe_fn T.g_is_integer c_is_integer (hr.mono (by first | decide | exact Nat.le_refl _)) (by rfl) (pa_cons (pv 1) pa_nil))) (pss_one (ps_ret (pv 1))) pss_nil)
      (pss_cons (ps_if (PW.pt (pw_and (pt_val (pe_callB call_isi (by rfl) T.b_isinstance (by decide +kernel) (pa_cons (pv 1) (pa_cons (pe_bltn (v := .ty "str") (u := .type "str") (by rfl) T.b_str (by decide +kernel) rfl) pa_nil)))) (pw_and1 (pt_cmp (pc_din (hu_of hr) (pv 1) (pe_fld (pv 0) rfl)))))) (pss_one (ps_ret (pe_dget (hu_of hr) (pe_fld (pv 0) rfl) (pv 1) (fun _ _ => rfl)))) pss_nil)
      (pss_one ps_never))), ?_⟩
  cases v with
  | int i =>
    cases hr2
    exact ⟨_, rfl, .int i, rfl, _, rfl, iteT ⟨_, rfl, hQ⟩⟩
  | nm x =>
    have g := DGet.k (k := Sum.inr x) hnums
    rw [show valV nums (Sum.inr x) = some r from hr2] at g
    refine ⟨_, rfl, .nm x, rfl, _, rfl, iteF ?_⟩
    refine ⟨_, rfl, _, _, _, _, true, rfl, .ty _, .base (.str x), kit_ty (b := "str") (by decide +kernel), _, rfl, iteT ?_⟩
    refine ⟨_, rfl, _, rfl, y, _, dy, fs, _, rfl, hy, T.c_Yard, T.n_Yard_numbers_of, hnu, nu, _, rfl, g, _, rfl, iteT' (by rfl) ?_⟩
    exact ⟨_, rfl, y, _, dy, fs, _, rfl, hy, T.c_Yard, T.n_Yard_numbers_of, hnu, _, rfl, nu, _, rfl, g, hQ⟩
end
end K17

set_option Elab.async false
set_option linter.all false
set_option maxRecDepth 100000
set_option maxHeartbeats 0
namespace K17
open PySem PySem.Spec PyProof.Rows L2 RC
section
variable {P : Program} {w : World} {K : PySem.W.Frag} {mg : Str → Option Value} {base : Heap}
/-! ### classes -/
abbrev CR (K : PySem.W.Frag) : Addr := He.ga K "LogRecord"
abbrev CRo (K : PySem.W.Frag) : Addr := He.ga K "StreamHandler"
abbrev CNu (K : PySem.W.Frag) : Addr := He.ga K "NullHandler"
/-- a record of the name rn stands at r -/
def RecName (K : PySem.W.Frag) (H : Hp) (r : Addr) (rn : Str) : Prop := ∃ dx fs, H r = some (.ins (CR K) dx fs) ∧ fs.lookup ("name" : Str) = some (.str rn)
theorem seq_of {a b : TS} {D : Ends} {σ : L2.St} {H : Hp} (Mid : L2.St → Hp → Prop) (hA : ∀ b' : TS, (∀ σ' H', Mid σ' H' → b' D σ' H') → tSeq a b' D σ H) (hB : ∀ σ' H', Mid σ' H' → b D σ' H') : tSeq a b D σ H := hA b hB
end
end K17

set_option Elab.async false
set_option linter.all false
set_option maxRecDepth 100000
set_option maxHeartbeats 0
set_option pp.maxSteps 1000
local macro_rules | `(tactic| walk_at "cls") => `(tactic| first
  | with_reducible exact K17.Txt.c_Logger (by assumption)
  | with_reducible exact K17.Txt.c_StreamHandler (by assumption)
  | with_reducible exact K17.Txt.c_NullHandler (by assumption)
  | with_reducible exact K17.Txt.c_LogRecord (by assumption)
  | with_reducible exact K17.Txt.c_Field (by assumption)
  | with_reducible exact K17.Txt.c_Formatter (by assumption)
  | with_reducible exact K17.Txt.c_Yard (by assumption))
local macro_rules | `(tactic| walk_at "noat") => `(tactic| first
  | with_reducible exact K17.Txt.n_Logger_filters (by assumption)
  | with_reducible exact K17.Txt.n_Logger_yard (by assumption)
  | with_reducible exact K17.Txt.n_Logger_name (by assumption)
  | with_reducible exact K17.Txt.n_Logger_level (by assumption)
  | with_reducible exact K17.Txt.n_Logger_propagate (by assumption)
  | with_reducible exact K17.Txt.n_Logger_disabled (by assumption)
  | with_reducible exact K17.Txt.n_Logger_handlers (by assumption)
  | with_reducible exact K17.Txt.n_Logger_parent (by assumption)
  | with_reducible exact K17.Txt.n_StreamHandler_filters (by assumption)
  | with_reducible exact K17.Txt.n_StreamHandler_yard (by assumption)
  | with_reducible exact K17.Txt.n_StreamHandler_level (by assumption)
  | with_reducible exact K17.Txt.n_StreamHandler_formatter (by assumption)
  | with_reducible exact K17.Txt.n_StreamHandler_name (by assumption)
  | with_reducible exact K17.Txt.n_StreamHandler_terminator (by assumption)
  | with_reducible exact K17.Txt.n_StreamHandler_closed (by assumption)
  | with_reducible exact K17.Txt.n_StreamHandler_stream (by assumption)
  | with_reducible exact K17.Txt.n_NullHandler_filters (by assumption)
  | with_reducible exact K17.Txt.n_NullHandler_yard (by assumption)
  | with_reducible exact K17.Txt.n_NullHandler_level (by assumption)
  | with_reducible exact K17.Txt.n_NullHandler_formatter (by assumption)
  | with_reducible exact K17.Txt.n_NullHandler_name (by assumption)
  | with_reducible exact K17.Txt.n_NullHandler_terminator (by assumption)
  | with_reducible exact K17.Txt.n_NullHandler_closed (by assumption)
  | with_reducible exact K17.Txt.n_LogRecord_name (by assumption)
  | with_reducible exact K17.Txt.n_LogRecord_levelno (by assumption)
  | with_reducible exact K17.Txt.n_LogRecord_levelname (by assumption)
  | with_reducible exact K17.Txt.n_LogRecord_msg (by assumption)
  | with_reducible exact K17.Txt.n_LogRecord_given (by assumption)
  | with_reducible exact K17.Txt.n_LogRecord_created (by assumption)
  | with_reducible exact K17.Txt.n_LogRecord_extra (by assumption)
  | with_reducible exact K17.Txt.n_Field_name (by assumption)
  | with_reducible exact K17.Txt.n_Field_conversion (by assumption)
  | with_reducible exact K17.Txt.n_Field_fill (by assumption)
  | with_reducible exact K17.Txt.n_Field_align (by assumption)
  | with_reducible exact K17.Txt.n_Field_width (by assumption)
  | with_reducible exact K17.Txt.n_Formatter_fmt (by assumption)
  | with_reducible exact K17.Txt.n_Formatter_style (by assumption)
  | with_reducible exact K17.Txt.n_Formatter_parts (by assumption)
  | with_reducible exact K17.Txt.n_Formatter_defaults (by assumption)
  | with_reducible exact K17.Txt.n_Yard_clock (by assumption)
  | with_reducible exact K17.Txt.n_Yard_stream_texts (by assumption)
  | with_reducible exact K17.Txt.n_Yard_file_rows (by assumption)
  | with_reducible exact K17.Txt.n_Yard_names_of (by assumption)
  | with_reducible exact K17.Txt.n_Yard_numbers_of (by assumption)
  | with_reducible exact K17.Txt.n_Yard_bar_level (by assumption)
  | with_reducible exact K17.Txt.n_Yard_logger_map (by assumption)
  | with_reducible exact K17.Txt.n_Yard_made (by assumption)
  | with_reducible exact K17.Txt.n_Yard_handler_names (by assumption)
  | with_reducible exact K17.Txt.n_Yard_failure_rows (by assumption)
  | with_reducible exact K17.Txt.n_Yard_root (by assumption)
  | with_reducible exact K17.Txt.n_Yard_last_resort (by assumption))
local macro_rules | `(tactic| walk_at "hp") => `(tactic| first
  | with_reducible assumption
  | with_reducible exact L2.upd_same
  | ((with_reducible apply RW.at_upd); (focus (walk_at "ne"; done)); (focus (walk_at "hp"; done)))
  | ((with_reducible apply RW.at_same); (focus (with_reducible assumption; done)); (focus (walk_at "hp"; done)))
  | ((with_reducible apply RW.at_old); (focus (with_reducible assumption; done)); (focus (walk_at "ne"; done)); (focus (walk_at "ne"; done)); (focus (walk_at "hp"; done))))
local macro_rules | `(tactic| walk_at "ne") => `(tactic| first
  | with_reducible assumption
  | with_reducible exact Ne.symm (by with_reducible assumption)
  | with_reducible exact RW.ne_upd (by with_reducible assumption)
  | with_reducible exact Ne.symm (RW.ne_upd (by with_reducible assumption))
  | ((with_reducible apply RW.ne_new); (focus (with_reducible assumption; done)); (focus (walk_at "hp"; done)))
  | ((with_reducible apply RW.ne_new'); (focus (with_reducible assumption; done)); (focus (walk_at "hp"; done)))
  | ((with_reducible apply RW.ne_kind); (focus (walk_at "hp"; done)); (focus (walk_at "hp"; done)); (exact fun z => nomatch z)))
local macro_rules | `(tactic| walk_at "no") => `(tactic| first
  | with_reducible assumption
  | ((with_reducible apply RW.no_upd); (focus (walk_at "ne"; done)); (focus (walk_at "no"; done)))
  | ((with_reducible apply RW.free_same); (focus (with_reducible assumption; done)); (focus (with_reducible assumption; done))))
local macro_rules | `(tactic| walk_at "sm") => `(tactic| first
  | with_reducible assumption
  | with_reducible exact L2.Same.refl _
  | ((with_reducible apply RW.same_put_new); (focus (walk_at "sm"; done)); (focus (walk_at "no"; done)))
  | ((with_reducible apply RW.same_put); (focus (walk_at "sm"; done)); (focus (walk_at "no"; done)))
  | ((with_reducible apply RW.same_then); (focus (with_reducible assumption; done)); (focus (walk_at "sm"; done))))
local macro_rules | `(tactic| walk_at "sq") => `(tactic| first
  | with_reducible assumption
  | ((with_reducible apply L2.SqL.of); (focus (walk_at "hp"; done)))
  | ((with_reducible apply L2.SqT.of); (focus (walk_at "hp"; done)))
  | ((with_reducible apply RW.sql_same); (focus (with_reducible assumption; done)); (focus (walk_at "sm"; done)))
  | ((with_reducible apply RW.sqt_same); (focus (with_reducible assumption; done)); (focus (walk_at "sm"; done))))
local macro_rules | `(tactic| walk_at "pr") => `(tactic| first
  | with_reducible exact PySem.Paired.nil
  | ((with_reducible apply PySem.Paired.cons); (focus (first | exact L2.ClsV.ty _ | exact L2.ClsV.own _; done)); (focus (walk_at "pr"; done))))
local macro_rules | `(tactic| walk_at "stm") => `(tactic| first
  | with_reducible assumption
  | ((with_reducible apply RW.stm_upd); (focus (walk_at "ne"; done)); (focus (walk_at "ne"; done)); (focus (walk_at "stm"; done)))
  | ((with_reducible apply RW.stm_same); (focus (with_reducible assumption; done)); (focus (walk_at "sm"; done))))
local macro_rules | `(tactic| walk_at "od") => `(tactic| first
  | with_reducible assumption
  | with_reducible exact RC.Old.refl _
  | ((with_reducible apply RW.old_upd); (focus (walk_at "od"; done)); (focus (walk_at "no"; done)))
  | ((with_reducible apply RW.old_then); (focus (with_reducible assumption; done)); (focus (walk_at "od"; done)))
  | ((with_reducible apply RW.old_same); (focus (walk_at "od"; done)); (focus (with_reducible assumption; done))))
local macro_rules | `(tactic| walk_at "num") => `(tactic| first
  | exact Nat.le_of_ble_eq_true rfl
  | omega
  | (simp only [List.length_cons, List.length_nil, List.length_append, List.length_map, List.length_replicate, List.length_take, PySem.sizeLine_eq]; omega))
local macro_rules | `(tactic| walk_at "ki") => `(tactic| first
  | with_reducible exact RW.k_int_int
  | with_reducible exact RW.k_bool_int
  | with_reducible exact RW.k_str_int
  | with_reducible exact RW.k_NoneType_int
  | with_reducible exact RW.k_list_int
  | with_reducible exact RW.k_tuple_int
  | with_reducible exact RW.k_dict_int)
local macro_rules | `(tactic| walk_at "kb") => `(tactic| first
  | with_reducible exact RW.k_int_bool
  | with_reducible exact RW.k_bool_bool
  | with_reducible exact RW.k_str_bool
  | with_reducible exact RW.k_NoneType_bool
  | with_reducible exact RW.k_list_bool
  | with_reducible exact RW.k_tuple_bool
  | with_reducible exact RW.k_dict_bool)
local macro_rules | `(tactic| walk_at "ks") => `(tactic| first
  | with_reducible exact RW.k_int_str
  | with_reducible exact RW.k_bool_str
  | with_reducible exact RW.k_str_str
  | with_reducible exact RW.k_NoneType_str
  | with_reducible exact RW.k_list_str
  | with_reducible exact RW.k_tuple_str
  | with_reducible exact RW.k_dict_str)
local macro_rules | `(tactic| walk_at "kl") => `(tactic| first
  | with_reducible exact RW.k_int_list
  | with_reducible exact RW.k_bool_list
  | with_reducible exact RW.k_str_list
  | with_reducible exact RW.k_NoneType_list
  | with_reducible exact RW.k_list_list
  | with_reducible exact RW.k_tuple_list
  | with_reducible exact RW.k_dict_list)
local macro_rules | `(tactic| walk_at "kt") => `(tactic| first
  | with_reducible exact RW.k_int_tuple
  | with_reducible exact RW.k_bool_tuple
  | with_reducible exact RW.k_str_tuple
  | with_reducible exact RW.k_NoneType_tuple
  | with_reducible exact RW.k_list_tuple
  | with_reducible exact RW.k_tuple_tuple
  | with_reducible exact RW.k_dict_tuple)
local macro_rules | `(tactic| walk_at "kd") => `(tactic| first
  | with_reducible exact RW.k_int_dict
  | with_reducible exact RW.k_bool_dict
  | with_reducible exact RW.k_str_dict
  | with_reducible exact RW.k_NoneType_dict
  | with_reducible exact RW.k_list_dict
  | with_reducible exact RW.k_tuple_dict
  | with_reducible exact RW.k_dict_dict)
local macro_rules | `(tactic| walk_at "kit") => `(tactic| first
  | ((with_reducible apply RW.gKb); walk_at "kb")
  | ((with_reducible apply RW.gKi); walk_at "ki")
  | ((with_reducible apply RW.gKl); walk_at "kl")
  | ((with_reducible apply RW.gKs); walk_at "ks")
  | ((with_reducible apply RW.gKt); walk_at "kt")
  | ((with_reducible apply RW.gKd); walk_at "kd"))
local macro_rules | `(tactic| walk_at "kita") => `(tactic| first
  | ((with_reducible apply RW.ka2) <;> walk_at "kit")
  | ((with_reducible apply RW.ka3) <;> walk_at "kit")
  | ((with_reducible apply RW.ka4) <;> walk_at "kit")
  | ((with_reducible apply RW.ka5) <;> walk_at "kit"))
local macro_rules | `(tactic| walk_at "ty") => `(tactic| first
  | with_reducible exact L2.TyX.base (.int _)
  | with_reducible exact L2.TyX.base (.str _)
  | with_reducible exact L2.TyX.base (.bl _)
  | with_reducible exact L2.TyX.base .non
  | ((with_reducible apply L2.TyX.base); (with_reducible apply L2.TyOf.lst); (focus (walk_at "hp"; done)))
  | ((with_reducible apply L2.TyX.base); (with_reducible apply L2.TyOf.tup); (focus (walk_at "hp"; done)))
  | ((with_reducible apply L2.TyX.base); (with_reducible apply L2.TyOf.dK); (focus (walk_at "hp"; done)))
  | ((with_reducible apply RC.tyx_lst); (focus (walk_at "sq"; done)))
  | ((with_reducible apply RC.tyx_tup); (focus (walk_at "sq"; done))))
local macro_rules | `(tactic| walk_at "val") => `(tactic| first
  | with_reducible assumption
  | rfl)
local macro_rules | `(tactic| walk_at "dg") => `(tactic| first
  | (apply RW.dget_s; (focus (walk_at "hp"; done)); (focus (walk_at "val"; done)))
  | (apply RW.dget_i; (focus (walk_at "hp"; done)); (focus (walk_at "val"; done)))
  | (apply RW.dget_sF; (focus (walk_at "hp"; done)); (focus (walk_at "val"; done)))
  | (apply RW.dget_sR; (focus (assumption; done)); (focus (walk_at "val"; done)))
  | (apply RW.dput_s; (focus (walk_at "hp"; done)); (focus (walk_at "num"; done)))
  | (apply RW.dput_i; (focus (walk_at "hp"; done)); (focus (walk_at "num"; done)))
  | ((with_reducible apply RW.tyv_l); (focus (walk_at "hp"; done)))
  | ((with_reducible apply RW.tyv_s); (focus (walk_at "sq"; done)))
  | (apply RW.isd; (focus (walk_at "hp"; done)))
  | (apply RW.rd_of; (focus (walk_at "hp"; done)))
  | (apply RW.sql_of; (focus (walk_at "hp"; done)))
  | (apply RW.sqt_of; (focus (walk_at "hp"; done)))
  | (apply RW.len_l; (focus (walk_at "hp"; done)))
  | (apply RW.len_sl; (focus (walk_at "sq"; done)))
  | (apply RW.len_st; (focus (walk_at "sq"; done))))
local macro_rules | `(tactic| walk_at "side") => `(tactic| first
  | with_reducible rfl
  | ((with_reducible apply RW.gHp); walk_at "hp")
  | ((with_reducible apply RW.gSm); walk_at "sm")
  | ((with_reducible apply RW.gNe); walk_at "ne")
  | ((with_reducible apply RW.gStm); walk_at "stm")
  | ((with_reducible apply RW.gOld); walk_at "od")
  | ((with_reducible apply RW.gNo); walk_at "noat")
  | ((with_reducible apply RW.gCls); walk_at "cls")
  | ((with_reducible apply RW.gCv); (first | with_reducible exact L2.ClsV.ty _ | with_reducible exact L2.ClsV.own _))
  | ((with_reducible apply RW.gTy); walk_at "ty")
  | ((with_reducible apply RW.gKit); walk_at "kit")
  | ((with_reducible apply RW.gKita); walk_at "kita")
  | ((with_reducible apply RW.gSl); walk_at "sq")
  | ((with_reducible apply RW.gSt); walk_at "sq")
  | ((with_reducible apply RW.gPr); walk_at "pr")
  | with_reducible assumption
  | with_reducible exact RW.gCp ⟨by decide, by decide, by decide⟩
  | walk_at "dg"
  | rfl
  | walk_at "num")
local macro_rules | `(tactic| walk_at "nu") => `(tactic| (repeat (refine RW.fr ?_)))
local macro_rules | `(tactic| walk_at "tt") => `(tactic| first
  | with_reducible rfl
  | with_reducible assumption
  | rfl
  | with_reducible exact RW.cSsT (by with_reducible assumption)
  | with_reducible exact RW.cSsF (by with_reducible assumption)
  | with_reducible exact RW.cNsT (by with_reducible assumption)
  | with_reducible exact RW.cNsF (by with_reducible assumption)
  | with_reducible exact RW.cSiT (by with_reducible assumption)
  | with_reducible exact RW.cSiF (by with_reducible assumption)
  | with_reducible exact RW.cNiT (by with_reducible assumption)
  | with_reducible exact RW.cNiF (by with_reducible assumption)
  | with_reducible exact RW.someT (by with_reducible assumption)
  | with_reducible exact RW.someF (by with_reducible assumption)
  | with_reducible exact RW.nsomeT (by with_reducible assumption)
  | with_reducible exact RW.nsomeF (by with_reducible assumption))
local macro_rules | `(tactic| walk_at "disp") => `(tactic| first
  | with_reducible refine RW.disp1 ?_
  | with_reducible refine RW.disp2 ?_
  | with_reducible refine RW.disp3 ?_
  | with_reducible refine RW.disp4 ?_
  | with_reducible refine RW.disp5 ?_
  | with_reducible refine RW.disp6 ?_
  | with_reducible refine RW.disp7 ?_
  | with_reducible refine RW.disp8 ?_)
local macro_rules | `(tactic| walk_at "ex") => `(tactic| ((fail_if_success (apply @Exists.intro (Nat → Nat → _))); (fail_if_success (apply @Exists.intro (Nat → L2.St → L2.Hp → Prop))); (fail_if_success (apply @Exists.intro (L2.St → L2.Hp → Prop))); apply Exists.intro))
local macro_rules | `(tactic| walk_at "st") => `(tactic| first
  | ((fail_if_success (with_reducible apply RW.isMut)); (fail_if_success (with_reducible apply RW.isMut2)); (apply And.intro); (focus (walk_at "side"; done)))
  | walk_at "disp"
  | walk_at "ex"
  | refine RC.iteT' (by walk_at "tt") ?_
  | refine RC.iteF' (by walk_at "tt") ?_)
local macro_rules | `(tactic| walk_at "gi") => `(tactic| (repeat (first | walk_at "st" | ((walk_at "nu"); (intro _ h0; have h1 : _ = none := h0; clear h1); intros))))
local macro_rules | `(tactic| walk_at "in") => `(tactic| (try dsimp only [RW.cxK]))
local macro_rules | `(tactic| walk_at "go") => `(tactic| (repeat walk_at "st"))
namespace K17
open PySem PySem.Spec PyProof.Rows L2 RC
section
variable {P : Program} {w : World} {K : PySem.W.Frag} {mg : Str → Option Value} {base : Heap}
/-! ### copies -/
inductive PlainV : V → Prop
  | int (i : Int) : PlainV (.int i)
  | str (z : Str) : PlainV (.str z)
def spCopied (K : PySem.W.Frag) (n : Nat) : Sp := fun vs H Q _ =>
  (∃ x : V, vs = [x] ∧ 1 ≤ n ∧ PlainV x ∧ Q x H) ∨
  (∃ (a : Addr) (xs : List V), vs = [.ref a] ∧ 2 ≤ n ∧ SqT K H a xs ∧ (∀ x ∈ xs, PlainV x) ∧ xs.length ≤ 1000 ∧ ∀ (H' : Hp) (t : Addr), Same H H' → H t = none → H' t = some (.tup xs) → Q (.ref t) H') ∨
  (∃ a : Addr, vs = [.ref a] ∧ 2 ≤ n ∧ H a = some (.dK []) ∧ ∀ (H' : Hp) (t : Addr), Same H H' → H t = none → H' t = some (.dK []) → Q (.ref t) H')
theorem take_more {α : Type} {xs : List α} {i : Nat} {x : α} (h : xs[i]? = some x) : xs.take (i + 1) = xs.take i ++ [x] := by rw [List.take_add_one, h]; rfl
theorem ok_copied {f : Addr} (T : Txt P w K mg) (F : Stands K "copied_value" "copied_value" s_copied_value [] f) (e : f = He.ga K "copied_value") : ∀ n : Nat, Callable P w K mg base (n + 1) f ["thing"] [] (spCopied K n)
  | 0 => by
    refine F.call0 sc_copied_value (fun vs H Q E h => ?_) (fun cdv A outer s H vs Q E hr h => ?_) (fun _ _ _ _ _ _ us hl => match us, hl with | [_], _ => rfl)
    · rcases h with ⟨x, rfl, _⟩ | ⟨a, xs, rfl, _⟩ | ⟨a, rfl, _⟩ <;> rfl
    · rcases h with ⟨x, rfl, h, _⟩ | ⟨a, xs, rfl, h, _⟩ | ⟨a, rfl, h, _⟩ <;> omega
  | n + 1 => by
    have c_copied_value := ok_copied T F e n
    rw [e] at c_copied_value
    refine F.call0 sc_copied_value (fun vs H Q E h => ?_) (fun cdv A outer s H vs Q E hr h => ?_) (fun _ _ _ _ _ _ us hl => match us, hl with | [_], _ => rfl)
    · rcases h with ⟨x, rfl, _⟩ | ⟨a, xs, rfl, _⟩ | ⟨a, rfl, _⟩ <;> rfl
    refine ⟨_, (pss_cons (ps_if (pt_val (pe_callB call_isi (by rfl) T.b_isinstance (by decide +kernel) (pa_cons (pv 0) (pa_cons (pe_bltn (v := .ty "list") (u := .type "list") (by rfl) T.b_list (by decide +kernel) rfl) pa_nil)))) (pss_one ps_never) pss_nil)
      (pss_cons (ps_if (pt_val (pe_callB call_isi (by rfl) T.b_isinstance (by decide +kernel) (pa_cons (pv 0) (pa_cons (pe_bltn (v := .ty "tuple") (u := .type "tuple") (by rfl) T.b_tuple (by decide +kernel) rfl) pa_nil)))) (pss_one (ps_ret (pe_callTy call_tuple_of (by rfl) T.b_tuple (by decide +kernel) (pa_cons (pe_lc (own := [("part", 1)]) (by rfl) sc_copied_value.nd (pi_tup (pv 0)) (blkOk_by (own := [("part", 1)]) (N := nm_copied_value) (sc := defScope s_copied_value) (by decide +kernel)) (fun _ _ _ _ _ => (pg_name (i := 1) sc_copied_value.nd rfl (by first | exact Or.inl rfl | exact Or.inr rfl))) (fun _ _ _ _ _ => pts_nil) (fun _ _ _ _ _ => (pe_fn T.g_copied_value c_copied_value (hr.mono (by first | decide | exact Nat.le_refl _)) (by rfl) (pa_cons (pv 1) pa_nil)))) pa_nil)))) pss_nil)
      (pss_cons (ps_if (pt_val (pe_callB call_isi (by rfl) T.b_isinstance (by decide +kernel) (pa_cons (pv 0) (pa_cons (pe_bltn (v := .ty "dict") (u := .type "dict") (by rfl) T.b_dict (by decide +kernel) rfl) pa_nil)))) (pss_one (ps_ret (pe_callTy (call_dictP rfl) (by rfl) T.b_dict (by decide +kernel) (pa_cons (pe_lock (pe_lc (own := [("name", 2)]) (by rfl) sc_copied_value.nd (pi_keys (pv 0)) (blkOk_by (own := [("name", 2)]) (N := nm_copied_value) (sc := defScope s_copied_value) (by decide +kernel)) (fun _ _ _ _ _ => (pg_name (i := 2) sc_copied_value.nd rfl (by first | exact Or.inl rfl | exact Or.inr rfl))) (fun _ _ _ _ _ => pts_nil) (fun _ _ _ _ _ => pe_never))) pa_nil)))) pss_nil)
      (pss_one (ps_ret (pv 0)))))), ?_⟩
    walk_at "in"
    rcases h with ⟨x, rfl, _, hx, hQ⟩ | ⟨a, xs, rfl, hn, hT, hx, hl, hQ⟩ | ⟨a, rfl, hn, hD, hQ⟩
    · cases hx with
      | int i => walk_at "go"; exact hQ
      | str z => walk_at "go"; exact hQ
    · refine ⟨_, rfl, _, _, _, _, _, rfl, .ty _, tyx_tup hT, kit_ty (b := "list") (by decide +kernel), _, rfl, iteF ?_⟩
      refine ⟨_, rfl, _, _, _, _, _, rfl, .ty _, tyx_tup hT, kit_ty (b := "tuple") (by decide +kernel), _, rfl, iteT ?_⟩
      refine ⟨_, rfl, a, rfl, ⟨_, hT⟩, fun D hD => ?_⟩
      have tS : ∀ {H' : Hp}, Same H H' → SqT K H' a xs := fun {H'} s => by
        rcases hT with (z | ⟨o, z⟩) | z
        · exact .inl (.inl (s _ _ z))
        · exact .inl (.inr ⟨o, s _ _ z⟩)
        · exact .inr z
      refine lc_it (walk_tup (xs := xs)) (fun i H' => Same H H' ∧ H' D = some (.lst (xs.take i))) ⟨same_new hD _, upd_same⟩ (fun i H' _ h => tS h.1) (fun i x H2 H3 hi hP hy => ?_) (fun H2 hP => ?_)
      · obtain ⟨rfl, hy⟩ := hy
        obtain ⟨s2, d2⟩ := hP
        have hm : x ∈ xs := List.mem_of_getElem? hy
        have hll : (xs.take i).length < sizeLine := by rw [List.length_take, sizeLine_eq]; omega
        refine ⟨rfl, yes_if ?_⟩
        refine ⟨_, rfl, .inl ⟨x, rfl, by omega, hx x hm, ?_⟩⟩
        refine ⟨_, d2, hll, fun c o hc => ?_, by rw [upd_same, take_more hy]⟩
        rw [upd_ne (ne_of_none hc hD)]; exact s2 _ _ hc
      · obtain ⟨s2, d2⟩ := hP
        rw [List.take_length] at d2
        refine ⟨D, xs, rfl, .inl ⟨SqL.of d2, fun t ht => ?_⟩⟩
        exact hQ _ t (s2.trans (same_new ht _)) (s2.free ht) upd_same
    · refine ⟨_, rfl, _, _, _, _, _, rfl, .ty _, .base (.dK hD), kit_ty (b := "list") (by decide +kernel), _, rfl, iteF ?_⟩
      refine ⟨_, rfl, _, _, _, _, _, rfl, .ty _, .base (.dK hD), kit_ty (b := "tuple") (by decide +kernel), _, rfl, iteF ?_⟩
      refine ⟨_, rfl, _, _, _, _, _, rfl, .ty _, .base (.dK hD), kit_ty (b := "dict") (by decide +kernel), _, rfl, iteT ?_⟩
      refine ⟨a, _, hD, trivial, fun od => ?_⟩
      refine ⟨_, rfl, a, od, rfl, .inl ⟨[], upd_same, fun D hD2 => ?_⟩⟩
      refine lc_it walk_keys (fun i H' => H' = upd (upd H a (.frz od (.dK []))) D (.lst [])) rfl (fun i H' _ h => ?_) (fun i x H' H'' hi => nomatch hi) (fun H' h => ?_)
      · subst h; rw [upd_ne (Ne.symm (upd_none hD2).1)]; exact upd_same
      · subst h
        refine ⟨by rw [upd_ne (Ne.symm (upd_none hD2).1)]; exact upd_same, ?_⟩
        rw [unlock hD hD2]
        have hD3 := (upd_none hD2).2
        refine ⟨D, [], [], rfl, SqL.of upd_same, .nil, fun t ht => ?_⟩
        exact hQ _ t ((same_new hD3 _).trans (same_new ht _)) (upd_none ht).2 upd_same
end
end K17

set_option Elab.async false
set_option linter.all false
set_option maxRecDepth 100000
set_option maxHeartbeats 0
namespace K17
open PySem PySem.Spec PyProof.Rows L2 RC
section
variable {P : Program} {w : World} {K : PySem.W.Frag} {mg : Str → Option Value} {base : Heap}
/-! ### the plain law of messages -/
abbrev SS := List Nat
abbrev tx (l : List Nat) : Str := ⟨l.toArray⟩
/-- a message read from the left, with the texts of its args -/
inductive PM : SS → List SS → Option SS → Prop
  | nil : PM [] [] (some [])
  | left {a : SS} {as : List SS} : PM [] (a :: as) none
  | two {c : Nat} {r : SS} {as : List SS} {o : Option SS} : c = 123 ∨ c = 125 → PM r as o → PM (c :: c :: r) as (o.map (c :: ·))
  | ch {c : Nat} {r : SS} {as : List SS} {o : Option SS} : c ≠ 123 → c ≠ 125 → PM r as o → PM (c :: r) as (o.map (c :: ·))
  | arg {r a : SS} {as : List SS} {o : Option SS} : PM r as o → PM (123 :: 125 :: r) (a :: as) (o.map (a ++ ·))
  | bad {c : Nat} {r : SS} {as : List SS} : c = 123 ∨ c = 125 → r.head? ≠ some c → (c = 125 ∨ r.head? ≠ some 125 ∨ as = []) → PM (c :: r) as none
theorem PM.plain {as : List SS} : ∀ {s : SS}, (∀ c ∈ s, c ≠ 123 ∧ c ≠ 125) → as ≠ [] → PM s as none
  | [], _, h => by
    cases as with
    | nil => exact absurd rfl h
    | cons a as => exact .left
  | c :: r, h, k => by
    obtain ⟨h1, h2⟩ := h c List.mem_cons_self
    exact PM.ch (o := none) h1 h2 (PM.plain (fun d hd => h d (List.mem_cons_of_mem _ hd)) k)
theorem PM.total : ∀ (n : Nat) (s : SS) (as : List SS), s.length ≤ n → ∃ o, PM s as o
  | _, [], [], _ => ⟨_, .nil⟩
  | _, [], _ :: _, _ => ⟨_, .left⟩
  | 0, _ :: _, _, h => absurd h (Nat.not_succ_le_zero _)
  | n + 1, c :: r, as, h => by
    have hr : r.length ≤ n := Nat.le_of_succ_le_succ h
    by_cases hc : c = 123 ∨ c = 125
    · by_cases e : r.head? = some c
      · cases r with
        | nil => cases e
        | cons d r =>
          cases e
          obtain ⟨o, ho⟩ := PM.total n r as (Nat.le_of_succ_le hr)
          exact ⟨_, .two hc ho⟩
      · by_cases b : c = 125 ∨ r.head? ≠ some 125 ∨ as = []
        · exact ⟨_, .bad hc e b⟩
        · have c1 : c = 123 := hc.elim id fun z => absurd (.inl z) b
          have c2 : r.head? = some 125 := Classical.byContradiction fun z => b (.inr (.inl z))
          cases as with
          | nil => exact absurd (.inr (.inr rfl)) b
          | cons a as =>
            cases r with
            | nil => cases c2
            | cons d r =>
              cases c2
              obtain ⟨o, ho⟩ := PM.total n r as (Nat.le_of_succ_le hr)
              rw [c1]
              exact ⟨_, .arg ho⟩
    · obtain ⟨o, ho⟩ := PM.total n r as hr
      exact ⟨_, .ch (fun z => hc (.inl z)) (fun z => hc (.inr z)) ho⟩
/-- the text of an arg -/
def argS : V → SS
  | .str z => z.cps.toList
  | .int i => (Str.ofString (toString i)).cps.toList
  | _ => []
/-- args as the text model takes them -/
def PArg (v : V) : Prop := (∃ z : Str, v = .str z ∧ z.length ≤ 2000) ∨ ∃ i : Int, v = .int i ∧ i.natAbs < 2 ^ 63
def catS (vs : List Str) : SS := (vs.map fun z => z.cps.toList).flatten
theorem tx_toList (z : Str) : tx z.cps.toList = z := by
  show (⟨z.cps.toList.toArray⟩ : Str) = z
  rw [Array.toArray_toList]
theorem join_cat : ∀ vs : List Str, Txt.join "" vs = tx (catS vs) := fun vs => by
  refine TL.ext_tl ?_
  rw [TL.join_eq, TL.tl_join]
  show TL.joinL [] (vs.map TL.tl) = TL.tl (tx (catS vs))
  have e : TL.tl (tx (catS vs)) = catS vs := rfl
  rw [e]
  unfold catS
  have e2 : ∀ ws : List (List Nat), TL.joinL [] ws = ws.flatten := fun ws => by
    induction ws with
    | nil => rfl
    | cons a r ih =>
      cases r with
      | nil => show a = a ++ []; rw [List.append_nil]
      | cons b r => show a ++ ([] ++ TL.joinL [] (b :: r)) = _; rw [ih]; rfl
  rw [e2]
theorem catS_len (vs : List Str) : (vs.map (·.length)).sum = (catS vs).length := by
  unfold catS
  rw [List.length_flatten, List.map_map]; rfl
theorem catS_snoc (vs : List Str) (z : Str) : catS (vs ++ [z]) = catS vs ++ z.cps.toList := by unfold catS; simp
end
end K17

set_option Elab.async false
set_option linter.all false
set_option maxRecDepth 100000
set_option maxHeartbeats 0
namespace K17
open PySem PySem.Spec PyProof.Rows L2 RC
section
variable {P : Program} {w : World} {K : PySem.W.Frag} {mg : Str → Option Value} {base : Heap}
/-! ### cuts of texts -/
theorem sIx_nat' {n d k : Nat} (h : k ≤ n) : HT.sIx n d (some (k : Int)) = k := by
  unfold HT.sIx; dsimp only; rw [if_neg (by omega)]; show min ((k : Int).toNat) n = k; omega
theorem cut_nat {z : Str} {a b : Nat} (ha : a ≤ z.length) (hb : b ≤ z.length) : cutS z (some (a : Int)) (some (b : Int)) = tx ((z.cps.toList.drop a).take (b - a)) := by
  unfold cutS
  rw [sIx_nat' ha, sIx_nat' hb]
theorem cut_one {z : Str} {a : Nat} (ha : a ≤ z.length) : cutS z (some (a : Int)) (some ((a : Int) + 1)) = tx ((z.cps.toList.drop a).take 1) := by
  have hl : z.cps.toList.length = z.length := Array.length_toList ..
  by_cases c : a + 1 ≤ z.length
  · have := cut_nat ha c
    rw [show ((a + 1 : Nat) : Int) = (a : Int) + 1 by omega, show a + 1 - a = 1 by omega] at this
    exact this
  · unfold cutS
    have d0 : z.cps.toList.drop a = [] := List.drop_eq_nil_of_le (by omega)
    rw [sIx_nat' ha, d0, List.take_nil, List.take_nil]
theorem tx_inj {a b : List Nat} (h : tx a = tx b) : a = b := congrArg (fun s => s.cps.toList) h
theorem take_snoc {α : Type} {xs : List α} {i : Nat} {x : α} (h : xs[i]? = some x) : xs.take (i + 1) = xs.take i ++ [x] := by
  obtain ⟨h1, h2⟩ := List.getElem?_eq_some_iff.mp h
  rw [← h2, List.take_append_getElem]
theorem cut_list (l : List Nat) {a b : Nat} (h : a ≤ b) : (l.drop (min a l.length)).take (min b l.length - min a l.length) = (l.drop a).take (b - a) := by
  by_cases ha : a ≤ l.length
  · rw [Nat.min_eq_left ha]
    by_cases hb : b ≤ l.length
    · rw [Nat.min_eq_left hb]
    · rw [Nat.min_eq_right (by omega), List.take_of_length_le (by rw [List.length_drop]; exact Nat.le_refl _), List.take_of_length_le (by rw [List.length_drop]; omega)]
  · rw [List.drop_eq_nil_of_le (by omega), List.drop_eq_nil_of_le (show l.length ≤ a by omega), List.take_nil, List.take_nil]
theorem cut_ab {z : Str} {a b : Nat} (h : a ≤ b) : cutS z (some (a : Int)) (some (b : Int)) = tx ((z.cps.toList.drop a).take (b - a)) := by
  have hl : z.cps.toList.length = z.length := Array.length_toList ..
  unfold cutS
  rw [HT.sIx_nat, HT.sIx_nat, ← hl, cut_list _ h]
theorem cut_to {z : Str} {b : Nat} : cutS z none (some (b : Int)) = tx (z.cps.toList.take b) := by
  have hl : z.cps.toList.length = z.length := Array.length_toList ..
  have := cut_list z.cps.toList (Nat.zero_le b)
  unfold cutS
  rw [HT.sIx_nat, ← hl]
  rw [Nat.zero_min] at this
  exact congrArg tx this
theorem cut_from {z : Str} {a : Nat} : cutS z (some (a : Int)) none = tx (z.cps.toList.drop a) := by
  have hl : z.cps.toList.length = z.length := Array.length_toList ..
  unfold cutS
  rw [HT.sIx_nat, ← hl]
  show tx ((z.cps.toList.drop (min a z.cps.toList.length)).take (z.length - min a z.cps.toList.length)) = _
  refine congrArg tx ?_
  by_cases ha : a ≤ z.cps.toList.length
  · rw [Nat.min_eq_left ha, List.take_of_length_le (by rw [List.length_drop]; omega)]
  · rw [Nat.min_eq_right (by omega), List.drop_length, List.take_nil, List.drop_eq_nil_of_le (by omega)]
theorem tx_of (z : Str) : tx z.cps.toList = z := by
  show (⟨z.cps.toList.toArray⟩ : Str) = z
  rw [Array.toArray_toList]
theorem tx_len (l : List Nat) : (tx l).length = l.length := List.size_toArray ..
theorem tx_beq (a b : List Nat) : (tx a == tx b) = decide (a = b) := by
  by_cases h : a = b
  · subst h; rw [decide_eq_true rfl]; exact beq_self_eq_true _
  · rw [decide_eq_false h]; exact beq_eq_false_iff_ne.mpr fun e => h (tx_inj e)
theorem tx_dec (a b : List Nat) : decide (V.str (tx a) = V.str (tx b)) = decide (a = b) := by
  by_cases h : a = b
  · subst h; rw [decide_eq_true rfl, decide_eq_true rfl]
  · rw [decide_eq_false h, decide_eq_false fun e => h (tx_inj (V.str.inj e))]
theorem inV_tx (l : List Nat) : ∀ ls : List (List Nat), inV (.str (tx l)) (ls.map fun m => V.str (tx m)) = decide (l ∈ ls)
  | [] => rfl
  | m :: r => by
    have ih := inV_tx l r
    unfold inV at ih ⊢
    rw [List.map_cons, List.any_cons, ih]
    show ((tx m == tx l) || _) = _
    rw [tx_beq]
    by_cases h : m = l
    · subst h
      rw [decide_eq_true rfl, decide_eq_true List.mem_cons_self]; rfl
    · rw [decide_eq_false h, Bool.false_or]
      exact decide_eq_decide.mpr ⟨fun q => List.mem_cons_of_mem _ q, fun q => (List.mem_cons.mp q).resolve_left fun e => h e.symm⟩
theorem s_empty : Str.ofString "" = tx [] := by decide +kernel
theorem s_open : Str.ofString "{" = tx [123] := by decide +kernel
theorem s_close : Str.ofString "}" = tx [125] := by decide +kernel
theorem s_open2 : Str.ofString "{{" = tx [123, 123] := by decide +kernel
theorem s_close2 : Str.ofString "}}" = tx [125, 125] := by decide +kernel
theorem s_blank : Str.ofString " " = tx [32] := by decide +kernel
theorem s_bangr : Str.ofString "!r" = tx [33, 114] := by decide +kernel
theorem s_bangs : Str.ofString "!s" = tx [33, 115] := by decide +kernel
theorem s_bang : Str.ofString "!" = tx [33] := by decide +kernel
theorem s_colon : Str.ofString ":" = tx [58] := by decide +kernel
theorem seq_doc {u : TS} {D : Ends} {σ : L2.St} {H : Hp} (h : u D σ H) : tSeq tNext u D σ H := h
theorem cut_two {z : Str} {a : Nat} (ha : a ≤ z.length) : cutS z (some (a : Int)) (some ((a : Int) + 2)) = tx ((z.cps.toList.drop a).take 2) := by
  have hl : z.cps.toList.length = z.length := Array.length_toList ..
  by_cases c : a + 2 ≤ z.length
  · have := cut_nat ha c
    rw [show ((a + 2 : Nat) : Int) = (a : Int) + 2 by omega, show a + 2 - a = 2 by omega] at this
    exact this
  · have e : HT.sIx z.length z.length (some ((a : Int) + 2)) = z.length := by
      have := HT.sIx_nat z.length z.length (a + 2)
      rw [show ((a + 2 : Nat) : Int) = (a : Int) + 2 by omega] at this
      rw [this]; omega
    unfold cutS
    rw [e, sIx_nat' ha, List.take_of_length_le (by rw [List.length_drop, hl]; exact Nat.le_refl _), List.take_of_length_le (by rw [List.length_drop, hl]; omega)]
end
end K17

set_option Elab.async false
set_option linter.all false
set_option maxRecDepth 100000
set_option maxHeartbeats 0
namespace K17
open PySem PySem.Spec PyProof.Rows L2 RC
section
variable {P : Program} {w : World} {K : PySem.W.Frag} {mg : Str → Option Value} {base : Heap}
/-! ### records -/
/-- a list or a tuple -/
def AX (K : PySem.W.Frag) (H : Hp) (a : Addr) (xs : List V) : Prop := H a = some (.lst xs) ∨ SqT K H a xs
theorem AX.but {H H' : Hp} {a p : Addr} {xs : List V} {C dx : Addr} {fs : List (Str × V)} (e : SameBut p H H') (hp : H p = some (.ins C dx fs)) (h : AX K H a xs) : AX K H' a xs := by
  rcases h with h | (h | ⟨o, h⟩) | h
  · exact .inl (e _ _ (fun z => by rw [z, hp] at h; cases h) h)
  · exact .inr (.inl (.inl (e _ _ (fun z => by rw [z, hp] at h; cases h) h)))
  · exact .inr (.inl (.inr ⟨o, e _ _ (fun z => by rw [z, hp] at h; cases h) h⟩))
  · exact .inr (.inr h)
theorem AX.same {H H' : Hp} {a : Addr} {xs : List V} (e : Same H H') (h : AX K H a xs) : AX K H' a xs := by
  rcases h with h | (h | ⟨o, h⟩) | h
  · exact .inl (e _ _ h)
  · exact .inr (.inl (.inl (e _ _ h)))
  · exact .inr (.inl (.inr ⟨o, e _ _ h⟩))
  · exact .inr (.inr h)
def recF (name : Str) (lv : Int) (ln msg : Str) (g : Addr) (clk : Int) (e : Addr) : List (Str × V) := [("name", .str name), ("levelno", .int lv), ("levelname", .str ln), ("msg", .str msg), ("given", .ref g), ("created", .int clk), ("extra", .ref e)]
def spRecInit (K : PySem.W.Frag) : Sp := fun vs H Q _ => ∃ (p dx a d : Addr) (name ln msg : Str) (lv clk : Int) (xs : List V), vs = [.ref p, .str name, .int lv, .str ln, .str msg, .ref a, .int clk, .ref d] ∧ H p = some (.ins (CR K) dx []) ∧ AX K H a xs ∧ (∀ x ∈ xs, PlainV x) ∧ xs.length ≤ 1000 ∧ H d = some (.dK []) ∧
  ∀ (H' : Hp) (g e : Addr), SameBut p H H' → H' p = some (.ins (CR K) dx (recF name lv ln msg g clk e)) → H' g = some (.tup xs) → H' e = some (.dK []) → H g = none → H e = none → Q .non H'
theorem SameBut.free {p t : Addr} {H H' : Hp} (b : SameBut p H H') (n : t ≠ p) (h : H' t = none) : H t = none := by
  cases z : H t with
  | none => rfl
  | some o => rw [b _ _ n z] at h; cases h
theorem ok_rec_init {f : Addr} (T : Txt P w K mg) (F : Stands K "__init__" "LogRecord.__init__" s_LogRecord_init [] f) (c_copied_value : Callable P w K mg base 3 (He.ga K "copied_value") ["thing"] [] (spCopied K 2)) :
    Callable P w K mg base 4 f ["self", "name", "levelno", "levelname", "msg", "args", "created", "extra"] [] (spRecInit K) := by
  refine F.call0 sc_LogRecord_init (fun vs H Q E h => ?_) (fun cdv A outer s H vs Q E hr h => ?_) (fun _ _ _ _ _ _ us hl => match us, hl with | [_, _, _, _, _, _, _, _], _ => rfl)
  · obtain ⟨p, dx, a, d, name, ln, msg, lv, clk, xs, rfl, _⟩ := h; rfl
  obtain ⟨p, dx, a, d, name, ln, msg, lv, clk, xs, rfl, hp, hT, hx, hl, hD, hQ⟩ := h
  refine ⟨_, (pss_cons (ps_fld (pv 0) (pv 1) rfl)
      (pss_cons (ps_fld (pv 0) (pv 2) rfl)
      (pss_cons (ps_fld (pv 0) (pv 3) rfl)
      (pss_cons (ps_fld (pv 0) (pv 4) rfl)
      (pss_cons (ps_fld (pv 0) (pe_fn T.g_copied_value c_copied_value (hr.mono (by first | decide | exact Nat.le_refl _)) (by rfl) (pa_cons (pe_callTy call_tuple_of (by rfl) T.b_tuple (by decide +kernel) (pa_cons (pv 5) pa_nil)) pa_nil)) rfl)
      (pss_cons (ps_fld (pv 0) (pv 6) rfl)
      (pss_one (ps_fld (pv 0) (pe_fn T.g_copied_value c_copied_value (hr.mono (by first | decide | exact Nat.le_refl _)) (by rfl) (pa_cons (pv 7) pa_nil)) rfl)))))))), ?_⟩
  refine ⟨_, rfl, _, rfl, p, _, dx, _, rfl, hp, T.c_LogRecord, T.n_LogRecord_name, (by show 0 < 1000; decide), ?_⟩
  refine ⟨_, rfl, _, rfl, p, _, dx, _, rfl, upd_same, T.c_LogRecord, T.n_LogRecord_levelno, (by show 1 < 1000; decide), ?_⟩
  rw [upd_upd]
  refine ⟨_, rfl, _, rfl, p, _, dx, _, rfl, upd_same, T.c_LogRecord, T.n_LogRecord_levelname, (by show 2 < 1000; decide), ?_⟩
  rw [upd_upd]
  refine ⟨_, rfl, _, rfl, p, _, dx, _, rfl, upd_same, T.c_LogRecord, T.n_LogRecord_msg, (by show 3 < 1000; decide), ?_⟩
  rw [upd_upd]
  generalize e1 : upd H p _ = H1
  have b1 : SameBut p H H1 := by rw [← e1]; exact SameBut.put
  have p1 : H1 p = some (.ins (CR K) dx [("name", .str name), ("levelno", .int lv), ("levelname", .str ln), ("msg", .str msg)]) := by rw [← e1]; exact upd_same
  clear e1
  dsimp only
  refine seq_of (fun σ' H3 => σ' = L2.start nm_LogRecord_init [.ref p, .str name, .int lv, .str ln, .str msg, .ref a, .int clk, .ref d] ∧ ∃ t, SameBut p H1 H3 ∧ H1 t = none ∧ H3 t = some (.tup xs) ∧ H3 p = some (.ins (CR K) dx [("name", .str name), ("levelno", .int lv), ("levelname", .str ln), ("msg", .str msg), ("given", .ref t)])) (fun b' kb => ?_) (fun σ' H3 hm => ?_)
  · have fin : ∀ (H2 : Hp) (t u : Addr), Same H1 H2 → H1 t = none → H2 t = some (.tup xs) → t ≠ p ∧ SameBut p H1 (upd H2 p (.ins (CR K) dx [("name", .str name), ("levelno", .int lv), ("levelname", .str ln), ("msg", .str msg), ("given", .ref u)])) := fun H2 t u s2 n2 t2 => ⟨fun z => (by rw [z, p1] at n2; cases n2), (SameBut.of s2).trans SameBut.put⟩
    rcases AX.but b1 hp hT with hT1 | hT1
    · refine ⟨_, rfl, a, xs, rfl, .inl ⟨SqL.of hT1, fun t ht => ?_⟩⟩
      refine .inr (.inl ⟨t, xs, rfl, (by decide), SqT.of upd_same, hx, hl, fun H2 g s2 n2 g2 => ?_⟩)
      have s12 := (same_new ht _).trans s2
      have n1 : H1 g = none := (same_new ht (.tup xs)).free n2
      obtain ⟨ng, sb⟩ := fin H2 g g s12 n1 g2
      refine ⟨_, rfl, p, _, dx, _, rfl, s12 _ _ p1, T.c_LogRecord, T.n_LogRecord_given, (by show 4 < 1000; decide), ?_⟩
      exact kb _ _ ⟨rfl, g, sb, n1, by rw [upd_ne ng]; exact g2, upd_same⟩
    · refine ⟨_, rfl, a, xs, rfl, .inr ⟨hT1, ?_⟩⟩
      refine .inr (.inl ⟨a, xs, rfl, (by decide), hT1, hx, hl, fun H2 g s2 n2 g2 => ?_⟩)
      obtain ⟨ng, sb⟩ := fin H2 g g s2 n2 g2
      refine ⟨_, rfl, p, _, dx, _, rfl, s2 _ _ p1, T.c_LogRecord, T.n_LogRecord_given, (by show 4 < 1000; decide), ?_⟩
      exact kb _ _ ⟨rfl, g, sb, n2, by rw [upd_ne ng]; exact g2, upd_same⟩
  obtain ⟨rfl, t, b3, n3, t3, p3⟩ := hm
  refine ⟨_, rfl, _, rfl, p, _, dx, _, rfl, p3, T.c_LogRecord, T.n_LogRecord_created, (by show 5 < 1000; decide), ?_⟩
  have ntp : t ≠ p := fun z => by rw [z, p1] at n3; cases n3
  have ndp : d ≠ p := fun z => by rw [z, hp] at hD; cases hD
  generalize e3 : upd H3 p _ = H5
  have b5 : SameBut p H3 H5 := by rw [← e3]; exact SameBut.put
  have p5 : H5 p = some (.ins (CR K) dx [("name", .str name), ("levelno", .int lv), ("levelname", .str ln), ("msg", .str msg), ("given", .ref t), ("created", .int clk)]) := by rw [← e3]; exact upd_same
  clear e3
  have d5 : H5 d = some (.dK []) := b5 _ _ ndp (b3 _ _ ndp (b1 _ _ ndp hD))
  refine ⟨_, rfl, .inr (.inr ⟨d, rfl, (by decide), d5, fun H4 e s4 n4 e4 => ?_⟩)⟩
  refine ⟨_, rfl, p, _, dx, _, rfl, s4 _ _ p5, T.c_LogRecord, T.n_LogRecord_extra, (by show 6 < 1000; decide), ?_⟩
  have nep : e ≠ p := fun z => by rw [z, p5] at n4; cases n4
  refine hQ _ t e ?_ upd_same ?_ ?_ ?_ ?_
  · exact ((b1.trans b3).trans (b5.trans (SameBut.of s4))).trans SameBut.put
  · rw [upd_ne ntp]; exact s4 _ _ (b5 _ _ ntp t3)
  · rw [upd_ne nep]; exact e4
  · exact b1.free ntp n3
  · exact b1.free nep (b3.free nep (b5.free nep n4))
end
end K17

set_option Elab.async false
set_option linter.all false
set_option maxRecDepth 100000
set_option maxHeartbeats 0

namespace K17
open PySem PySem.Spec PyProof.Rows L2 RC
section
variable {P : Program} {w : World} {K : PySem.W.Frag} {mg : Str → Option Value} {base : Heap}
/-! ### make_record, of a number and no args -/
def NmsOk (nms : List (Key × V)) : Prop := ∀ k v, valV nms k = some v → ∃ z : Str, v = .str z
def lvName (nms : List (Key × V)) (i : Int) : Str := match valV nms (Sum.inl i) with
  | some (.str z) => z
  | _ => ("Level " : Str) ++ (toString i : Str)
def spLevelName (K : PySem.W.Frag) : Sp := fun vs H Q _ => ∃ (y dy na : Addr) (fs : List (Str × V)) (nms : List (Key × V)) (i : Int), vs = [.ref y, .int i] ∧ H y = some (.ins (CY K) dy fs) ∧ fs.lookup ("names_of" : Str) = some (.ref na) ∧ H na = some (.dK nms) ∧ NmsOk nms ∧ i.natAbs < 2 ^ 63 ∧ Q (.str (lvName nms i)) H
theorem ok_level_name {f : Addr} (T : Txt P w K mg) (F : Stands K "level_name" "Yard.level_name" s_Yard_level_name [] f) : Callable P w K mg base 1 f ["self", "level"] [] (spLevelName K) := by
  refine F.call0 sc_Yard_level_name (fun vs H Q E h => ?_) (fun cdv A outer s H vs Q E hr h => ?_) (fun _ _ _ _ _ _ us hl => match us, hl with | [_, _], _ => rfl)
  · obtain ⟨y, dy, na, fs, nms, i, rfl, _⟩ := h; rfl
  obtain ⟨y, dy, na, fs, nms, i, rfl, hy, hn, hna, hz, hi, hQ⟩ := h
  refine ⟨_, (pss_one (ps_ret (pe_ifExp (pt_cmp (pc_din (hu_of hr) (pv 1) (pe_fld (pv 0) rfl))) (pe_dget (hu_of hr) (pe_fld (pv 0) rfl) (pv 1) (fun _ _ => rfl)) (pe_op op_add_str pe_str (pe_callTy call_str_int (by rfl) T.b_str (by decide +kernel) (pa_cons (pv 1) pa_nil)))))), ?_⟩
  walk_at "in"
  unfold lvName at hQ
  cases e : valV nms (Sum.inl i) with
  | some v =>
    obtain ⟨z, rfl⟩ := hz _ _ e
    rw [e] at hQ
    walk_at "go"
    exact hQ
  | none =>
    rw [e] at hQ
    walk_at "go"
    have hl := RN.len_toString i
    have hl2 : i.natAbs.log2 < 63 := by
      by_cases c : i.natAbs = 0
      · rw [c]; decide
      · exact (Nat.log2_lt c).mpr hi
    refine ⟨by omega, _, _, rfl, rfl, ?_, hQ⟩
    show 6 + (Str.ofString (toString i)).length ≤ sizeLine
    rw [sizeLine_eq]; omega
/-- a record as the yard makes it, without extra -/
def RecAt (K : PySem.W.Frag) (H : Hp) (r : Addr) (name : Str) (lv : Int) (ln msg : Str) (clk : Int) (xs : List V) : Prop := ∃ dx g e, H r = some (.ins (CR K) dx (recF name lv ln msg g clk e)) ∧ H g = some (.tup xs) ∧ H e = some (.dK [])
theorem RecAt.same {H H' : Hp} {r : Addr} {name : Str} {lv : Int} {ln msg : Str} {clk : Int} {xs : List V} (h : RecAt K H r name lv ln msg clk xs) (s : Same H H') : RecAt K H' r name lv ln msg clk xs := by
  obtain ⟨dx, g, e, h1, h2, h3⟩ := h
  exact ⟨dx, g, e, s _ _ h1, s _ _ h2, s _ _ h3⟩
theorem RecAt.name {H : Hp} {r : Addr} {name : Str} {lv : Int} {ln msg : Str} {clk : Int} {xs : List V} (h : RecAt K H r name lv ln msg clk xs) : RecName K H r name := by
  obtain ⟨dx, g, e, h1, _⟩ := h
  exact ⟨dx, _, h1, rfl⟩
def spMakeRecord (K : PySem.W.Frag) : Sp := fun vs H Q _ => ∃ (y dy na nu a : Addr) (fs : List (Str × V)) (nms nums : List (Key × V)) (name msg : Str) (lv clk : Int) (xs : List V), vs = [.ref y, .str name, .int lv, .str msg, .ref a, .non] ∧ AX K H a xs ∧ (∀ x ∈ xs, PlainV x) ∧ xs.length ≤ 1000 ∧ H y = some (.ins (CY K) dy fs) ∧
  fs.lookup ("names_of" : Str) = some (.ref na) ∧ fs.lookup ("numbers_of" : Str) = some (.ref nu) ∧ fs.lookup ("clock" : Str) = some (.int clk) ∧ fs.lookup ("level_of" : Str) = none ∧ fs.lookup ("level_name" : Str) = none ∧ H na = some (.dK nms) ∧ H nu = some (.dK nums) ∧ NmsOk nms ∧ lv.natAbs < 2 ^ 63 ∧
  ∀ (H' : Hp) (r g e : Addr), Same H H' → H r = none → H g = none → H e = none → (∃ dx, H' r = some (.ins (CR K) dx (recF name lv (lvName nms lv) msg g clk e))) → H' g = some (.tup xs) → H' e = some (.dK []) → Q (.ref r) H'
theorem body_make_record {f : Addr} (T : Txt P w K mg) {cdv : Value} {A : Around} {outer : List Env} {st0 : Shared} {E : XK} {vs : List V} {H : Hp} {Q : VK} (hr : Room 5 (A.deeper (envOfC "Yard.make_record" (defScope s_Yard_make_record) st0.heap.objs.size f cdv))) (h : spMakeRecord K vs H Q E)
    (c_Yard_level_of : Callable P w K mg base 2 (He.ma K (He.ga K "Yard") "level_of") ["self", "level"] [] (spLevelOf K)) (c_Yard_level_name : Callable P w K mg base 1 (He.ma K (He.ga K "Yard") "level_name") ["self", "level"] [] (spLevelName K))
    (c_LogRecord_init : Callable P w K mg base 4 (He.ma K (He.ga K "LogRecord") "__init__") ["self", "name", "levelno", "levelname", "msg", "args", "created", "extra"] [] (spRecInit K)) :
    ∃ t, PSs (cxOf CX0 P w K mg base nm_Yard_make_record "Yard.make_record" (defScope s_Yard_make_record) f cdv A outer st0 H E).nox (defBody s_Yard_make_record) t ∧ t { nx := fun _ H' => Q .non H', rt := Q } (start nm_Yard_make_record vs) H := by
  obtain ⟨y, dy, na, nu, a, fs, nms, nums, name, msg, lv, clk, xs, rfl, hT, hx, hl, hy, hna, hnu, hck, hlo, hln, gna, gnu, hz, hlv, hQ⟩ := h
  refine ⟨_, (pss_cons (ps_set (i := 6) sc_Yard_make_record.nd rfl (by first | exact Or.inl rfl | exact Or.inr rfl) (pe_mt T.c_Yard T.m_Yard_level_of c_Yard_level_of (hr.mono (by first | decide | exact Nat.le_refl _)) (pv 0) (pa_cons (pv 2) pa_nil)))
      (pss_cons (ps_set (i := 7) sc_Yard_make_record.nd rfl (by first | exact Or.inl rfl | exact Or.inr rfl) (pe_ifExp (pt_cmpR op_isN (pv 5) pe_non (nomark _)) pe_dnewK (pv 5)))
      (pss_cons (ps_set (i := 8) sc_Yard_make_record.nd rfl (by first | exact Or.inl rfl | exact Or.inr rfl) (pe_callB cr_sortedS (by rfl) T.b_sorted (by decide +kernel) (pa_cons (pe_lock (pe_lc (own := [("key", 9)]) (by rfl) sc_Yard_make_record.nd (pi_keys (pv 7)) (blkOk_by (own := [("key", 9)]) (N := nm_Yard_make_record) (sc := defScope s_Yard_make_record) (by decide +kernel)) (fun _ _ _ _ _ => (pg_name (i := 9) sc_Yard_make_record.nd rfl (by first | exact Or.inl rfl | exact Or.inr rfl))) (fun _ _ _ _ _ => (pts_one pt_never)) (fun _ _ _ _ _ => (pv 9)))) pa_nil)))
      (pss_cons (ps_if (pt_cmpR (op_neD hr.units) (pv 8) (pe_lst pa_nil) (nomark _)) (pss_one ps_never) pss_nil)
      (pss_one (ps_ret (pe_mk T.k_LogRecord T.g_LogRecord c_LogRecord_init (hr.mono (by first | decide | exact Nat.le_refl _)) (by rfl) (pa_cons (pv 1) (pa_cons (pv 6) (pa_cons (pe_mt T.c_Yard T.m_Yard_level_name c_Yard_level_name (hr.mono (by first | decide | exact Nat.le_refl _)) (pv 0) (pa_cons (pv 6) pa_nil)) (pa_cons (pv 3) (pa_cons (pv 4) (pa_cons (pe_fld (pv 0) rfl) (pa_cons (pv 7) pa_nil)))))))))))))), ?_⟩
  -- number = self.level_of(level)
  refine ⟨_, rfl, y, dy, fs, rfl, hy, hlo, _, rfl, y, dy, nu, fs, nums, .int lv, .int lv, rfl, hy, hnu, gnu, rfl, ?_⟩
  -- more = {}
  refine ⟨_, rfl, rfl, _, rfl, iteT' (by rfl) fun m hm => ?_⟩
  have s1 : Same H (upd H m (.dK [])) := same_new hm _
  -- bad = sorted([..])
  refine ⟨m, _, upd_same, trivial, fun od => ?_⟩
  refine ⟨_, rfl, m, od, rfl, .inl ⟨[], upd_same, fun D hD => ?_⟩⟩
  have hD' : upd H m (.dK []) D = none := (upd_none hD).2
  refine lc_it walk_keys (fun i H' => H' = upd (upd (upd H m (.dK [])) m (.frz od (.dK []))) D (.lst [])) rfl (fun i H' _ h => ?_) (fun i x H' H'' hi => nomatch hi) (fun H' h => ?_)
  · subst h; rw [upd_ne (Ne.symm (upd_none hD).1)]; exact upd_same
  subst h
  refine ⟨by rw [upd_ne (Ne.symm (upd_none hD).1)]; exact upd_same, ?_⟩
  rw [unlock upd_same hD]
  have s2 := s1.trans (same_new hD' (.lst []))
  refine ⟨D, [], rfl, SqL.of upd_same, (by decide), fun ys q hp _ hq => ?_⟩
  have e0 : ys = [] := hp.eq_nil
  subst e0
  have s3 := s2.trans (same_new hq (.lst ([].map V.str)))
  -- if bad != []
  refine ⟨_, rfl, (by show 0 ≤ sizeLine; decide), fun q2 hq2 => ?_⟩
  have s4 := s3.trans (same_new hq2 (.lst []))
  refine ⟨_, _, Dp.lst (SqL.of (by rw [upd_ne (ne_of_none upd_same hq2)]; exact upd_same)) .nil, Dp.lst (SqL.of upd_same) .nil, by decide +kernel, by decide +kernel, _, rfl, iteF' (by decide +kernel) ?_⟩
  have m4 : (upd (upd (upd (upd H m (.dK [])) D (.lst [])) q (.lst ([].map V.str))) q2 (.lst [])) m = some (.dK []) := by
    have k1 : upd H m (.dK []) m = some (.dK []) := upd_same
    exact (same_new hq2 _) _ _ ((same_new hq _) _ _ ((same_new hD' _) _ _ k1))
  generalize upd (upd (upd (upd H m (.dK [])) D (.lst [])) q (.lst ([].map V.str))) q2 (.lst []) = H4 at s4 m4
  have hT4 := hT.same s4
  have g1 := s4 _ _ hy
  have g2 := s4 _ _ gna
  refine ⟨_, rfl, _, rfl, _, rfl, y, dy, fs, rfl, g1, hln, _, rfl, y, dy, na, fs, nms, lv, rfl, g1, hna, g2, hz, hlv, _, rfl, _, rfl, _, rfl, y, _, dy, fs, _, rfl, g1, T.c_Yard, T.n_Yard_clock, hck, _, rfl, fun x dx hx2 hdx hne => ?_⟩
  have sx : Same H4 (upd (upd H4 dx (.own x)) x (.ins (CR K) dx [])) := made_same hx2 hdx (fun _ _ _ e => e)
  refine ⟨x, dx, a, m, name, _, msg, lv, clk, xs, rfl, upd_same, hT4.same sx, hx, hl, sx _ _ m4, fun H' g e b5 h5' hg he g0 e0 => ⟨rfl, ?_⟩⟩
  have f0 : ∀ b, upd (upd H4 dx (.own x)) x (.ins (CR K) dx []) b = none → H b = none := fun b hb => s4.free (upd_none (upd_none hb).2).2
  exact hQ H' x g e (s4.trans (made_same hx2 hdx b5)) (s4.free hx2) (f0 _ g0) (f0 _ e0) ⟨dx, h5'⟩ hg he
theorem ok_make_record {f : Addr} (T : Txt P w K mg) (F : Stands K "make_record" "Yard.make_record" s_Yard_make_record [.ref (He.dflAt ("Yard", some "make_record") 0 K), .non] f)
    (c_Yard_level_of : Callable P w K mg base 2 (He.ma K (He.ga K "Yard") "level_of") ["self", "level"] [] (spLevelOf K)) (c_Yard_level_name : Callable P w K mg base 1 (He.ma K (He.ga K "Yard") "level_name") ["self", "level"] [] (spLevelName K))
    (c_LogRecord_init : Callable P w K mg base 4 (He.ma K (He.ga K "LogRecord") "__init__") ["self", "name", "levelno", "levelname", "msg", "args", "created", "extra"] [] (spRecInit K)) :
    Callable P w K mg base 6 f ["self", "name", "level", "msg", "args", "extra"] [.non] (spMakeRecord K) := by
  have len : ∀ vs H Q E, spMakeRecord K vs H Q E → vs.length = 6 := fun vs H Q E h => by
    obtain ⟨y, dy, na, nu, a, fs, nms, nums, name, msg, lv, clk, xs, rfl, _⟩ := h; rfl
  exact F.call sc_Yard_make_record 5 1 len (fun cdv A outer s H vs Q E hr h => body_make_record T hr h c_Yard_level_of c_Yard_level_name c_LogRecord_init) (fun z => nomatch z) fun _ => ⟨rfl, fun _ _ _ _ _ _ _ us its hl hi => match us, hl, its, hi with | [_, _, _, _, _], _, [_, _], _ => ⟨_, rfl, rfl⟩⟩
end
end K17

set_option Elab.async false
set_option linter.all false
set_option maxRecDepth 100000
set_option maxHeartbeats 4000000
/-! Defs that may raise own errors, calls of them, raise, except X as e of several clauses. -/
namespace RQ
open PySem PySem.Spec PyProof.Rows L2 RC
/-- as Callable, where an error may leave the def -/
def CallX (P : Program) (w : World) (K : PySem.W.Frag) (mg : Str → Option Value) (base : Heap) (k : Nat) (f : Addr) (ps : List Str) (dvs : List V) (sp : Sp) : Prop :=
  ∃ fd ds, FnOk P w K mg base (L2.CX P w) k f fd ps sp ∧ Vals dvs ds ∧ Binds K fd ps ds ∧ PySem.W.keepIn K (.ref f) = true
section
variable {P : Program} {w : World} {K : PySem.W.Frag} {mg : Str → Option Value} {base : Heap} {x qual : Str} {dvs : List V} {f : Addr} {k : Nat} {N ps : List Str} {sp : Sp}
theorem CallX.up {j : Nat} (c : CallX P w K mg base j f ps dvs sp) (h : j ≤ k) : CallX P w K mg base k f ps dvs sp :=
  let ⟨fd, ds, F, r⟩ := c
  ⟨fd, ds, F.mono h, r⟩
theorem stands_callX {st : Stmt} (F : Stands K x qual st dvs f) (S : FnScope N ps (defScope st)) (n j : Nat) (len : ∀ vs H Q E, sp vs H Q E → vs.length = ps.length)
    (hbody : ∀ (cdv : Value) (A : Around) (outer : List Env) (s : Shared) (H : Hp) (vs : List V) (Q : VK) (E : XK), Room k (A.deeper (envOfC qual (defScope st) s.heap.objs.size f cdv)) → sp vs H Q E →
      ∃ t, PSs (cxOf (L2.CX P w) P w K mg base N qual (defScope st) f cdv A outer s H E) (defBody st) t ∧ t { nx := fun _ H' => Q .non H', rt := Q } (start N vs) H)
    (h0 : dvs = [] → n = ps.length ∧ ∀ (kV doc pm : Value) (an : Option Addr) (cdv ct : Value) (us : List Value), us.length = ps.length → bindArgs (PySem.W.fnOf x qual (defArgs st) (defBody st) (defScope st) .none kV doc pm an cdv ct) ⟨us, []⟩ = pure (ps.zip us))
    (h1 : dvs ≠ [] → n + (dvs.length - j) = ps.length ∧ ∀ (T : Addr) (kV doc pm : Value) (an : Option Addr) (cdv ct : Value) (us its : List Value), us.length = n → its.length = dvs.length →
      ∃ k, bindArgs (PySem.W.fnOf x qual (defArgs st) (defBody st) (defScope st) (.ref T) kV doc pm an cdv ct) ⟨us, []⟩ = seqItems? (.ref T) >>= k ∧ k (some its.toArray) = pure (ps.zip (us ++ its.drop j))) :
    CallX P w K mg base (k + 1) f ps (dvs.drop j) sp := by
  obtain ⟨fd, F⟩ := F
  have ok : FnOk P w K mg base (L2.CX P w) (k + 1) f fd ps sp := F.ok S len fun cdv A outer s H vs Q E hr hsp => hbody cdv A outer s H vs Q E hr hsp
  by_cases hd : dvs = []
  · subst hd
    exact ⟨fd, [], ok, by rw [List.drop_nil]; exact .nil, F.bindsN (h0 rfl).2, F.kp⟩
  · obtain ⟨ds, hv, hb⟩ := F.binds1 n j hd (h1 hd).1 (h1 hd).2
    exact ⟨fd, ds, ok, hv, hb, F.kp⟩
theorem stands_callX0 {st : Stmt} (F : Stands K x qual st [] f) (S : FnScope N ps (defScope st)) (len : ∀ vs H Q E, sp vs H Q E → vs.length = ps.length)
    (hbody : ∀ (cdv : Value) (A : Around) (outer : List Env) (s : Shared) (H : Hp) (vs : List V) (Q : VK) (E : XK), Room k (A.deeper (envOfC qual (defScope st) s.heap.objs.size f cdv)) → sp vs H Q E →
      ∃ t, PSs (cxOf (L2.CX P w) P w K mg base N qual (defScope st) f cdv A outer s H E) (defBody st) t ∧ t { nx := fun _ H' => Q .non H', rt := Q } (start N vs) H)
    (h0 : ∀ (kV doc pm : Value) (an : Option Addr) (cdv ct : Value) (us : List Value), us.length = ps.length → bindArgs (PySem.W.fnOf x qual (defArgs st) (defBody st) (defScope st) .none kV doc pm an cdv ct) ⟨us, []⟩ = pure (ps.zip us)) :
    CallX P w K mg base (k + 1) f ps [] sp := by
  obtain ⟨fd, F⟩ := F
  have ok : FnOk P w K mg base (L2.CX P w) (k + 1) f fd ps sp := F.ok S len fun cdv A outer s H vs Q E hr hsp => hbody cdv A outer s H vs Q E hr hsp
  exact ⟨fd, [], ok, .nil, F.bindsN h0, F.kp⟩
end
section
variable {X : Cx} {k : Nat} {f C : Addr} {ps : List Str} {sp : Sp} {dvs : List V} {x m : Str} {p pos apos : Pos} {e o : Expr} {es : List Expr} {ta : TE} {t : TA} {pl : Sem Bool} {W : WX}
/-- f(e, ..), where f may raise -/
theorem pe_fnX (tk : Takes X W) (hm : X.mg x = some (.ref f)) (c : CallX X.prog X.w X.K X.mg X.base k f ps dvs sp) (hr : Room k X.A) (hg : Gl X x) (ha : PA X (e :: es) t) (hdb : (x == ("__debug__" : Str)) = false := by decide)
    (he : starEach (e :: es) X.env = (false, eval e X.env) :: starEach es X.env := by rfl) (hpl : (backTo pos (starEach es X.env)).any (·.1) = false := by rfl) : PE X (.Call (.Name x p) (e :: es) [] pos) (tCallSD sp dvs (WE W) t) := by
  obtain ⟨fd, ds, F, hd, hb, hk⟩ := c
  exact pe_callSD F hr hg hm hk hb hd (fun σ => passAt tk σ) ha hdb he hpl
/-- o.m(e, ..), where m may raise -/
def tMethX (C : Addr) (m : Str) (sp : Sp) (dvs : List V) (E : L2.St → XK) (ta : TE) (t : TA) : TE := fun σ H Q => ta σ H fun x H1 => ∃ a dx fs, x = .ref a ∧ H1 a = some (.ins C dx fs) ∧ fs.lookup m = none ∧ t σ H1 fun vs H2 => sp (x :: (vs ++ dvs)) H2 Q (E σ)
theorem pe_mtX (tk : Takes X W) (cl : Cls X.K C) (hm : Meth X.K C m f) (c : CallX X.prog X.w X.K X.mg X.base k f ps dvs sp) (hr : Room k X.A) (he : PE X o ta) (ha : PA X (e :: es) t)
    (hst : starEach (e :: es) X.env = (false, eval e X.env) :: starEach es X.env := by rfl) (hpl : (backTo pos (starEach es X.env)).any (·.1) = false := by rfl)
    (ht : eval (.Call (.Attribute o m apos) (e :: es) [] pos) X.env = (do
      let ov ← eval o X.env
      standAt apos.atName
      let (f, first) ← holding [ov] (getMethod ov m pl)
      callWith pos f first (backTo pos (starEach (e :: es) X.env)) (backToKw pos (keywordEach [] X.env))) := by rfl) :
    PE X (.Call (.Attribute o m apos) (e :: es) [] pos) (tMethX C m sp dvs (WE W) ta t) := by
  obtain ⟨fd, ds, F, hd, hb, hk⟩ := c
  refine ⟨fun pins s σ H Q I h => ?_⟩
  refine PySem.W.methodCall_KW (pl := pl) (thn (he.run pins s σ H _ I h) fun u s1 ⟨z, H1, I1, rz, a, dx, fs, ez, ea, l, q⟩ => ?_) ht
  subst ez
  obtain rfl : u = Value.ref a := rz
  refine getmeth_ok I1 ea cl hm l ?_
  refine PySem.W.callWith_K (first := [.ref a]) (h₀ := X.base) I.ok.mod.kin hm.kp (thn (ha.run pos pins s1 σ H1 _ I1 q) fun us s2 ⟨ws, H2, I2, r, q2⟩ => ⟨I2.kIn, ?_⟩) hst hpl
  exact run_fnSD (us := .ref a :: us) (vs := .ref a :: ws) F hr hb hd (passAt tk σ) I2 (.cons rfl r) q2
/-- C(e, ..), where __init__ may raise -/
def tMakeX (C : Addr) (sp : Sp) (dvs : List V) (E : L2.St → XK) (t : TA) : TE := fun σ H Q => t σ H fun vs H1 => ∀ x dx, H1 x = none → H1 dx = none → dx ≠ x →
  sp (.ref x :: (vs ++ dvs)) (upd (upd H1 dx (.own x)) x (.ins C dx [])) (fun v H2 => v = .non ∧ Q (.ref x) H2) (E σ)
theorem pe_mkX (tk : Takes X W) (M : Mk X.K C f) (hm : X.mg x = some (.ref C)) (c : CallX X.prog X.w X.K X.mg X.base k f ps dvs sp) (hr : Room (k + 1) X.A) (hg : Gl X x) (ha : PA X (e :: es) t) (hdb : (x == ("__debug__" : Str)) = false := by decide)
    (he : starEach (e :: es) X.env = (false, eval e X.env) :: starEach es X.env := by rfl) (hpl : (backTo pos (starEach es X.env)).any (·.1) = false := by rfl) : PE X (.Call (.Name x p) (e :: es) [] pos) (tMakeX C sp dvs (WE W) t) := by
  obtain ⟨fd, ds, F, hd, hb, hk⟩ := c
  refine ⟨fun pins s σ H Q I h => ?_⟩
  refine wpAny_Call_Name_kw (ld_glob I hg hm ?_ hdb)
  refine PySem.W.callWith_K (h₀ := X.base) I.ok.mod.kin M.kp (thn (ha.run pos pins s σ H _ I h) fun us s1 ⟨ws, H1, I1, r, q⟩ => ⟨I1.kIn, ?_⟩) he hpl
  have big := Nat.le_succ s1.heap.objs.size
  have spx := q (s1.heap.objs.size + 1) s1.heap.objs.size (I1.hok.fresh big) (I1.hok.fresh (Nat.le_refl _)) (Nat.ne_of_lt (Nat.lt_succ_self _))
  have made := Inv.made (C := C) I1
  have rel : Vals (V.ref (s1.heap.objs.size + 1) :: (ws ++ dvs)) (Value.ref (s1.heap.objs.size + 1) :: (us ++ ds)) := .cons rfl (r.append hd)
  have len : (Value.ref (s1.heap.objs.size + 1) :: us ++ ds).length = ps.length := rel.length.symm.trans (F.len _ _ _ _ spx)
  have bind := hb _ (Value.ref (s1.heap.objs.size + 1) :: us) made.kIn len
  have env := made.env0.make C us []
  have room := hr.make C us []
  refine wpAny_call (make_map (f := f) I1.kIn M.makes M.init (beq_iff_eq.mp M.fn) (codeAny_mono (F.run _ X.stack _ _ ⟨Value.ref (s1.heap.objs.size + 1) :: us, []⟩ _ _ _ (WE W σ) room env bind rel spx) fun z s' hz => ?_))
  cases z with
  | error er => exact passAt tk σ pins _ _ er s' made hz
  | ok fl =>
    cases fl with
    | ret u =>
      obtain ⟨v, H', I3, rv, ev, q3⟩ := made.after hz
      subst ev
      exact ⟨rv, V.ref (s1.heap.objs.size + 1), H', I3, rfl, q3⟩
    | next => exact hz.elim
    | brk => exact hz.elim
    | cont => exact hz.elim
end
/-! ### raise X(e) -/
/-- __init__ of an own error: one field kept -/
def spExcInit (K : PySem.W.Frag) (f : Str) : Sp := fun vs H Q _ => ∃ (a C : Addr) (v : V), vs = [.ref a, v] ∧ RB.ExcF K C f ∧ H a = some (exo a C none) ∧ ∀ dx, H dx = none → dx ≠ a → Q .non (upd (upd H dx (exd dx [(f, v)])) a (exo a C (some dx)))
section
variable {X : Cx} {C : Addr} {f x : Str} {k : Nat} {ps : List Str} {e : Expr} {p pos pos2 : Pos} {ta : TA} {W : WX}
def tMkE (C : Addr) (f : Str) (ta : TA) : L2.St → Hp → XK → Prop := fun σ H Q => ta σ H fun vs H1 => ∃ v, vs = [v] ∧ ∀ d, H1 d = none → Q (.ref C) (some d) (upd H1 d (.xd [(f, v)]))
theorem mkE_of {K : PySem.W.Frag} {Q : XK} {vs : List V} {H1 : Hp} (T : RB.ExcF K C f) (h : ∃ v, vs = [v] ∧ ∀ d, H1 d = none → Q (.ref C) (some d) (upd H1 d (.xd [(f, v)]))) :
    vs.length ≤ 1000 ∧ ∀ a, H1 a = none → spExcInit K f (.ref a :: (vs ++ [])) (upd H1 a (exo a C none))
      (fun v H2 => v = .non ∧ ∃ (d : Addr) (fs : List (Str × V)), H2 a = some (exo a C (some d)) ∧ H2 d = some (exd d fs) ∧ H1 d = none ∧ Q (.ref C) (some d) (upd (del H2 a) d (.xd fs))) (fun _ _ _ => False) := by
  obtain ⟨v, rfl, h⟩ := h
  refine ⟨by show 1 ≤ 1000; decide, fun a ha => ⟨a, C, v, rfl, T, upd_same, fun dx hdx nd => ⟨rfl, dx, [(f, v)], upd_same, by rw [upd_ne nd, upd_same], ?_, ?_⟩⟩⟩
  · have := hdx
    rw [upd_ne nd] at this
    exact this
  · have hd : H1 dx = none := by have := hdx; rw [upd_ne nd] at this; exact this
    have e : upd (del (upd (upd (upd H1 a (exo a C none)) dx (exd dx [(f, v)])) a (exo a C (some dx))) a) dx (.xd [(f, v)]) = upd H1 dx (.xd [(f, v)]) := by
      funext b
      by_cases c : b = dx
      · rw [c, upd_same, upd_same]
      · rw [upd_ne c, upd_ne c]
        by_cases z : b = a
        · rw [z, del_same, ha]
        · rw [del_ne z, upd_ne z, upd_ne c, upd_ne z]
    rw [e]
    exact h dx hd
theorem pmk_exc (T : RB.ExcF X.K C f) (c : Callable X.prog X.w X.K X.mg X.base k (He.ma X.K C "__init__") ps [] (spExcInit X.K f)) (hr : Room (k + 1) X.A) (hm : X.mg x = some (.ref C)) (hg : Gl X x) (ha : PA X [e] ta)
    (hdb : (x == ("__debug__" : Str)) = false := by decide) (he : starEach (e :: []) X.env = (false, eval e X.env) :: starEach [] X.env := by rfl) (hpl : (backTo pos (starEach [] X.env)).any (·.1) = false := by rfl) :
    PMk X (.Call (.Name x p) [e] [] pos) (tMkE C f ta) := by
  obtain ⟨fd, ds, F, hd, hb, hk⟩ := c
  have m := pmk_oex (dvs := []) (x := x) (p := p) (pos := pos) T.ox T.ini T.ty F hr hb hd pass0 hg hm ha hdb he hpl
  intro pins s σ H Q I h
  have ha2 : PA X [e] (fun σ0 H0 K0 => ta σ0 H0 (fun vs H1 => ∃ v, vs = [v] ∧ ∀ d, H1 d = none → Q (.ref C) (some d) (upd H1 d (.xd [(f, v)]))) ∧
      ∀ vs H1, (∃ v, vs = [v] ∧ ∀ d, H1 d = none → Q (.ref C) (some d) (upd H1 d (.xd [(f, v)]))) → K0 vs H1) := ⟨fun pos0 pins0 s0 σ0 H0 K0 I0 h0 =>
    wpAny_mono (ha.run pos0 pins0 s0 σ0 H0 _ I0 h0.1) (fun us s1 hz => by
      obtain ⟨vs, H1, I1, r1, q1⟩ := hz
      exact ⟨vs, H1, I1, r1, h0.2 vs H1 q1⟩) (fun _ _ z => z)⟩
  exact pmk_oex (dvs := []) (x := x) (p := p) (pos := pos) T.ox T.ini T.ty F hr hb hd pass0 hg hm ha2 hdb he hpl pins s σ H Q I ⟨h, fun vs H1 q => mkE_of T q⟩
/-- raise X(e) -/
def tExc (C : Addr) (f : Str) (W : WX) (ta : TA) : TS := fun _ σ H => tMkE C f ta σ H fun cls d H' => W cls d σ H'
theorem ps_exc (hc : X.calm = true) (tk : Takes X W) (T : RB.ExcF X.K C f) (c : Callable X.prog X.w X.K X.mg X.base k (He.ma X.K C "__init__") ps [] (spExcInit X.K f)) (hr : Room (k + 1) X.A) (hm : X.mg x = some (.ref C)) (hg : Gl X x) (ha : PA X [e] ta)
    (hdb : (x == ("__debug__" : Str)) = false := by decide) (he : starEach (e :: []) X.env = (false, eval e X.env) :: starEach [] X.env := by rfl) (hpl : (backTo pos (starEach [] X.env)).any (·.1) = false := by rfl) :
    PS X (.Raise (some (.Call (.Name x p) [e] [] pos)) none pos2) (tExc C f W ta) := ps_raise hc tk (pmk_exc T c hr hm hg ha hdb he hpl)
/-- self.f = e in an own error's __init__, the first field -/
theorem init_rd {K : PySem.W.Frag} {D : Ends} {σ : L2.St} {H : Hp} {a C : Addr} {v : V} {to te : TE} (T : RB.ExcF K C f) (h : ∀ (Q : V → Hp → Prop), Q v H → te σ H Q) (h2 : ∀ (Q : V → Hp → Prop), Q (.ref a) H → to σ H Q) (ea : H a = some (exo a C none))
    (q : ∀ dx, H dx = none → dx ≠ a → D.nx σ (upd (upd H dx (exd dx [(f, v)])) a (exo a C (some dx)))) : tOst K f to te D σ H :=
  h _ (h2 _ ⟨a, C, rfl, T.ox, T.no, .inl ⟨ea, q⟩⟩)
end
/-! ### except X as e, several clauses -/
abbrev HdT : Type := Value × Option Nat × (Addr → Value → Option Addr → TS)
/-- the ends of a suite whose slot i goes -/
def Ends.un (D : Ends) (i : Nat) : Ends := { nx := fun σ' H' => D.nx (σ'.set i none) H', rt := D.rt, bk := fun σ' H' => D.bk (σ'.set i none) H', ct := fun σ' H' => D.ct (σ'.set i none) H' }
def wAny (K : PySem.W.Frag) (Wout : WX) (D : Ends) : List HdT → WX
  | [] => Wout
  | (c, none, ts) :: r => fun cls d σ H => ∃ b, PySem.W.exmOne K cls c = some b ∧ (b = true → ∀ a, H a = none → ts a cls d D σ H) ∧ (b = false → wAny K Wout D r cls d σ H)
  | (c, some i, ts) :: r => fun cls d σ H => ∃ b, PySem.W.exmOne K cls c = some b ∧ (b = true → ∀ a, H a = none → ts a cls d (Ends.un D i) (σ.set i (some (.ref a))) H) ∧ (b = false → wAny K Wout D r cls d σ H)
inductive HdA (X : Cx) : List ExceptHandler → List HdT → Prop
  | nil : HdA X [] []
  | plain {x : Str} {c : Value} {ts : Addr → Value → Option Addr → TS} {b : Stmt} {bs : List Stmt} {np pe : Pos} {hds : List ExceptHandler} {l : List HdT} (hc : Names X x c)
      (su : ∀ (a : Addr) (oe : Obj) (cls : Value) (d : Option Addr) (pn : List (Addr × Obj)), Zc cls d oe → (∃ vs, oe.data = .fields vs) → PSs (X.suite a ((a, oe) :: pn)) (b :: bs) (ts a cls d)) (r : HdA X hds l) :
      HdA X (.ExceptHandler (some (.Name x np)) none (b :: bs) pe :: hds) ((c, none, ts) :: l)
  | named {x n : Str} {c : Value} {i : Nat} {ts : Addr → Value → Option Addr → TS} {b : Stmt} {bs : List Stmt} {np pe : Pos} {hds : List ExceptHandler} {l : List HdT} (hN : X.N.Nodup) (hi : X.N[i]? = some n) (hl : X.env.kindOf n = some .local) (hc : Names X x c)
      (su : ∀ (a : Addr) (oe : Obj) (cls : Value) (d : Option Addr) (pn : List (Addr × Obj)), Zc cls d oe → (∃ vs, oe.data = .fields vs) → PSs (X.suite a ((a, oe) :: pn)) (b :: bs) (ts a cls d)) (r : HdA X hds l) :
      HdA X (.ExceptHandler (some (.Name x np)) (some n) (b :: bs) pe :: hds) ((c, some i, ts) :: l)
section
variable {X : Cx} {body : List Stmt} {hd0 : ExceptHandler} {hds : List ExceptHandler} {l : List HdT} {pos : Pos} {tb : WX → TS} {Wout : WX}
/-- what a caught error leaves: looked at by clause after clause -/
theorem hd_go {pins : List (Addr × Obj)} {σq : L2.St} {Hq : Hp} {B : Heap} {a : Addr} {cls : Value} {d : Option Addr} {sq : Shared} {st : Shared} {D : Ends} (ok : X.Ok) (hs : X.stack = X.env :: X.outer) (hf : X.env.frame = some X.env.locals) (tk : Takes X Wout)
    (J : Inv X pins σq Hq sq) (grd : ∀ b o, sq.heap.get? b = some o → b ∉ frs X.stack → B.get? b = some o) (up : sq.heap.UpToSlots st.heap) (free : Hq a = none) (os : st.os = sq.os) (bare : AllBare st.gens)
    (fly : PySem.HandSPX.FlyingZ B (X.env :: X.outer) a (Zc cls d) st.heap) : ∀ {hds : List ExceptHandler} {l : List HdT}, HdA X hds l → wAny X.K Wout D l cls d σq Hq → wpAny (model X.prog X.w) X.A (handleBy (.ref a) X.env hds) (SP X pins D) X.xe st := by
  have J3 : Inv X pins σq Hq st := J.landed grd fly.1 up os bare
  obtain ⟨oA, vA, eA, zA, dA⟩ := fly.there
  have out : a ∉ frs (X.env :: X.outer) := fun hm => by
    obtain ⟨_, o2, e2, nf⟩ := fly.2.2.1.mem hm
    rw [eA] at e2
    cases e2
    exact nf _ dA
  have aL : a ≠ X.env.locals := fun z => out (List.mem_filterMap.mpr ⟨X.env, List.mem_cons_self, hf.trans (congrArg some z.symm)⟩)
  have aF : a ∉ X.fs := fun hm => by
    obtain ⟨v, hv, q⟩ := List.mem_filterMap.mp hm
    exact out (List.mem_filterMap.mpr ⟨v, List.mem_cons_of_mem _ hv, q⟩)
  have S3 := J3.suite eA dA free aL aF
  have ty : PySem.W.Looks (model X.prog X.w) st.heap (typeOf (.ref a)) cls := fun A Q E s kp q => wpAny_typeOf_ref (kp _ _ eA) (by rw [zA.1]; exact q)
  have named : ∀ {x : Str} {c : Value} {np : Pos} {Q : Value → Shared → Prop} {E : Value → Shared → Prop}, Names X x c → Q c st → wpAny (model X.prog X.w) (X.A.mark (some (.ref a))) (eval (.Name x np) X.env) Q E st := fun {x c np Q E} hc q => by
    obtain ⟨g1, g2, g3 | ⟨g3, g4, g5⟩⟩ := hc
    · exact ld_glob (X := X.suite a ((a, oA) :: (X.pn ++ pins))) S3 g1 g3 q g2
    · exact ld_blt (X := X.suite a ((a, oA) :: (X.pn ++ pins))) S3 g1 g3 g4 q g5 g2
  intro hds l hk
  induction hk with
  | nil =>
    intro w
    refine wpAny_handleBy_nil ?_
    obtain ⟨k1, k2, k3, oe, vs, T, oT, ts', he, hz, hd, h1, hr⟩ := id fly
    unfold PySem.passOn
    refine wpAny_bind (wpAny_field he hd h1 ?_)
    rw [if_neg (show ¬((Value.ref T == Value.none) = true) by simp)]
    have last : wpAny (model X.prog X.w) X.A (setFlight (.ref a) X.env.frame) (fun _ s4 => wpAny (model X.prog X.w) X.A (throw (.ref a) : Sem Flow) (SP X pins D) X.xe s4) X.xe st := by
      rw [hf]
      refine PySem.HandSPX.setFlight_upZ fly fun hW held upW => wpAny_throw (tk _ _ ?_)
      exact ⟨a, B, sq, pins, σq, Hq, cls, d, rfl, J, grd, up.trans upW, .inr (.inr (by rw [hs]; exact held)), free, os, bare, w⟩
    first
      | exact wpAny_bind (wpAny_pure (wpAny_bind last))
      | exact wpAny_bind last
  | @plain x c ts b bs np pe hds2 l2 hc su r ih =>
    rintro ⟨z, hz, hyes, hno⟩
    refine wpAny_handleBy_cons (codeAny_handlers_test ?_) (by intro q; cases q)
    refine named hc ((PySem.W.exm_one (M := model X.prog X.w) J3.kIn ty hz).here ?_)
    cases z with
    | false => exact ih (hno rfl)
    | true =>
      refine codeAny_handlers_suite (PySem.HandSPX.lands_againZ fly fun h4 fl4 up4 => ?_)
      have J4 : Inv X pins σq Hq { st with heap := h4 } := J.landed grd fl4.1 (up.trans up4) os bare
      obtain ⟨o4, v4, e4, z4, d4⟩ := fl4.there
      refine wpAny_mono ((su a o4 cls d (X.pn ++ pins) z4 ⟨_, d4⟩).run [] _ _ Hq _ (J4.suite e4 d4 free aL aF) (hyes rfl a free)) (fun fl s6 hsp => ?_) (fun _ _ z => z.elim)
      cases fl with
      | ret u =>
        obtain ⟨v6, σ6, H6, S6, r6, q6⟩ := hsp
        exact ⟨v6, σ6, H6, S6.unsuite ok, r6, q6⟩
      | next =>
        obtain ⟨σ6, H6, S6, q6⟩ := hsp
        exact ⟨σ6, H6, S6.unsuite ok, q6⟩
      | brk =>
        obtain ⟨σ6, H6, S6, q6⟩ := hsp
        exact ⟨σ6, H6, S6.unsuite ok, q6⟩
      | cont =>
        obtain ⟨σ6, H6, S6, q6⟩ := hsp
        exact ⟨σ6, H6, S6.unsuite ok, q6⟩
  | @named x n c i ts b bs np pe hds2 l2 hN hi hl hc su r ih =>
    rintro ⟨z, hz, hyes, hno⟩
    refine wpAny_handleBy_cons (codeAny_handlers_test ?_) (by intro q; cases q)
    refine named hc ((PySem.W.exm_one (M := model X.prog X.w) J3.kIn ty hz).here ?_)
    cases z with
    | false => exact ih (hno rfl)
    | true =>
      refine codeAny_handlers_suite_as (PySem.HandSPX.lands_againZ fly fun h4 fl4 up4 => ?_)
      have J4 : Inv X pins σq Hq { st with heap := h4 } := J.landed grd fl4.1 (up.trans up4) os bare
      obtain ⟨o4, v4, e4, z4, d4⟩ := fl4.there
      refine store_ok (X := X.suite a ((a, o4) :: (X.pn ++ pins))) (v := .ref a) (J4.suite e4 d4 free aL aF) hN hi (.inl hl) rfl (fun s5 S5 => ?_) (.inr hl)
      refine wpAny_mono ((su a o4 cls d (X.pn ++ pins) z4 ⟨_, d4⟩).run [] s5 _ Hq _ S5 (hyes rfl a free)) (fun fl s6 hsp => ?_) (fun _ _ z => z.elim)
      have gone : ∀ {σ6 : L2.St} {H6 : Hp} {Q : Shared → Prop}, Inv (X.suite a ((a, o4) :: (X.pn ++ pins))) [] σ6 H6 s6 → (∀ s7, Inv X pins (σ6.set i none) H6 s7 → Q s7) →
          wpAny (model X.prog X.w) X.A (do bindName X.env n .none; unbindBehindTheSuite X.env n pe) (fun _ s7 => Q s7) X.xe s6 := fun {σ6 H6 Q} S6 hq => gone_ok (S6.unsuite ok) hN hi hl hq
      cases fl with
      | ret u =>
        obtain ⟨v6, σ6, H6, S6, r6, q6⟩ := hsp
        exact gone S6 fun s7 J7 => ⟨v6, _, H6, J7, r6, q6⟩
      | next =>
        obtain ⟨σ6, H6, S6, q6⟩ := hsp
        exact gone S6 fun s7 J7 => ⟨_, H6, J7, q6⟩
      | brk =>
        obtain ⟨σ6, H6, S6, q6⟩ := hsp
        exact gone S6 fun s7 J7 => ⟨_, H6, J7, q6⟩
      | cont =>
        obtain ⟨σ6, H6, S6, q6⟩ := hsp
        exact gone S6 fun s7 J7 => ⟨_, H6, J7, q6⟩
theorem ps_tryA (hs : X.stack = X.env :: X.outer) (hf : X.env.frame = some X.env.locals) (tk : Takes X Wout)
    (hb : ∀ (W : WX) (pn : List (Addr × Obj)) (xe : Value → Shared → Prop), Takes (X.tr pn xe) W → PassesOwn (model X.prog X.w) X.A X.env xe → PSs (X.tr pn xe) body (tb W))
    (hh : HdA X (hd0 :: hds) l) : PS X (.Try body (hd0 :: hds) [] [] pos) (fun D σ H => tb (wAny X.K Wout D l) D σ H) := by
  refine ⟨fun pins s σ H D I h => ?_⟩
  have ok := I.ok
  have fr : X.A.frames = some (X.env :: X.outer) := ok.frames.trans (congrArg some hs)
  refine wpAny_Try_except ?_
  have air : Takes (X.tr (X.pn ++ pins) (fun e s₁ => wpAny (model X.prog X.w) X.A (noteFrame e X.env) (fun _ s₂ => wpAny (model X.prog X.w) X.A (setFlight e none) (fun _ s₃ =>
      wpAny (model X.prog X.w) X.A (handleBy e X.env (hd0 :: hds)) (SP X pins D) X.xe s₃) X.xe s₂) X.xe s₁)) (wAny X.K Wout D l) := fun u s' xx => by
    obtain ⟨a, B, sq, pq, σq, Hq, cls, d, rfl, Jq, grd, up, sky, free, os, bare, w⟩ := xx
    have J : Inv X pins σq Hq sq := Jq.ofTry ok
    have sky2 : Sky B (X.env :: X.outer) a (Zc cls d) X.env.locals s'.heap := hs ▸ sky
    show wpAny (model X.prog X.w) X.A (noteFrame (.ref a) X.env) _ _ _
    refine Sky.land Zc.steady fr hf sky2 fun h3 fly up3 => ?_
    exact hd_go (st := { s' with heap := h3 }) ok hs hf tk J grd (up.trans up3) free os bare fly hh w
  refine wpAny_mono ((hb (wAny X.K Wout D l) (X.pn ++ pins) _ air PassesOwn.looking).run [] s σ H D (I.toTry _) h) (fun fl s1 hsp => ?_) (fun e s1 he => he)
  cases fl with
  | ret u =>
    obtain ⟨v, σ', H', J', r, q⟩ := hsp
    exact ⟨v, σ', H', J'.ofTry ok, r, q⟩
  | next =>
    obtain ⟨σ', H', J', q⟩ := hsp
    exact wpAny_execs_nil ⟨σ', H', J'.ofTry ok, q⟩
  | brk =>
    obtain ⟨σ', H', J', q⟩ := hsp
    exact ⟨σ', H', J'.ofTry ok, q⟩
  | cont =>
    obtain ⟨σ', H', J', q⟩ := hsp
    exact ⟨σ', H', J'.ofTry ok, q⟩
end
end RQ

set_option Elab.async false
set_option linter.all false
set_option maxRecDepth 100000
set_option maxHeartbeats 4000000
/-! Defs called in an except suite, whatever the context of the handled error is. -/
namespace RI
open PySem PySem.Spec PyProof.Rows L2 RC
variable {P : Program} {w : World} {K : PySem.W.Frag} {mg : Str → Option Value} {base : Heap} {f : Addr} {fd : FuncData} {k : Nat} {ps : List Str} {sp : Sp}
/-- what a def promises of a call there -/
structure HotOk (P : Program) (w : World) (K : PySem.W.Frag) (mg : Str → Option Value) (base : Heap)
    (k : Nat) (f : Addr) (fd : FuncData) (ps : List Str) (sp : Sp) : Prop where
  size : ∀ vs H Q, sp vs H Q L2.E0 → vs.length = ps.length
  go : ∀ (A : Around) (st : List Env) (s : Shared) (H : Hp) (us : List Value) (vs : List V) (Q : VK) (p : Addr × Obj),
    L2H.RoomH k A → L2H.PinOk st H s p → Env0 P w K mg base A st s H → BindsTo s fd ⟨us, []⟩ (ps.zip us) →
    Vals vs us → sp vs H Q L2.E0 → codeAny (model P w) A (.call (.ref f) ⟨us, []⟩) (CR L2.CX0 st P w H s Q L2.E0) s
def CallI (P : Program) (w : World) (K : PySem.W.Frag) (mg : Str → Option Value) (base : Heap)
    (k : Nat) (f : Addr) (ps : List Str) (sp : Sp) : Prop :=
  ∃ fd, HotOk P w K mg base k f fd ps sp ∧ Binds K fd ps [] ∧ PySem.W.keepIn K (.ref f) = true
theorem CallI.up {j : Nat} (c : CallI P w K mg base j f ps sp) (h : j ≤ k) : CallI P w K mg base k f ps sp :=
  let ⟨fd, o, r⟩ := c
  ⟨fd, ⟨o.size, fun A st s H us vs Q p hr => o.go A st s H us vs Q p (hr.mono h)⟩, r⟩
theorem stands_callI {x qual : Str} {N : List Str} {st : Stmt} (F : Stands K x qual st [] f) (S : FnScope N ps (defScope st))
    (size : ∀ vs H Q E, sp vs H Q E → vs.length = ps.length)
    (body : ∀ (cdv : Value) (A : Around) (outer : List Env) (s : Shared) (H : Hp) (vs : List V) (Q : VK) (p : Addr × Obj),
      L2H.RoomH k (A.deeper (envOfC qual (defScope st) s.heap.objs.size f cdv)) → sp vs H Q L2.E0 →
      ∃ t, PSs (L2H.cxH L2.CX0 P w K mg base N qual (defScope st) f cdv A outer s H L2.E0 p) (defBody st) t ∧
        t { nx := fun _ H' => Q .non H', rt := Q } (L2.start N vs) H)
    (bind : ∀ (kV doc pm : Value) (an : Option Addr) (cdv ct : Value) (us : List Value), us.length = ps.length →
      bindArgs (PySem.W.fnOf x qual (defArgs st) (defBody st) (defScope st) .none kV doc pm an cdv ct) ⟨us, []⟩ = pure (ps.zip us)) :
    CallI P w K mg base (k + 1) f ps sp := by
  obtain ⟨fd, D⟩ := F
  refine ⟨fd, ⟨fun vs H Q h => size _ _ _ _ h, fun A outer s H us vs Q p hr pin e0 bd rel h => ?_⟩, D.bindsN bind, D.kp⟩
  obtain ⟨oc, od, dV, kV, doc, pm, an, cdv, ct, osl, rfl, look, code, _, _⟩ := D.ex
  have n1 := size _ _ _ _ h
  have inK : K.In s.heap := e0.mod.kin.keeps fun b o e => (e0.bs b o e).1
  have nolim : s.heap.NoLimit := e0.mod.nolimit.keeps fun b o e => (e0.bs b o e).1
  have kinds : ∀ y ∈ ps.zip us, (defScope st).names.lookup y.1 = some .local ∨
      ((defScope st).names.lookup y.1 = some .cell ∧ ((cellsFrom (s.heap.objs.size + 1) (defScope st).names []).lookup y.1).isSome = true) := by
    rintro ⟨n, v⟩ hy
    rcases S.par n (List.of_mem_zip hy).1 with q | q
    · exact .inl q
    · exact .inr ⟨q, PySem.W.cellsFrom_some _ _ _ (.inl q)⟩
  refine codeAny_call_function hr.depth (inK _ _ look) rfl S.co S.gen rfl (PySem.W.codeRec_of inK code) (bd _ _ _ _ ?_)
  refine wpAny_newFunctionEnv_cells S.kind kinds fun env he s1 x => ?_
  subst he
  refine ⟨nolim.keeps x.toInCall.keep, codeAny_func ?_⟩
  obtain ⟨t, ht, hq⟩ := body cdv A outer s H vs Q p (hr.deeper _) h
  have I := L2H.inv_startH (E := L2.E0) (CX := L2.CX0) (w := w) S pin e0 n1 rel x
  refine wpAny_mono (ht.run [] s1 _ H _ I hq) (fun fl s' hs => ?_) fun e s' hs => hs
  rcases fl with _ | _ | _ | u
  · obtain ⟨σ', H', J, q⟩ := hs
    exact ⟨.non, H', J.os, J.bare, J.base, J.hok, rfl, q⟩
  · obtain ⟨_, _, _, q⟩ := hs
    exact q.elim
  · obtain ⟨_, _, _, q⟩ := hs
    exact q.elim
  · obtain ⟨v, σ', H', J, rv, q⟩ := hs
    exact ⟨v, H', J.os, J.bare, J.base, J.hok, rv, q⟩
section
variable {X : Cx} {C : Addr} {m : Str} {pos apos : Pos} {e o : Expr} {es : List Expr} {ta : TE} {t : TA} {pl2 : Sem Bool}
/-- some object is held in the suite -/
def Held0 (X : Cx) : Prop := ∃ p : Addr × Obj, p ∈ X.pn
def tMethI (C : Addr) (m : Str) (sp : Sp) (ta : TE) (t : TA) : TE := fun σ H Q => ta σ H fun x H1 =>
  ∃ a dx fs, x = .ref a ∧ H1 a = some (.ins C dx fs) ∧ fs.lookup m = none ∧ t σ H1 fun vs H2 => sp (x :: vs) H2 Q L2.E0
theorem run_I {pins : List (Addr × Obj)} {σ : L2.St} {H : Hp} {s : Shared} {Q : VK} {us : List Value} {vs : List V}
    (c : CallI X.prog X.w X.K X.mg X.base k f ps sp) (hr : L2H.RoomH k X.A) (hp : Held0 X)
    (I : Inv X pins σ H s) (r : Vals vs us) (h : sp vs H Q L2.E0) : wpAny (model X.prog X.w) X.A (call (.ref f) us) (EP X pins σ Q) X.xe s := by
  obtain ⟨fd, F, hb, hk⟩ := c
  obtain ⟨p, hp⟩ := hp
  have n1 : us.length = ps.length := r.length.symm.trans (F.size _ _ _ h)
  have b := hb s us I.kIn (by rw [List.append_nil]; exact n1)
  rw [List.append_nil] at b
  obtain ⟨q1, q2, q3, q4, q5⟩ := I.pin p (List.mem_append_left _ hp)
  have pin : L2H.PinOk X.stack H s p := ⟨q1, q2, fun z => (List.mem_cons.mp (I.stkSub p.1 z)).elim q3 q4, q5⟩
  refine wpAny_call (codeAny_mono (F.go X.A X.stack s H us vs Q p hr pin I.env0 b r h) fun z s' hz => ?_)
  rcases z with e | fl
  · exact hz.elim
  · rcases fl with _ | _ | _ | u
    · exact hz.elim
    · exact hz.elim
    · exact hz.elim
    · exact I.after hz
/-- o.m(e, ..) there -/
theorem pe_mtI (he : PE X o ta) (cl : Cls X.K C) (hm : Meth X.K C m f) (c : CallI X.prog X.w X.K X.mg X.base k f ps sp)
    (hr : L2H.RoomH k X.A) (hp : Held0 X) (ha : PA X (e :: es) t)
    (hst : starEach (e :: es) X.env = (false, eval e X.env) :: starEach es X.env := by rfl) (hpl : (backTo pos (starEach es X.env)).any (·.1) = false := by rfl)
    (ht : eval (.Call (.Attribute o m apos) (e :: es) [] pos) X.env = (do
      let ov ← eval o X.env
      standAt apos.atName
      let (f, first) ← holding [ov] (getMethod ov m pl2)
      callWith pos f first (backTo pos (starEach (e :: es) X.env)) (backToKw pos (keywordEach [] X.env))) := by rfl) :
    PE X (.Call (.Attribute o m apos) (e :: es) [] pos) (tMethI C m sp ta t) := by
  refine ⟨fun pins s σ H Q I h => ?_⟩
  refine PySem.W.methodCall_KW (pl := pl2) (thn (he.run pins s σ H _ I h) fun u s1 ⟨x, H1, I1, rx, a, dx, fs, ex, ea, nf, q⟩ => ?_) ht
  subst ex
  obtain rfl : u = Value.ref a := rx
  refine getmeth_ok I1 ea cl hm nf ?_
  refine PySem.W.callWith_K (first := [.ref a]) (h₀ := X.base) I.ok.mod.kin hm.kp (thn (ha.run pos pins s1 σ H1 _ I1 q) fun us s2 ⟨vs, H2, I2, r, q2⟩ => ⟨I2.kIn, ?_⟩) hst hpl
  exact run_I (us := .ref a :: us) (vs := .ref a :: vs) c hr hp I2 (.cons rfl r) q2
/-- o.m() there -/
theorem pe_mtI0 (he : PE X o ta) (cl : Cls X.K C) (hm : Meth X.K C m f) (c : CallI X.prog X.w X.K X.mg X.base k f ps sp)
    (hr : L2H.RoomH k X.A) (hp : Held0 X)
    (ht : eval (.Call (.Attribute o m apos) [] [] pos) X.env = (do
      let ov ← eval o X.env
      standAt apos.atName
      let (f, first) ← holding [ov] (getMethod ov m pl2)
      callWith pos f first (backTo pos (starEach [] X.env)) (backToKw pos (keywordEach [] X.env))) := by rfl) :
    PE X (.Call (.Attribute o m apos) [] [] pos) (tMethI C m sp ta tNil) := by
  refine ⟨fun pins s σ H Q I h => ?_⟩
  refine PySem.W.methodCall_KW (pl := pl2) (thn (he.run pins s σ H _ I h) fun u s1 ⟨x, H1, I1, rx, a, dx, fs, ex, ea, nf, q⟩ => ?_) ht
  subst ex
  obtain rfl : u = Value.ref a := rx
  refine getmeth_ok I1 ea cl hm nf ?_
  exact PySem.W.callWith_K0 (first := [.ref a]) I1.kIn hm.kp (run_I (us := [.ref a]) (vs := [.ref a]) c hr hp I1 (.cons rfl .nil) q)
theorem held_of {X : Cx} {a : Addr} {oe : Obj} {pn : List (Addr × Obj)} : Held0 (X.suite a ((a, oe) :: pn)) := ⟨(a, oe), List.mem_cons_self⟩
theorem room_suite {X : Cx} {a : Addr} {pn : List (Addr × Obj)} (hr : Room k X.A) : L2H.RoomH k (X.suite a pn).A := ⟨hr.dp, hr.un⟩
end
end RI

set_option Elab.async false
set_option linter.all false
set_option maxRecDepth 100000
set_option maxHeartbeats 4000000
/-! Own errors raised where nothing is handled (their context is None), and raised anew in an except suite. -/
namespace RH
open PySem PySem.Spec PyProof.Rows L2 RC
/-- as RQ.CallX; an error that leaves has no context -/
def CallN (P : Program) (w : World) (K : PySem.W.Frag) (mg : Str → Option Value) (base : Heap) (k : Nat) (f : Addr) (ps : List Str) (dvs : List V) (sp : Sp) : Prop :=
  ∃ fd ds, FnOk P w K mg base (L2N.CX P w) k f fd ps sp ∧ Vals dvs ds ∧ Binds K fd ps ds ∧ PySem.W.keepIn K (.ref f) = true
theorem cx_weak {P : Program} {w : World} {o : List Env} {H : Hp} {s : Shared} {E : XK} {u : Value} {s' : Shared} (h : L2N.CX P w o H s E u s') : L2.CX P w o H s E u s' := by
  obtain ⟨a, B, H', cls, d, e, fl, r⟩ := h
  exact ⟨a, B, H', cls, d, e, L2H.flyingZ_imp (fun _ z => L2N.Zn.zc z) fl, r⟩
section
variable {P : Program} {w : World} {K : PySem.W.Frag} {mg : Str → Option Value} {base : Heap} {x qual : Str} {dvs : List V} {f : Addr} {k : Nat} {N ps : List Str} {sp : Sp}
theorem CallN.up {j : Nat} (c : CallN P w K mg base j f ps dvs sp) (h : j ≤ k) : CallN P w K mg base k f ps dvs sp :=
  let ⟨fd, ds, F, r⟩ := c
  ⟨fd, ds, F.mono h, r⟩
theorem fn_weak {fd : FuncData} (F : FnOk P w K mg base (L2N.CX P w) k f fd ps sp) : FnOk P w K mg base (L2.CX P w) k f fd ps sp := by
  refine ⟨F.len, fun A outer s H args us vs Q E hr e0 hb r h => codeAny_mono (F.run A outer s H args us vs Q E hr e0 hb r h) fun z s' hz => ?_⟩
  cases z with
  | error e => exact cx_weak hz
  | ok fl => cases fl <;> exact hz
theorem CallN.toX (c : CallN P w K mg base k f ps dvs sp) : RQ.CallX P w K mg base k f ps dvs sp :=
  let ⟨fd, ds, F, r⟩ := c
  ⟨fd, ds, fn_weak F, r⟩
theorem stands_callN0 {st : Stmt} (F : Stands K x qual st [] f) (S : FnScope N ps (defScope st)) (len : ∀ vs H Q E, sp vs H Q E → vs.length = ps.length)
    (body : ∀ (cdv : Value) (A : Around) (outer : List Env) (s : Shared) (H : Hp) (vs : List V) (Q : VK) (E : XK), Room k (A.deeper (envOfC qual (defScope st) s.heap.objs.size f cdv)) → sp vs H Q E →
      ∃ t, PSs (cxOf (L2N.CX P w) P w K mg base N qual (defScope st) f cdv A outer s H E) (defBody st) t ∧ t { nx := fun _ H' => Q .non H', rt := Q } (start N vs) H)
    (bind : ∀ (kV doc pm : Value) (an : Option Addr) (cdv ct : Value) (us : List Value), us.length = ps.length → bindArgs (PySem.W.fnOf x qual (defArgs st) (defBody st) (defScope st) .none kV doc pm an cdv ct) ⟨us, []⟩ = pure (ps.zip us)) :
    CallN P w K mg base (k + 1) f ps [] sp := by
  obtain ⟨fd, F⟩ := F
  have ok : FnOk P w K mg base (L2N.CX P w) (k + 1) f fd ps sp := F.ok S len fun cdv A outer s H vs Q E hr h => body cdv A outer s H vs Q E hr h
  exact ⟨fd, [], ok, .nil, F.bindsN bind, F.kp⟩
end
section
variable {X : Cx} {k : Nat} {f C : Addr} {ps : List Str} {sp : Sp} {dvs : List V} {x m fl : Str} {p pos pos2 apos : Pos} {e o : Expr} {es : List Expr} {ta : TE} {t : TA} {pl : Sem Bool} {W : WX}
/-- f(e, ..), where f may raise an error without context -/
theorem pe_fnN (tk : L2N.Takes X W) (hm : X.mg x = some (.ref f)) (c : CallN X.prog X.w X.K X.mg X.base k f ps dvs sp) (hr : Room k X.A) (hg : Gl X x) (ha : PA X (e :: es) t) (hdb : (x == ("__debug__" : Str)) = false := by decide)
    (he : starEach (e :: es) X.env = (false, eval e X.env) :: starEach es X.env := by rfl) (hpl : (backTo pos (starEach es X.env)).any (·.1) = false := by rfl) : PE X (.Call (.Name x p) (e :: es) [] pos) (tCallSD sp dvs (WE W) t) := by
  obtain ⟨fd, ds, F, hd, hb, hk⟩ := c
  exact pe_callSD F hr hg hm hk hb hd (fun σ => L2N.passAt tk σ) ha hdb he hpl
theorem pe_mtN (tk : L2N.Takes X W) (cl : Cls X.K C) (hm : Meth X.K C m f) (c : CallN X.prog X.w X.K X.mg X.base k f ps dvs sp) (hr : Room k X.A) (he : PE X o ta) (ha : PA X (e :: es) t)
    (hst : starEach (e :: es) X.env = (false, eval e X.env) :: starEach es X.env := by rfl) (hpl : (backTo pos (starEach es X.env)).any (·.1) = false := by rfl)
    (ht : eval (.Call (.Attribute o m apos) (e :: es) [] pos) X.env = (do
      let ov ← eval o X.env
      standAt apos.atName
      let (f, first) ← holding [ov] (getMethod ov m pl)
      callWith pos f first (backTo pos (starEach (e :: es) X.env)) (backToKw pos (keywordEach [] X.env))) := by rfl) :
    PE X (.Call (.Attribute o m apos) (e :: es) [] pos) (RQ.tMethX C m sp dvs (WE W) ta t) := by
  obtain ⟨fd, ds, F, hd, hb, hk⟩ := c
  refine ⟨fun pins s σ H Q I h => ?_⟩
  refine PySem.W.methodCall_KW (pl := pl) (thn (he.run pins s σ H _ I h) fun u s1 ⟨z, H1, I1, rz, a, dx, fs, ez, ea, l, q⟩ => ?_) ht
  subst ez
  obtain rfl : u = Value.ref a := rz
  refine getmeth_ok I1 ea cl hm l ?_
  refine PySem.W.callWith_K (first := [.ref a]) (h₀ := X.base) I.ok.mod.kin hm.kp (thn (ha.run pos pins s1 σ H1 _ I1 q) fun us s2 ⟨ws, H2, I2, r, q2⟩ => ⟨I2.kIn, ?_⟩) hst hpl
  exact run_fnSD (us := .ref a :: us) (vs := .ref a :: ws) F hr hb hd (L2N.passAt tk σ) I2 (.cons rfl r) q2
theorem pe_mtN0 (tk : L2N.Takes X W) (cl : Cls X.K C) (hm : Meth X.K C m f) (c : CallN X.prog X.w X.K X.mg X.base k f ps dvs sp) (hr : Room k X.A) (he : PE X o ta)
    (ht : eval (.Call (.Attribute o m apos) [] [] pos) X.env = (do
      let ov ← eval o X.env
      standAt apos.atName
      let (f, first) ← holding [ov] (getMethod ov m pl)
      callWith pos f first (backTo pos (starEach [] X.env)) (backToKw pos (keywordEach [] X.env))) := by rfl) :
    PE X (.Call (.Attribute o m apos) [] [] pos) (RQ.tMethX C m sp dvs (WE W) ta tNil) := by
  obtain ⟨fd, ds, F, hd, hb, hk⟩ := c
  refine ⟨fun pins s σ H Q I h => ?_⟩
  refine PySem.W.methodCall_KW (pl := pl) (thn (he.run pins s σ H _ I h) fun u s1 ⟨z, H1, I1, rz, a, dx, fs, ez, ea, l, q⟩ => ?_) ht
  subst ez
  obtain rfl : u = Value.ref a := rz
  refine getmeth_ok I1 ea cl hm l ?_
  exact PySem.W.callWith_K0 (first := [.ref a]) I1.kIn hm.kp (run_fnSD (us := [.ref a]) (vs := [.ref a]) F hr hb hd (L2N.passAt tk σ) I1 (.cons rfl .nil) q)
theorem pe_mtX0 (tk : Takes X W) (cl : Cls X.K C) (hm : Meth X.K C m f) (c : RQ.CallX X.prog X.w X.K X.mg X.base k f ps dvs sp) (hr : Room k X.A) (he : PE X o ta)
    (ht : eval (.Call (.Attribute o m apos) [] [] pos) X.env = (do
      let ov ← eval o X.env
      standAt apos.atName
      let (f, first) ← holding [ov] (getMethod ov m pl)
      callWith pos f first (backTo pos (starEach [] X.env)) (backToKw pos (keywordEach [] X.env))) := by rfl) :
    PE X (.Call (.Attribute o m apos) [] [] pos) (RQ.tMethX C m sp dvs (WE W) ta tNil) := by
  obtain ⟨fd, ds, F, hd, hb, hk⟩ := c
  refine ⟨fun pins s σ H Q I h => ?_⟩
  refine PySem.W.methodCall_KW (pl := pl) (thn (he.run pins s σ H _ I h) fun u s1 ⟨z, H1, I1, rz, a, dx, fs, ez, ea, l, q⟩ => ?_) ht
  subst ez
  obtain rfl : u = Value.ref a := rz
  refine getmeth_ok I1 ea cl hm l ?_
  exact PySem.W.callWith_K0 (first := [.ref a]) I1.kIn hm.kp (run_fnSD (us := [.ref a]) (vs := [.ref a]) F hr hb hd (passAt tk σ) I1 (.cons rfl .nil) q)
/-- C(e) of an own error, made where nothing is handled: no context -/
theorem pmk_excN (T : RB.ExcF X.K C fl) (c : Callable X.prog X.w X.K X.mg X.base k (He.ma X.K C "__init__") ps [] (RQ.spExcInit X.K fl)) (hr : Room (k + 1) X.A) (hm : X.mg x = some (.ref C)) (hg : Gl X x) (ha : PA X [e] t)
    (hdb : (x == ("__debug__" : Str)) = false := by decide) (he : starEach (e :: []) X.env = (false, eval e X.env) :: starEach [] X.env := by rfl) (hpl : (backTo pos (starEach [] X.env)).any (·.1) = false := by rfl) :
    L2N.PMk X (.Call (.Name x p) [e] [] pos) (RQ.tMkE C fl t) := by
  obtain ⟨fd, ds, Fi, hd, hb, hk⟩ := c
  cases hd
  intro pins s0 σ0 H0 Q0 I0 h0
  have ox := T.ox
  obtain ⟨nm, qn, N, bs, bm, sn, sub, ab, col, dd, j0, j1, j2, j3, j5, jC, jB⟩ := ox.cls
  refine wpAny_Call_Name_kw (ld_glob I0 hg hm ?_ hdb)
  refine PySem.W.callWith_K (h₀ := X.base) I0.ok.mod.kin ox.kC (thn (ha.run pos pins s0 σ0 H0 _ I0 h0) fun us sA ⟨vs, HA, IA, rA, qA⟩ => ⟨IA.kIn, ?_⟩) he hpl
  show wpAny _ _ (call (.ref C) us) _ _ _
  obtain ⟨big, first⟩ := RQ.mkE_of T qA
  obtain ⟨hp, gs, dr, tks, os⟩ := sA
  generalize eN : hp.objs.size + 1 = nw
  have up : hp.objs.size ≤ nw := eN ▸ Nat.le_succ _
  have free : HA nw = none := IA.hok.fresh up
  have wish := first nw free
  have keep : ∀ b u, hp.get? b = some u → ((hp.push (PySem.W.kdv_tup us)).push (PySem.HandSPX.excO C hp.objs.size)).get? b = some u := fun b u z => Heap.get?_push_of_some _ (Heap.get?_push_of_some _ z)
  have there : ((hp.push (PySem.W.kdv_tup us)).push (PySem.HandSPX.excO C hp.objs.size)).get? nw = some (PySem.HandSPX.excO C hp.objs.size) := by rw [← eN]; heap_get
  have IB : Inv X pins σ0 (upd HA nw (exo nw C none)) ⟨(hp.push (PySem.W.kdv_tup us)).push (PySem.HandSPX.excO C hp.objs.size), gs, dr, tks, os⟩ := IA.laid keep up (exo_ok there)
  have relB : Vals (V.ref nw :: (vs ++ [])) (Value.ref nw :: us) := .cons rfl (by rw [List.append_nil]; exact rA)
  have lenB : (Value.ref nw :: us).length = ps.length := relB.length.symm.trans (Fi.len _ _ _ _ wish)
  have few : us.length ≤ sizeLine := by rw [← Paired.length rA, sizeLine_eq]; omega
  have bindB := hb _ (Value.ref nw :: us) IB.kIn (by rw [List.append_nil]; exact lenB)
  rw [List.append_nil] at bindB
  have call : wpAny (model X.prog X.w) X.A (call (.ref C) us) (L2N.MkP X pins σ0 Q0) X.xe ⟨hp, gs, dr, tks, os⟩ := by
    refine wpAny_call (PySem.HandSPX.call_own F.excBase_ValueError (fun Y => PySem.HandSPX.refsVE_contains Y bm jB) (IA.kIn _ _ jC) (PySem.W.looks_findIn IA.kIn T.ini) (fun self => PySem.W.bind_fn IA.kIn self T.ty) few ?_)
    rw [eN]
    refine codeAny_mono (Fi.run _ X.stack _ _ ⟨Value.ref nw :: us, []⟩ _ _ _ (fun _ _ _ => False) (hr.make C us []) (IB.env0.make C us []) bindB relB wish) fun z sZ hz => ?_
    cases z with
    | error er => exact pass0 pins σ0 _ _ er sZ IB hz
    | ok flw =>
      cases flw with
      | next => exact hz.elim
      | brk => exact hz.elim
      | cont => exact hz.elim
      | ret u =>
        obtain ⟨v, HB, osB, bareB, unB, hokB, rv, ev, d, fs, ea, ed, hd1, qB⟩ := hz
        subst ev
        obtain ⟨hB, gB, dB, tB, osZ⟩ := sZ
        obtain ⟨t0, G, J, kG, ge, hoe, na⟩ := mk_end0 (d2 := dB) (t2 := tB) IA up keep unB hokB osB bareB ea ed hd1
        exact ⟨rv, nw, _, _, ⟨G, gB, dB, tB, osZ⟩, _, .ref C, some d, rfl, J, kG, ge, hoe, ⟨rfl, rfl, fun ws hw => by cases hw; rfl⟩, rfl, rfl, na, rfl, bareB, raises_own ox.exC ox.tyC, qB⟩
  exact call
theorem ps_excN (hc : X.calm = true) (tk : L2N.Takes X W) (T : RB.ExcF X.K C fl) (c : Callable X.prog X.w X.K X.mg X.base k (He.ma X.K C "__init__") ps [] (RQ.spExcInit X.K fl)) (hr : Room (k + 1) X.A) (hm : X.mg x = some (.ref C)) (hg : Gl X x) (ha : PA X [e] t)
    (hdb : (x == ("__debug__" : Str)) = false := by decide) (he : starEach (e :: []) X.env = (false, eval e X.env) :: starEach [] X.env := by rfl) (hpl : (backTo pos (starEach [] X.env)).any (·.1) = false := by rfl) :
    PS X (.Raise (some (.Call (.Name x p) [e] [] pos)) none pos2) (RQ.tExc C fl W t) := L2N.ps_raise hc tk (pmk_excN T c hr hm hg ha hdb he hpl)
end
section
variable {P : Program} {w : World} {K : PySem.W.Frag} {mg : Str → Option Value} {base : Heap} {nm qual : Str} {f : Addr} {k : Nat} {N ps : List Str} {sp : Sp}
/-- an error's __init__, called while another error is handled -/
def InitH (P : Program) (w : World) (K : PySem.W.Frag) (mg : Str → Option Value) (base : Heap) (k : Nat) (f : Addr) (ps : List Str) (sp : Sp) : Prop :=
  ∃ fd, L2H.FnH P w K mg base CX0 k f fd ps sp ∧ Binds K fd ps [] ∧ PySem.W.keepIn K (.ref f) = true
theorem stands_initH {st : Stmt} (F : Stands K nm qual st [] f) (S : FnScope N ps (defScope st)) (size : ∀ vs H Q E, sp vs H Q E → vs.length = ps.length)
    (body : ∀ (cdv : Value) (A : Around) (outer : List Env) (s : Shared) (H : Hp) (vs : List V) (Q : VK) (E : XK) (p : Addr × Obj), L2H.RoomH k (A.deeper (envOfC qual (defScope st) s.heap.objs.size f cdv)) → sp vs H Q E →
      ∃ t, PSs (L2H.cxH CX0 P w K mg base N qual (defScope st) f cdv A outer s H E p) (defBody st) t ∧ t { nx := fun _ H' => Q .non H', rt := Q } (L2.start N vs) H)
    (bind : ∀ (kV doc pm : Value) (an : Option Addr) (cdv ct : Value) (us : List Value), us.length = ps.length → bindArgs (PySem.W.fnOf nm qual (defArgs st) (defBody st) (defScope st) .none kV doc pm an cdv ct) ⟨us, []⟩ = pure (ps.zip us)) :
    InitH P w K mg base (k + 1) f ps sp := by
  obtain ⟨fd, D⟩ := F
  obtain ⟨oc, od, dV, kV, doc, pm, an, cdv, ct, osl, rfl, look, code, _, _⟩ := D.ex
  exact ⟨_, L2H.fn_ofH look code S size fun A outer s H vs Q E p _ hr h => body cdv A outer s H vs Q E p hr h, D.bindsN bind, D.kp⟩
end
section
variable {X : Cx} {k : Nat} {C : Addr} {ps : List Str} {x fl : Str} {p pos pos2 : Pos} {e : Expr} {t : TA} {W : WX}
theorem pmk_excH (T : RB.ExcF X.K C fl) (c : InitH X.prog X.w X.K X.mg X.base k (He.ma X.K C "__init__") ps (RQ.spExcInit X.K fl)) (hr : L2H.RoomH (k + 1) X.A) (hot : L2H.HotC X) (hm : X.mg x = some (.ref C)) (hg : Gl X x) (ha : PA X [e] t)
    (hdb : (x == ("__debug__" : Str)) = false := by decide) (he : starEach (e :: []) X.env = (false, eval e X.env) :: starEach [] X.env := by rfl) (hpl : (backTo pos (starEach [] X.env)).any (·.1) = false := by rfl) :
    L2N.PMk X (.Call (.Name x p) [e] [] pos) (RQ.tMkE C fl t) := by
  obtain ⟨fd, Fi, hb, hk⟩ := c
  intro pins s σ H Q I h
  have both : PA X [e] (fun σ0 H0 K0 => t σ0 H0 (fun vs H1 => ∃ v, vs = [v] ∧ ∀ d, H1 d = none → Q (.ref C) (some d) (upd H1 d (.xd [(fl, v)]))) ∧
      ∀ vs H1, (∃ v, vs = [v] ∧ ∀ d, H1 d = none → Q (.ref C) (some d) (upd H1 d (.xd [(fl, v)]))) → K0 vs H1) := ⟨fun pos0 pins0 s0 σ0 H0 K0 I0 h0 =>
    wpAny_mono (ha.run pos0 pins0 s0 σ0 H0 _ I0 h0.1) (fun us s1 ⟨vs, H1, I1, r1, q1⟩ => ⟨vs, H1, I1, r1, h0.2 vs H1 q1⟩) (fun _ _ z => z)⟩
  exact (L2H.pmk5_oexH (x := x) (p := p) (pos := pos) T.ox T.ini T.ty Fi hr hot hb pass0 hg hm both hdb he hpl).pmk pins s σ H Q I ⟨h, fun vs H1 q => RQ.mkE_of T q⟩
/-- raise C(e) in an except suite -/
theorem ps_excH (hot : L2H.HotC X) (tk : L2.Takes X W) (T : RB.ExcF X.K C fl) (c : InitH X.prog X.w X.K X.mg X.base k (He.ma X.K C "__init__") ps (RQ.spExcInit X.K fl)) (hr : L2H.RoomH (k + 1) X.A) (hm : X.mg x = some (.ref C)) (hg : Gl X x) (ha : PA X [e] t)
    (hdb : (x == ("__debug__" : Str)) = false := by decide) (he : starEach (e :: []) X.env = (false, eval e X.env) :: starEach [] X.env := by rfl) (hpl : (backTo pos (starEach [] X.env)).any (·.1) = false := by rfl) :
    PS X (.Raise (some (.Call (.Name x p) [e] [] pos)) none pos2) (RQ.tExc C fl W t) := L2H.ps_raiseH hot tk (pmk_excH T c hr hot hm hg ha hdb he hpl)
end
end RH

set_option Elab.async false
set_option linter.all false
set_option maxRecDepth 100000
set_option maxHeartbeats 4000000
/-! None as a key: d.get(x, z) where x may be None. -/
namespace RZN
open PySem PySem.Spec PyProof.Rows L2 RC
section
variable {X : Cx} {pins : List (Addr × Obj)} {σ : L2.St} {H : Hp} {s : Shared} {a : Addr} {kvs : List (Key × V)} {A : Around} {E : Value → Shared → Prop} {r : Value}
theorem none_get2 {Q : Value → Shared → Prop} (I : Inv X pins σ H s) (e : Rd H a (.dK kvs)) (h : ∀ s', Inv X pins σ H s' → Q r s') :
    wpAny (model X.prog X.w) A (call (.builtin "dict.get") [.ref a, .none, r]) Q E s := by
  obtain ⟨_, hd, vs, rel, dd⟩ := dk_rd I.hok e
  obtain ⟨g, mp, g0⟩ := none_map dd
  refine call_meetsIn PySem.F.slot_dict_get dd.typeIs PySem.F.entry_dict_get (PySem.F.args_dict_get_3 _ _ _) (meets_dict_get_default (noneKind X.prog X.w) a (show (noneKind X.prog X.w).is none .none = true from rfl) hd r) ⟨g, mp, ?_⟩
  rw [g0]
  exact h _ (I.tok _)
end
def tDGetN2 (td ty tx : TE) : TE := fun σ H Q => td σ H fun x H1 => ∃ a, x = .ref a ∧ IsD H1 a ∧ ty σ H1 fun y H2 => tx σ H2 fun z H3 => (∃ o, DGet H3 a y o ∧ Q (o.getD z) H3) ∨ ∃ kvs, y = .non ∧ Rd H3 a (.dK kvs) ∧ Q z H3
section
variable {X : Cx} {o e f : Expr} {td ty tx : TE} {apos cpos : Pos}
theorem pe_dgetN2 (hu : X.A.units + 1 < cLine) (ho : PE X o td) (he : PE X e ty) (hf : PE X f tx) (m : M2 X o "get" apos e f cpos) : PE X (.Call (.Attribute o "get" apos) [e, f] [] cpos) (tDGetN2 td ty tx) := by
  refine ⟨fun pins s σ H Q I h => ?_⟩
  refine wpAny_Call_method m.base m.few m.line PySem.F.plainAttrs_dict PySem.F.slot_dict_get PySem.F.type_dict_get (thn (ho.run pins s σ H _ I h) fun du sA ⟨x, HA, IA, rx, a, ex, isd, qA⟩ => ?_)
  subst ex
  obtain rfl : du = Value.ref a := rx
  obtain ⟨k1, k2, _⟩ := isD_at IA isd
  refine ⟨k1, k2, ?_⟩
  rw [m.trees]
  refine Calls.callWith_builtin rfl (Calls.evalArgs_plain (Calls.spliced_cons (thn (he.run pins sA σ HA _ IA qA) fun ku sB ⟨y, HB, IB, ry, qB⟩ =>
    Calls.spliced_cons (thn (hf.run pins sB σ HB _ IB qB) fun zu sC ⟨z, HC, IC, rz, qC⟩ => Calls.spliced_nil ?_))))
  rcases qC with ⟨ov, g, q⟩ | ⟨kvs, ey, g, q⟩
  · exact d_get2 hu IC g ry rz fun w' sD ID rw' => ⟨_, HC, ID, rw', q⟩
  · subst ey
    obtain rfl : ku = Value.none := ry
    exact none_get2 IC g fun sD ID => ⟨z, HC, ID, rz, q⟩
end
end RZN

set_option Elab.async false
set_option linter.all false
set_option maxRecDepth 100000
set_option maxHeartbeats 4000000
/-! Formats with dollars, over lists of signs. -/
namespace RP
abbrev S := List Nat
def letters : S := [97,98,99,100,101,102,103,104,105,106,107,108,109,110,111,112,113,114,115,116,117,118,119,120,121,122,65,66,67,68,69,70,71,72,73,74,75,76,77,78,79,80,81,82,83,84,85,86,87,88,89,90,95]
def digits : S := [48,49,50,51,52,53,54,55,56,57]
def letB (c : Nat) : Bool := decide (c ∈ letters)
def digB (c : Nat) : Bool := decide (c ∈ digits)
def nameB (c : Nat) : Bool := letB c || digB c
/-- the length of the longest name that begins here -/
def nmLen : S → Nat
  | [] => 0
  | c :: r => if letB c then 1 + (r.takeWhile nameB).length else 0
theorem nm_cons (a : Nat) (r : S) : nmLen (a :: r) = if letB a = true then 1 + (r.takeWhile nameB).length else 0 := rfl
def contB (l : S) (k : Nat) : Bool := match l[k]? with
  | none => false
  | some c => letB c || (decide (0 < k) && digB c)
theorem tw_at {p : Nat → Bool} : ∀ (l : S) (k : Nat), k < (l.takeWhile p).length → ∃ c, l[k]? = some c ∧ p c = true
  | [], k, h => by cases h
  | a :: r, k, h => by
    rw [List.takeWhile_cons] at h
    cases e : p a with
    | false => rw [e] at h; cases h
    | true =>
      rw [e] at h
      cases k with
      | zero => exact ⟨a, rfl, e⟩
      | succ k => exact tw_at r k (Nat.lt_of_succ_lt_succ h)
theorem tw_end {p : Nat → Bool} : ∀ (l : S) (c : Nat), l[(l.takeWhile p).length]? = some c → p c = false
  | [], c, h => by cases h
  | a :: r, c, h => by
    rw [List.takeWhile_cons] at h
    cases e : p a with
    | false => rw [e] at h; cases h; exact e
    | true => rw [e] at h; exact tw_end r c h
theorem cont_lt {l : S} {k : Nat} (h : k < nmLen l) : contB l k = true := by
  cases l with
  | nil => cases h
  | cons a r =>
    rw [nm_cons] at h
    cases e : letB a with
    | false => rw [e] at h; cases h
    | true =>
      rw [e, if_pos rfl] at h
      cases k with
      | zero => show (letB a || _) = true; rw [e]; rfl
      | succ k =>
        obtain ⟨c, h1, h2⟩ := tw_at (p := nameB) r k (by omega)
        unfold contB
        rw [List.getElem?_cons_succ, h1]
        show (letB c || (decide (0 < k + 1) && digB c)) = true
        rw [decide_eq_true (Nat.succ_pos k), Bool.true_and]
        exact h2
theorem cont_end (l : S) : contB l (nmLen l) = false := by
  cases l with
  | nil => rfl
  | cons a r =>
    cases e : letB a with
    | false =>
      have z : nmLen (a :: r) = 0 := by rw [nm_cons, e]; rfl
      rw [z]
      show (letB a || (false && digB a)) = false
      rw [e]; rfl
    | true =>
      have z : nmLen (a :: r) = (r.takeWhile nameB).length + 1 := by rw [nm_cons, e, if_pos rfl, Nat.add_comm]
      rw [z]
      unfold contB
      rw [List.getElem?_cons_succ]
      cases h : r[(r.takeWhile nameB).length]? with
      | none => rfl
      | some c =>
        have q := tw_end (p := nameB) r c h
        show (letB c || (decide (0 < _ + 1) && digB c)) = false
        rw [decide_eq_true (Nat.succ_pos _), Bool.true_and]
        exact q
theorem tw_le {p : Nat → Bool} : ∀ l : S, (l.takeWhile p).length ≤ l.length
  | [] => Nat.le_refl _
  | a :: r => by
    rw [List.takeWhile_cons]
    split
    · exact Nat.succ_le_succ (tw_le r)
    · exact Nat.zero_le _
theorem nm_le (l : S) : nmLen l ≤ l.length := by
  cases l with
  | nil => exact Nat.le_refl _
  | cons a r =>
    rw [nm_cons]
    have := tw_le (p := nameB) r
    rw [List.length_cons]
    split <;> omega
/-- behind a dollar sign: the name, and how many signs the field has -/
def fieldD : S → Option (S × Nat)
  | 123 :: r => if nmLen r = 0 then none else if (r.drop (nmLen r)).head? = some 125 then some (r.take (nmLen r), nmLen r + 2) else none
  | l => if nmLen l = 0 then none else some (l.take (nmLen l), nmLen l)
abbrev Pt := Nat ⊕ S
inductive PD : S → Option (List Pt) → Prop
  | nil : PD [] (some [])
  | dd {r : S} {o : Option (List Pt)} : PD r o → PD (36 :: 36 :: r) (o.map (Sum.inl 36 :: ·))
  | fld {l n : S} {k : Nat} {o : Option (List Pt)} : l.head? ≠ some 36 → fieldD l = some (n, k) → PD (l.drop k) o → PD (36 :: l) (o.map (Sum.inr n :: ·))
  | bad {l : S} : l.head? ≠ some 36 → fieldD l = none → PD (36 :: l) none
  | ch {c : Nat} {r : S} {o : Option (List Pt)} : c ≠ 36 → PD r o → PD (c :: r) (o.map (Sum.inl c :: ·))
/-! ### how formats are written -/
def esc : S → S
  | [] => []
  | c :: r => if c = 36 then 36 :: 36 :: esc r else c :: esc r
abbrev Fm := S ⊕ S
/-- a name of letters, digits and _, the first one no digit -/
def nmOk (n : S) : Bool := match n with
  | [] => false
  | c :: r => letB c && r.all nameB
inductive Rnd : List Fm → S → Prop
  | nil : Rnd [] []
  | text {t s : S} {ps : List Fm} : Rnd ps s → Rnd (.inl t :: ps) (esc t ++ s)
  | bare {n s : S} {ps : List Fm} : nmOk n = true → (∀ c, s.head? = some c → nameB c = false) → Rnd ps s → Rnd (.inr n :: ps) (36 :: (n ++ s))
  | brace {n s : S} {ps : List Fm} : nmOk n = true → Rnd ps s → Rnd (.inr n :: ps) (36 :: 123 :: (n ++ 125 :: s))
def flat : List Fm → List Pt
  | [] => []
  | .inl t :: r => t.map Sum.inl ++ flat r
  | .inr n :: r => .inr n :: flat r
theorem nm_of {n s : S} (h : nmOk n = true) (e : ∀ c, s.head? = some c → nameB c = false) : nmLen (n ++ s) = n.length := by
  cases n with
  | nil => cases h
  | cons a r =>
    obtain ⟨h1, h2⟩ := Bool.and_eq_true_iff.mp h
    show (if letB a then 1 + ((r ++ s).takeWhile nameB).length else 0) = r.length + 1
    rw [if_pos h1]
    have z : ((r ++ s).takeWhile nameB).length = r.length := by
      clear h h1
      induction r with
      | nil =>
        cases s with
        | nil => rfl
        | cons c s => show (List.takeWhile nameB (c :: s)).length = 0; rw [List.takeWhile_cons, e c rfl]; rfl
      | cons b r ih =>
        obtain ⟨h3, h4⟩ := Bool.and_eq_true_iff.mp (show (nameB b && r.all nameB) = true from h2)
        show (List.takeWhile nameB (b :: (r ++ s))).length = r.length + 1
        rw [List.takeWhile_cons, h3]
        exact congrArg Nat.succ (ih h4)
    rw [z, Nat.add_comm]
theorem nm_of_tw {n s : S} (h : nmOk n = true) : nmLen (n ++ s) = n.length + (s.takeWhile nameB).length := by
  cases n with
  | nil => cases h
  | cons a r =>
    obtain ⟨h1, h2⟩ := Bool.and_eq_true_iff.mp h
    show (if letB a then 1 + ((r ++ s).takeWhile nameB).length else 0) = r.length + 1 + _
    rw [if_pos h1]
    have z : ((r ++ s).takeWhile nameB).length = r.length + (s.takeWhile nameB).length := by
      clear h h1
      induction r with
      | nil => exact (Nat.zero_add _).symm
      | cons b r ih =>
        obtain ⟨h3, h4⟩ := Bool.and_eq_true_iff.mp (show (nameB b && r.all nameB) = true from h2)
        show (List.takeWhile nameB (b :: (r ++ s))).length = r.length + 1 + _
        rw [List.takeWhile_cons, h3]
        have := ih h4
        show ((r ++ s).takeWhile nameB).length + 1 = _
        omega
    omega
theorem let_ne {c : Nat} (h : letB c = true) : c ≠ 36 ∧ c ≠ 123 := by
  constructor
  · intro z; rw [z] at h; revert h; decide
  · intro z; rw [z] at h; revert h; decide
theorem ok_head {n s : S} (h : nmOk n = true) : (∃ c r, n ++ s = c :: r ∧ letB c = true) := by
  cases n with
  | nil => cases h
  | cons a r => exact ⟨a, r ++ s, rfl, (Bool.and_eq_true_iff.mp h).1⟩
theorem field_bare {l : S} (h : l.head? ≠ some 123) : fieldD l = if nmLen l = 0 then none else some (l.take (nmLen l), nmLen l) := by
  unfold fieldD
  split
  · exact absurd rfl h
  · rfl
theorem pd_text {o : Option (List Pt)} {s : S} (h : PD s o) : ∀ t : S, PD (esc t ++ s) (o.map ((t.map Sum.inl) ++ ·))
  | [] => by
    have e : o.map (([] : List Pt) ++ ·) = o := by cases o <;> rfl
    show PD s (o.map (([] : List Pt) ++ ·))
    rw [e]; exact h
  | c :: t => by
    have ih := pd_text h t
    have e : o.map (((c :: t).map Sum.inl : List Pt) ++ ·) = (o.map ((t.map Sum.inl : List Pt) ++ ·)).map (Sum.inl c :: ·) := by cases o <;> rfl
    rw [e]
    unfold esc
    split
    · rename_i z; subst z; exact .dd ih
    · rename_i z; exact .ch z ih
theorem pd_bare {o : Option (List Pt)} {n s : S} (hn : nmOk n = true) (k : PD (s.dropWhile nameB) o) : PD (36 :: (n ++ s)) (o.map (Sum.inr (n ++ s.takeWhile nameB) :: ·)) := by
  obtain ⟨c, r, e, hc⟩ := ok_head (s := s) hn
  have l1 := nm_of_tw (s := s) hn
  have hd : (s.takeWhile nameB) ++ s.dropWhile nameB = s := List.takeWhile_append_dropWhile
  have sp : n ++ s = (n ++ s.takeWhile nameB) ++ s.dropWhile nameB := by rw [List.append_assoc, hd]
  have ln : n.length + (s.takeWhile nameB).length = (n ++ s.takeWhile nameB).length := (List.length_append ..).symm
  have t1 : (n ++ s).take (n.length + (s.takeWhile nameB).length) = n ++ s.takeWhile nameB := by rw [ln, sp, List.take_left]
  have d1 : (n ++ s).drop (n.length + (s.takeWhile nameB).length) = s.dropWhile nameB := by rw [ln, sp, List.drop_left]
  have pos : nmLen (n ++ s) ≠ 0 := by
    rw [l1]
    cases n with
    | nil => cases hn
    | cons a n => rw [List.length_cons]; omega
  refine .fld (k := nmLen (n ++ s)) (by rw [e]; intro z; exact (let_ne hc).1 (Option.some.inj z)) ?_ (by rw [l1, d1]; exact k)
  rw [field_bare (by rw [e]; intro z; exact (let_ne hc).2 (Option.some.inj z)), if_neg pos, l1, t1]
theorem pd_brace {o : Option (List Pt)} {n s : S} (hn : nmOk n = true) (k : PD s o) : PD (36 :: 123 :: (n ++ 125 :: s)) (o.map (Sum.inr n :: ·)) := by
  have l1 := nm_of (n := n) (s := 125 :: s) hn (fun c e => by cases e; decide)
  have pos : nmLen (n ++ 125 :: s) ≠ 0 := by
    rw [l1]
    cases n with
    | nil => cases hn
    | cons a n => rw [List.length_cons]; omega
  refine .fld (k := n.length + 2) (by intro z; cases z) ?_ ?_
  · show (if nmLen (n ++ 125 :: s) = 0 then none else if ((n ++ 125 :: s).drop (nmLen (n ++ 125 :: s))).head? = some 125 then some ((n ++ 125 :: s).take (nmLen (n ++ 125 :: s)), nmLen (n ++ 125 :: s) + 2) else none) = _
    rw [if_neg pos, l1, List.drop_left, if_pos (show (125 :: s).head? = some 125 from rfl), List.take_left]
  · have e : (123 :: (n ++ 125 :: s)).drop (n.length + 2) = s := by
      show (n ++ 125 :: s).drop (n.length + 1) = s
      rw [show n ++ 125 :: s = (n ++ [125]) ++ s by simp, show n.length + 1 = (n ++ [125]).length by simp, List.drop_left]
    rw [e]; exact k
/-- what is written is read again -/
theorem rnd_pd : ∀ {ps : List Fm} {s : S}, Rnd ps s → PD s (some (flat ps))
  | _, _, .nil => .nil
  | _, _, .text (t := t) h => pd_text (rnd_pd h) t
  | _, _, .bare (n := n) (s := s) hn e h => by
    have z : s.takeWhile nameB = [] := by
      cases s with
      | nil => rfl
      | cons c s => rw [List.takeWhile_cons, e c rfl]; rfl
    have z2 : s.dropWhile nameB = s := by
      cases s with
      | nil => rfl
      | cons c s => rw [List.dropWhile_cons, e c rfl]; rfl
    have := pd_bare (o := some _) (s := s) hn (by rw [z2]; exact rnd_pd h)
    rw [z, List.append_nil] at this
    exact this
  | _, _, .brace hn h => pd_brace (o := some _) hn (rnd_pd h)
/-- what is broken behind what is written is broken -/
theorem rnd_bad {X : S} (h1 : PD X none) (h2 : PD (X.dropWhile nameB) none) : ∀ {ps : List Fm} {s : S}, Rnd ps s → PD (s ++ X) none
  | _, _, .nil => h1
  | _, _, .text (t := t) h => by rw [List.append_assoc]; exact pd_text (rnd_bad h1 h2 h) t
  | _, _, .bare (n := n) (s := s) hn e h => by
    rw [List.cons_append, List.append_assoc]
    cases s with
    | nil => exact pd_bare (o := none) hn (by rw [List.nil_append]; exact h2)
    | cons c s =>
      have z : (c :: s ++ X).dropWhile nameB = c :: s ++ X := by rw [List.cons_append, List.dropWhile_cons, e c rfl]; rfl
      exact pd_bare (o := none) hn (by rw [z]; exact rnd_bad h1 h2 h)
  | _, _, .brace (n := n) (s := s) hn h => by
    have e : (36 :: 123 :: (n ++ 125 :: s)) ++ X = 36 :: 123 :: (n ++ 125 :: (s ++ X)) := by simp
    rw [e]
    exact pd_brace (o := none) hn (rnd_bad h1 h2 h)
/-- without its first signs, as far as they are of names, it is still written -/
theorem rnd_drop : ∀ {ps : List Fm} {s : S}, Rnd ps s → ∃ qs, Rnd qs (s.dropWhile nameB)
  | _, _, .nil => ⟨[], .nil⟩
  | _, _, .bare (n := n) (s := s) hn e h => ⟨_, by
    have z : (36 :: (n ++ s)).dropWhile nameB = 36 :: (n ++ s) := by rw [List.dropWhile_cons, show nameB 36 = false from by decide]; rfl
    rw [z]; exact .bare hn e h⟩
  | _, _, .brace (n := n) (s := s) hn h => ⟨_, by
    have z : (36 :: 123 :: (n ++ 125 :: s)).dropWhile nameB = 36 :: 123 :: (n ++ 125 :: s) := by rw [List.dropWhile_cons, show nameB 36 = false from by decide]; rfl
    rw [z]; exact .brace hn h⟩
  | _, _, .text (t := t) (s := s) (ps := ps) h => by
    induction t with
    | nil => exact rnd_drop h
    | cons c t ih =>
      cases e : nameB c with
      | true =>
        have nc : c ≠ 36 := fun z => by rw [z] at e; revert e; decide
        have z : (esc (c :: t) ++ s).dropWhile nameB = (esc t ++ s).dropWhile nameB := by
          have q : esc (c :: t) = c :: esc t := by show (if c = 36 then _ else _) = _; rw [if_neg nc]
          rw [q, List.cons_append, List.dropWhile_cons, e, if_pos rfl]
        rw [z]; exact ih
      | false =>
        refine ⟨.inl (c :: t) :: ps, ?_⟩
        have z : (esc (c :: t) ++ s).dropWhile nameB = esc (c :: t) ++ s := by
          by_cases d : c = 36
          · subst d
            show (36 :: 36 :: (esc t ++ s)).dropWhile nameB = _
            rw [List.dropWhile_cons, e]; simp [esc]
          · have q : esc (c :: t) = c :: esc t := by show (if c = 36 then _ else _) = _; rw [if_neg d]
            rw [q, List.cons_append, List.dropWhile_cons, e]; rfl
        rw [z]; exact .text h
theorem drop_app {b tail : S} (h : ∀ c, tail.head? = some c → nameB c = false) : (b ++ tail).dropWhile nameB = b.dropWhile nameB ++ tail := by
  induction b with
  | nil =>
    cases tail with
    | nil => rfl
    | cons c t => show (c :: t).dropWhile nameB = _; rw [List.dropWhile_cons, h c rfl]; rfl
  | cons a b ih =>
    rw [List.cons_append, List.dropWhile_cons, List.dropWhile_cons]
    cases nameB a with
    | true => exact ih
    | false => rfl
/-- ahead, behind, something broken at the end that begins with a dollar -/
theorem bad_end {as bs : List Fm} {a b r : S} (ha : Rnd as a) (hb : Rnd bs b) (h : PD (36 :: r) none) : PD (a ++ (b ++ 36 :: r)) none := by
  have h36 : ∀ c, (36 :: r).head? = some c → nameB c = false := fun c e => by cases e; decide
  have hd : (36 :: r).dropWhile nameB = 36 :: r := by rw [List.dropWhile_cons, show nameB 36 = false from by decide]; rfl
  have h2 : PD ((36 :: r).dropWhile nameB) none := by rw [hd]; exact h
  refine rnd_bad (rnd_bad h h2 hb) ?_ ha
  rw [drop_app h36]
  obtain ⟨qs, hq⟩ := rnd_drop hb
  exact rnd_bad h h2 hq
/-- ahead, something broken that begins with a dollar, anything -/
theorem bad_mid {as : List Fm} {a r : S} (ha : Rnd as a) (h : PD (36 :: r) none) : PD (a ++ 36 :: r) none := by
  refine rnd_bad h ?_ ha
  rw [List.dropWhile_cons, show nameB 36 = false from by decide]; exact h
end RP

set_option Elab.async false
set_option linter.all false
set_option maxRecDepth 100000
set_option maxHeartbeats 4000000
/-! Formats in braces, over lists of signs. -/
namespace RO
open RP (S nmLen digB letB nameB digits letters)
def alB (c : Nat) : Bool := decide (c ∈ ([60, 62, 94] : S))
def wdB (l : S) : Bool := (decide (0 < l.length) && decide (l.length < 3)) && (decide (l.head? ≠ some 48) && l.all digB)
/-- fill, align, width as they stand -/
def cut3 : S → S × S × S
  | c :: d :: r => if alB d then ([c], [d], r) else if alB c then ([32], [c], d :: r) else ([32], [], c :: d :: r)
  | [c] => if alB c then ([32], [c], []) else ([32], [], [c])
  | [] => ([32], [], [])
def okB (f a w : S) : Bool := !(decide (f = [123]) || decide (f = [125])) && !(decide (w = []) && decide (a = [])) && (decide (w = []) || wdB w)
def specB (l : S) : Option (S × S × S) := if okB (cut3 l).1 (cut3 l).2.1 (cut3 l).2.2 then some (cut3 l) else none
/-- the conversion, and what is behind it -/
def conv (l : S) : S × S := if l.take 2 = [33, 114] ∨ l.take 2 = [33, 115] then ((l.drop 1).take 1, l.drop 2) else ([], l)
abbrev Fd := S × S × S × S × S
def fieldB (b : S) : Option Fd :=
  if nmLen b = 0 then none else
  match (conv (b.drop (nmLen b))).2 with
  | [] => some (b.take (nmLen b), (conv (b.drop (nmLen b))).1, [32], [], [])
  | c :: r => if c = 58 then (specB r).map fun q => (b.take (nmLen b), (conv (b.drop (nmLen b))).1, q) else none
abbrev Pt := Nat ⊕ Fd
inductive PB : S → Option (List Pt) → Prop
  | nil : PB [] (some [])
  | two {c : Nat} {r : S} {o : Option (List Pt)} : c = 123 ∨ c = 125 → PB r o → PB (c :: c :: r) (o.map (Sum.inl c :: ·))
  | ch {c : Nat} {r : S} {o : Option (List Pt)} : c ≠ 123 → c ≠ 125 → PB r o → PB (c :: r) (o.map (Sum.inl c :: ·))
  | close {r : S} : r.head? ≠ some 125 → PB (125 :: r) none
  | lost {r : S} : r.head? ≠ some 123 → 125 ∉ r → PB (123 :: r) none
  | bad {b r : S} : (b ++ 125 :: r).head? ≠ some 123 → 125 ∉ b → fieldB b = none → PB (123 :: (b ++ 125 :: r)) none
  | fld {b r : S} {f : Fd} {o : Option (List Pt)} : (b ++ 125 :: r).head? ≠ some 123 → 125 ∉ b → fieldB b = some f → PB r o → PB (123 :: (b ++ 125 :: r)) (o.map (Sum.inr f :: ·))
theorem split : ∀ r : S, 125 ∈ r → ∃ b t, r = b ++ 125 :: t ∧ 125 ∉ b
  | [], h => nomatch h
  | c :: r, h => by
    by_cases e : c = 125
    · subst e; exact ⟨[], r, rfl, fun h => nomatch h⟩
    · rcases List.mem_cons.mp h with h | h
      · exact absurd h.symm e
      · obtain ⟨b, t, rfl, hb⟩ := split r h
        refine ⟨c :: b, t, rfl, fun h => ?_⟩
        rcases List.mem_cons.mp h with h | h
        · exact e h.symm
        · exact hb h
theorem total : ∀ (n : Nat) (s : S), s.length ≤ n → ∃ o, PB s o
  | _, [], _ => ⟨_, .nil⟩
  | 0, _ :: _, h => absurd h (Nat.not_succ_le_zero _)
  | n + 1, c :: r, h => by
    have hr : r.length ≤ n := Nat.le_of_succ_le_succ h
    by_cases e1 : c = 123
    · subst e1
      by_cases e : r.head? = some 123
      · cases r with
        | nil => cases e
        | cons d r =>
          cases e
          obtain ⟨o, ho⟩ := total n r (Nat.le_of_succ_le hr)
          exact ⟨_, .two (.inl rfl) ho⟩
      · by_cases m : 125 ∈ r
        · obtain ⟨b, t, rfl, hb⟩ := split r m
          cases f : fieldB b with
          | none => exact ⟨_, .bad e hb f⟩
          | some f' =>
            obtain ⟨o, ho⟩ := total n t (by rw [List.length_append, List.length_cons] at hr; omega)
            exact ⟨_, .fld e hb f ho⟩
        · exact ⟨_, .lost e m⟩
    · by_cases e2 : c = 125
      · subst e2
        by_cases e : r.head? = some 125
        · cases r with
          | nil => cases e
          | cons d r =>
            cases e
            obtain ⟨o, ho⟩ := total n r (Nat.le_of_succ_le hr)
            exact ⟨_, .two (.inr rfl) ho⟩
        · exact ⟨_, .close e⟩
      · obtain ⟨o, ho⟩ := total n r hr
        exact ⟨_, .ch e1 e2 ho⟩
/-- how many braces -/
def brB (c : Nat) : Bool := decide (c = 123 ∨ c = 125)
def cnt (s : S) : Nat := s.countP brB
theorem cnt_app (a b : S) : cnt (a ++ b) = cnt a + cnt b := List.countP_append ..
theorem cnt_zero {s : S} (h : ∀ c ∈ s, c ≠ 123 ∧ c ≠ 125) : cnt s = 0 := by
  unfold cnt
  rw [List.countP_eq_zero]
  intro c hc
  obtain ⟨h1, h2⟩ := h c hc
  unfold brB
  simp [h1, h2]
theorem name_no {c : Nat} (h : nameB c = true) : c ≠ 123 ∧ c ≠ 125 := by
  constructor <;> intro z <;> rw [z] at h <;> revert h <;> decide
theorem dig_no {c : Nat} (h : digB c = true) : c ≠ 123 ∧ c ≠ 125 := by
  constructor <;> intro z <;> rw [z] at h <;> revert h <;> decide
theorem al_no {c : Nat} (h : alB c = true) : c ≠ 123 ∧ c ≠ 125 := by
  constructor <;> intro z <;> rw [z] at h <;> revert h <;> decide
theorem tw_mem {p : Nat → Bool} {c : Nat} : ∀ l : S, c ∈ l.takeWhile p → p c = true
  | [], h => nomatch h
  | a :: r, h => by
    rw [List.takeWhile_cons] at h
    cases e : p a with
    | false => rw [e] at h; cases h
    | true =>
      rw [e] at h
      rcases List.mem_cons.mp h with h | h
      · subst h; exact e
      · exact tw_mem r h
theorem nm_no : ∀ b : S, ∀ c ∈ b.take (nmLen b), c ≠ 123 ∧ c ≠ 125
  | [], _, h => nomatch h
  | a :: r, c, h => by
    rw [RP.nm_cons] at h
    split at h
    · rename_i ha
      rw [show 1 + (r.takeWhile nameB).length = (r.takeWhile nameB).length + 1 by omega, List.take_succ_cons] at h
      rcases List.mem_cons.mp h with h | h
      · subst h; exact name_no (by show (letB c || _) = true; rw [ha]; rfl)
      · refine name_no ?_
        have e : r.take (r.takeWhile nameB).length = r.takeWhile nameB := by
          have hd : r.takeWhile nameB ++ r.dropWhile nameB = r := List.takeWhile_append_dropWhile
          conv => lhs; rw [← hd]
          rw [show (List.takeWhile nameB (List.takeWhile nameB r ++ List.dropWhile nameB r)).length = (List.takeWhile nameB r).length by rw [hd], List.take_left]
        rw [e] at h
        exact tw_mem r h
    · cases h
theorem cut_two (c d : Nat) (r : S) : cut3 (c :: d :: r) = if alB d = true then ([c], [d], r) else if alB c = true then ([32], [c], d :: r) else ([32], [], c :: d :: r) := rfl
theorem cut_one (c : Nat) : cut3 [c] = if alB c = true then ([32], [c], []) else ([32], [], [c]) := rfl
theorem spec_no {l : S} {q : S × S × S} (h : specB l = some q) : ∀ c ∈ l, c ≠ 123 ∧ c ≠ 125 := by
  unfold specB at h
  split at h
  · rename_i hk
    unfold okB at hk
    rw [Bool.and_eq_true, Bool.and_eq_true] at hk
    obtain ⟨⟨h1, _⟩, h3⟩ := hk
    have wno : ∀ w : S, (decide (w = []) || wdB w) = true → ∀ c ∈ w, c ≠ 123 ∧ c ≠ 125 := fun w hw c hc => by
      rcases Bool.or_eq_true_iff.mp hw with z | z
      · rw [of_decide_eq_true z] at hc; cases hc
      · unfold wdB at z
        rw [Bool.and_eq_true] at z
        exact dig_no (List.all_eq_true.mp (Bool.and_eq_true_iff.mp z.2).2 c hc)
    have fno : ∀ c : Nat, (!(decide (([c] : S) = [123]) || decide (([c] : S) = [125]))) = true → c ≠ 123 ∧ c ≠ 125 := fun c hc => by
      constructor <;> intro z <;> rw [z] at hc <;> revert hc <;> decide
    intro c hc
    match l, h1, h3, hc with
    | [], _, _, hc => cases hc
    | [a], h1, h3, hc =>
      obtain rfl := List.mem_singleton.mp hc
      rw [cut_one] at h3
      by_cases ha : alB c = true
      · exact al_no ha
      · rw [if_neg ha] at h3
        exact wno _ h3 _ List.mem_cons_self
    | a :: d :: r, h1, h3, hc =>
      rw [cut_two] at h1 h3
      by_cases hd : alB d = true
      · rw [if_pos hd] at h1 h3
        rcases List.mem_cons.mp hc with rfl | hc
        · exact fno _ h1
        rcases List.mem_cons.mp hc with rfl | hc
        · exact al_no hd
        · exact wno _ h3 _ hc
      · rw [if_neg hd] at h1 h3
        by_cases ha : alB a = true
        · rw [if_pos ha] at h1 h3
          rcases List.mem_cons.mp hc with rfl | hc
          · exact al_no ha
          · exact wno _ h3 _ hc
        · rw [if_neg ha] at h1 h3
          exact wno _ h3 _ hc
  · cases h
theorem conv_no {l r : S} (h : (conv l).2 = r) (hr : ∀ c ∈ r, c ≠ 123 ∧ c ≠ 125) : ∀ c ∈ l, c ≠ 123 ∧ c ≠ 125 := by
  unfold conv at h
  by_cases k : l.take 2 = [33, 114] ∨ l.take 2 = [33, 115]
  · rw [if_pos k] at h
    intro c hc
    rw [← List.take_append_drop 2 l, List.mem_append] at hc
    rcases hc with hc | hc
    · rcases k with k | k
      · rw [k] at hc
        rcases List.mem_cons.mp hc with rfl | hc
        · decide
        · obtain rfl := List.mem_singleton.mp hc; decide
      · rw [k] at hc
        rcases List.mem_cons.mp hc with rfl | hc
        · decide
        · obtain rfl := List.mem_singleton.mp hc; decide
    · exact hr c (h ▸ hc)
  · rw [if_neg k] at h
    subst h; exact hr
theorem field_no {b : S} {f : Fd} (h : fieldB b = some f) : ∀ c ∈ b, c ≠ 123 ∧ c ≠ 125 := by
  unfold fieldB at h
  split at h
  · cases h
  · have tail : ∀ c ∈ b.drop (nmLen b), c ≠ 123 ∧ c ≠ 125 := by
      split at h
      · rename_i e
        exact conv_no e fun c hc => nomatch hc
      · rename_i c r e
        by_cases k : c = 58
        · rw [if_pos k] at h
          cases q : specB r with
          | none => rw [q] at h; cases h
          | some q' =>
            refine conv_no e fun x hx => ?_
            rcases List.mem_cons.mp hx with rfl | hx
            · subst k; decide
            · exact spec_no q x hx
        · rw [if_neg k] at h; cases h
    intro c hc
    rw [← List.take_append_drop (nmLen b) b, List.mem_append] at hc
    rcases hc with hc | hc
    · exact nm_no b c hc
    · exact tail c hc
/-- a right format holds an even number of braces -/
theorem even : ∀ {s : S} {o : Option (List Pt)}, PB s o → o ≠ none → cnt s % 2 = 0
  | _, _, .nil, _ => rfl
  | _, _, .two (c := c) (r := r) (o := o) hc h, k => by
    have ih := even h (fun z => k (by rw [z]; rfl))
    have e : cnt (c :: c :: r) = cnt r + 2 := by
      unfold cnt
      rw [List.countP_cons, List.countP_cons, if_pos (show brB c = true from decide_eq_true hc)]
    rw [e]; omega
  | _, _, .ch (c := c) (r := r) h1 h2 h, k => by
    have ih := even h (fun z => k (by rw [z]; rfl))
    have e : cnt (c :: r) = cnt r := by
      unfold cnt
      rw [List.countP_cons, if_neg (show ¬ brB c = true from fun z => (of_decide_eq_true z).elim h1 h2)]; rfl
    rw [e]; exact ih
  | _, _, .close _, k => absurd rfl k
  | _, _, .lost _ _, k => absurd rfl k
  | _, _, .bad _ _ _, k => absurd rfl k
  | _, _, .fld (b := b) (r := r) _ _ hf h, k => by
    have ih := even h (fun z => k (by rw [z]; rfl))
    have e : cnt (123 :: (b ++ 125 :: r)) = cnt r + 2 := by
      show cnt ([123] ++ (b ++ ([125] ++ r))) = _
      rw [cnt_app, cnt_app, cnt_app, cnt_zero (field_no hf)]
      show 1 + (0 + (1 + cnt r)) = _
      omega
    rw [e]; omega
/-- an odd number: broken -/
theorem odd_none {s : S} (h : cnt s % 2 = 1) : PB s none := by
  obtain ⟨o, ho⟩ := total s.length s (Nat.le_refl _)
  cases o with
  | none => exact ho
  | some ps => have := even ho (fun z => nomatch z); omega
/-- a piece: read as these parts whatever follows -/
def Pc (p : S) (fs : List Pt) : Prop := ∀ (X : S) (o : Option (List Pt)), PB X o → PB (p ++ X) (o.map (fs ++ ·))
theorem Pc.nil : Pc [] [] := fun X o h => by
  have e : o.map (([] : List Pt) ++ ·) = o := by cases o <;> rfl
  rw [e]; exact h
theorem Pc.app {p q : S} {fs gs : List Pt} (h : Pc p fs) (k : Pc q gs) : Pc (p ++ q) (fs ++ gs) := fun X o hX => by
  have e : o.map ((fs ++ gs) ++ ·) = (o.map (gs ++ ·)).map (fs ++ ·) := by cases o <;> simp
  rw [e, List.append_assoc]
  exact h _ _ (k _ _ hX)
theorem Pc.right {p : S} {fs : List Pt} (h : Pc p fs) : PB p (some fs) := by
  have := h [] _ .nil
  rw [List.append_nil] at this
  rw [show some fs = (some ([] : List Pt)).map (fs ++ ·) by simp]
  exact this
theorem Pc.wrong {p X : S} {fs : List Pt} (h : Pc p fs) (k : PB X none) : PB (p ++ X) none := h X none k
def escB : S → S
  | [] => []
  | c :: r => if c = 123 ∨ c = 125 then c :: c :: escB r else c :: escB r
theorem Pc.text : ∀ t : S, Pc (escB t) (t.map Sum.inl)
  | [] => Pc.nil
  | c :: t => fun X o h => by
    have ih := Pc.text t X o h
    have e : o.map ((c :: t).map Sum.inl ++ ·) = (o.map ((t.map Sum.inl : List Pt) ++ ·)).map (Sum.inl c :: ·) := by cases o <;> rfl
    rw [e]
    unfold escB
    by_cases k : c = 123 ∨ c = 125
    · rw [if_pos k]; exact .two k ih
    · rw [if_neg k]; exact .ch (fun z => k (.inl z)) (fun z => k (.inr z)) ih
theorem Pc.field {b : S} {f : Fd} (h : fieldB b = some f) : Pc (123 :: (b ++ [125])) [Sum.inr f] := fun X o hX => by
  have no := field_no h
  have e : 123 :: (b ++ [125]) ++ X = 123 :: (b ++ 125 :: X) := by simp
  rw [e]
  refine .fld (fun z => ?_) (fun z => (no _ z).2 rfl) h hX
  cases b with
  | nil => cases z
  | cons c b => exact (no c List.mem_cons_self).1 (Option.some.inj z)
theorem field_bad {b : S} (h : fieldB b = none) (h1 : 125 ∉ b) (h2 : b.head? ≠ some 123) (X : S) : PB (123 :: (b ++ 125 :: X)) none := by
  refine .bad (fun z => ?_) h1 h
  cases b with
  | nil => cases z
  | cons c b => exact h2 z
end RO

set_option Elab.async false
set_option linter.all false
set_option maxRecDepth 100000
set_option maxHeartbeats 0

namespace K17
open PySem PySem.Spec PyProof.Rows L2 RC
section
variable {P : Program} {w : World} {K : PySem.W.Frag} {mg : Str → Option Value} {base : Heap}
/-! ### messages -/
abbrev CBm (K : PySem.W.Frag) : Addr := He.ga K "BadMessage"
abbrev CBf (K : PySem.W.Frag) : Addr := He.ga K "BadField"
theorem ok_badmessage_init {f : Addr} (T : Txt P w K mg) (F : Stands K "__init__" "BadMessage.__init__" s_BadMessage_init [] f) : Callable P w K mg base 1 f ["self", "msg"] [] (RQ.spExcInit K "msg") := by
  refine F.call0 sc_BadMessage_init (fun vs H Q E h => ?_) (fun cdv A outer s H vs Q E hr h => ?_) (fun _ _ _ _ _ _ us hl => match us, hl with | [_, _], _ => rfl)
  · obtain ⟨a, C, v, rfl, _⟩ := h; rfl
  obtain ⟨a, C, v, rfl, hx, ha, hQ⟩ := h
  refine ⟨_, (pss_one (ps_ost (pv 0) (pv 1))), ?_⟩
  walk_at "in"
  exact RQ.init_rd hx (fun Q h => ⟨_, rfl, h⟩) (fun Q h => ⟨_, rfl, h⟩) ha hQ
theorem ok_badfield_init {f : Addr} (T : Txt P w K mg) (F : Stands K "__init__" "BadField.__init__" s_BadField_init [] f) : Callable P w K mg base 1 f ["self", "name"] [] (RQ.spExcInit K "name") := by
  refine F.call0 sc_BadField_init (fun vs H Q E h => ?_) (fun cdv A outer s H vs Q E hr h => ?_) (fun _ _ _ _ _ _ us hl => match us, hl with | [_, _], _ => rfl)
  · obtain ⟨a, C, v, rfl, _⟩ := h; rfl
  obtain ⟨a, C, v, rfl, hx, ha, hQ⟩ := h
  refine ⟨_, (pss_one (ps_ost (pv 0) (pv 1))), ?_⟩
  walk_at "in"
  exact RQ.init_rd hx (fun Q h => ⟨_, rfl, h⟩) (fun Q h => ⟨_, rfl, h⟩) ha hQ
theorem two_invM : ∀ {s : SS} {as : List SS} {o : Option SS}, PM s as o → ∀ {c : Nat} {r : SS}, s = c :: c :: r → (c = 123 ∨ c = 125) → ∃ o2, PM r as o2 ∧ o = o2.map (c :: ·)
  | _, _, _, .nil, _, _, e, _ => by cases e
  | _, _, _, .left, _, _, e, _ => by cases e
  | _, _, _, .two _ h, _, _, e, _ => by cases e; exact ⟨_, h, rfl⟩
  | _, _, _, .ch h1 h2 _, _, _, e, hc => by cases e; exact (hc.elim h1 h2).elim
  | _, _, _, .arg h, _, _, e, _ => by cases e
  | _, _, _, .bad _ h _, _, _, e, _ => by cases e; exact absurd rfl h
def spMsgOf (K : PySem.W.Frag) : Sp := fun vs H Q E => ∃ (z : Str) (a : Addr) (xs : List V) (o : Option SS), vs = [.str z, .ref a] ∧ H a = some (.tup xs) ∧ (∀ x ∈ xs, PArg x) ∧ z.length ≤ 2000 ∧ xs.length ≤ 100 ∧ PM z.cps.toList (xs.map argS) o ∧
  (∀ (t : SS) (H' : Hp), o = some t → Same H H' → Q (.str (tx t)) H') ∧ (∀ (d : Addr) (H1 : Hp), o = none → Same H H1 → H1 d = none → E (.ref (CBm K)) (some d) (upd H1 d (.xd [("msg", .str z)])))
theorem s_pair : Str.ofString "{}" = tx [123, 125] := by decide +kernel
/-- what holds in the loop -/
def MInv (H : Hp) (z : Str) (a p : Addr) (xs : List V) (o : Option SS) (m : Nat) (σ : L2.St) (H' : Hp) : Prop := Same H H' ∧ ∃ (i u : Nat) (ws : List Str) (o' : Option SS) (a1 b1 : Option V), m = z.length - i ∧ i ≤ z.length ∧ u ≤ xs.length ∧ ws.length ≤ i ∧ (catS ws).length ≤ i + 2000 * u ∧ H' p = some (.lst (ws.map V.str)) ∧ PM (z.cps.toList.drop i) ((xs.drop u).map argS) o' ∧ o = o'.map (catS ws ++ ·) ∧
    σ = [some (.str z), some (.ref a), some (.ref p), some (.int (i : Nat)), some (.int (u : Nat)), a1, b1]
theorem ok_message_of {f : Addr} (T : Txt P w K mg) (F : Stands K "message_of" "message_of" s_message_of [] f) (c_BadMessage_init : Callable P w K mg base 1 (He.ma K (He.ga K "BadMessage") "__init__") ["self", "msg"] [] (RQ.spExcInit K "msg")) : RH.CallN P w K mg base 4 f ["msg", "args"] [] (spMsgOf K) := by
  refine RH.stands_callN0 F sc_message_of (fun vs H Q E h => ?_) (fun cdv A outer s H vs Q E hr h => ?_) (fun _ _ _ _ _ _ us hl => match us, hl with | [_, _], _ => rfl)
  · obtain ⟨z, a, xs, o, rfl, _⟩ := h; rfl
  obtain ⟨z, a, xs, o, rfl, ha, hx, hz, hl, hP, hQ, hE⟩ := h
  refine ⟨_, (pss_cons (ps_par3 (by rfl) sc_message_of.nd (i := 2) (j := 3) (l := 4) rfl rfl rfl (by decide) (by decide) (by decide) rfl rfl rfl (pa_cons (pe_lst pa_nil) (pa_cons pe_int (pa_cons pe_int pa_nil))) (by rfl))
      (pss_cons (ps_while (passes_of rfl) (pt_cmpR op_lt (pv 3) (pe_callB call_len_str (by rfl) T.b_len (by decide +kernel) (pa_cons (pv 0) pa_nil)) (nomark _)) (pss_cons (ps_par (by rfl) sc_message_of.nd (i := 5) (j := 6) rfl rfl (by decide) rfl rfl (pa_cons (pe_ix ix_str (pv 0) (pv 3) (fun _ _ => rfl)) (pa_cons (pe_slice sl_str (pv 0) (po_some (pv 3)) (po_some (pe_op op_add (pv 3) pe_int))) pa_nil)) (by rfl))
      (pss_one (ps_if (pt_cmpR (show OpR _ (compareOp .NotIn) (rIn K true) from op_notIn_seq) (pv 5) (pe_tup (pa_cons pe_str (pa_cons pe_str pa_nil))) (by rfl)) (pss_cons (ps_expr (pe_bm PySem.F.plainAttrs_list PySem.F.slot_list_append PySem.F.type_list_append mt_append (pv 2) (pa_cons (pv 5) pa_nil)))
      (pss_one (ps_aug (i := 3) sc_message_of.nd rfl (by first | exact Or.inl rfl | exact Or.inr rfl) pe_int ip_add))) (pss_one (ps_if (pt_cmpR op_in_seq (pv 6) (pe_tup (pa_cons pe_str (pa_cons pe_str pa_nil))) (by rfl)) (pss_cons (ps_expr (pe_bm PySem.F.plainAttrs_list PySem.F.slot_list_append PySem.F.type_list_append mt_append (pv 2) (pa_cons (pv 5) pa_nil)))
      (pss_one (ps_aug (i := 3) sc_message_of.nd rfl (by first | exact Or.inl rfl | exact Or.inr rfl) pe_int ip_add))) (pss_one (ps_if (PW.pt (pw_and (pt_cmpR op_eq (pv 6) pe_str (nomark _)) (pw_and1 (pt_cmpR op_lt (pv 4) (pe_callB call_len (by rfl) T.b_len (by decide +kernel) (pa_cons (pv 1) pa_nil)) (nomark _))))) (pss_cons (ps_expr (pe_bm PySem.F.plainAttrs_list PySem.F.slot_list_append PySem.F.type_list_append mt_append (pv 2) (pa_cons (RA.PE.or (pe_callTy call_str_int (by rfl) T.b_str (by decide +kernel) (pa_cons (pe_ix ix_tup (pv 1) (pv 4) (fun _ _ => rfl)) pa_nil)) (pe_callTy SkE.call_str_str (by rfl) T.b_str (by decide +kernel) (pa_cons (pe_ix ix_tup (pv 1) (pv 4) (fun _ _ => rfl)) pa_nil))) pa_nil)))
      (pss_cons (ps_aug (i := 4) sc_message_of.nd rfl (by first | exact Or.inl rfl | exact Or.inr rfl) pe_int ip_add)
      (pss_one (ps_aug (i := 3) sc_message_of.nd rfl (by first | exact Or.inl rfl | exact Or.inr rfl) pe_int ip_add)))) (pss_one (RH.ps_excN rfl (L2N.takes_of rfl rfl rfl rfl) T.x_BadMessage c_BadMessage_init (hr.mono (by first | decide | exact Nat.le_refl _)) T.g_BadMessage (by rfl) (pa_cons (pv 0) pa_nil)))))))))))
      (pss_cons (ps_if (pt_cmpR op_lt (pv 4) (pe_callB call_len (by rfl) T.b_len (by decide +kernel) (pa_cons (pv 1) pa_nil)) (nomark _)) (pss_one (RH.ps_excN rfl (L2N.takes_of rfl rfl rfl rfl) T.x_BadMessage c_BadMessage_init (hr.mono (by first | decide | exact Nat.le_refl _)) T.g_BadMessage (by rfl) (pa_cons (pv 0) pa_nil))) pss_nil)
      (pss_one (ps_ret (pe_join pe_str (pv 2))))))), ?_⟩
  walk_at "in"
  dsimp only [cxK2]
  have hlz : z.cps.toList.length = z.length := Array.length_toList ..
  have hz2 : z.length ≤ sizeLine := by rw [sizeLine_eq]; omega
  walk_at "go"
  intro p fp
  walk_at "go"
  have npa : p ≠ a := fun e => by rw [e, ha] at fp; cases fp
  refine ⟨MInv H z a p xs o, ⟨_, same_new fp _, 0, 0, [], o, _, _, rfl, Nat.zero_le _, Nat.zero_le _, Nat.zero_le _, Nat.zero_le _, upd_same, hP, by cases o <;> rfl, rfl⟩, ?_⟩
  rintro m σ H1 ⟨s1, i, u, ws, o', a1, b1, rfl, hi, hu, hw, hcl, hp, hd, ho, rfl⟩
  have ha1 := s1 _ _ ha
  rw [s_open2, s_close2, s_open, s_close, s_pair]
  by_cases c : i < z.length
  · have t1 : decide (((i : Nat) : Int) < (z.length : Nat)) = true := decide_eq_true (by omega)
    have c2 : cutS z (some (i : Int)) (some ((i : Int) + 2)) = tx ((z.cps.toList.drop i).take 2) := cut_two hi
    obtain ⟨ch, hc⟩ : ∃ ch, z.cps.toList[i]? = some ch := ⟨_, List.getElem?_eq_getElem (by rw [hlz]; exact c)⟩
    have hat : atI z.cps.toList ((i : Nat) : Int) = some ch := atI_nat hc
    have hdr : z.cps.toList.drop i = ch :: z.cps.toList.drop (i + 1) := by
      obtain ⟨h1, h2⟩ := List.getElem?_eq_some_iff.mp hc
      rw [← h2]; exact List.drop_eq_getElem_cons h1
    generalize hr0 : z.cps.toList.drop (i + 1) = r at hdr
    have hlr : r.length = z.length - (i + 1) := by rw [← hr0, List.length_drop, hlz]
    rw [hdr] at hd c2
    have hsz : (ws.map V.str).length < sizeLine := by rw [List.length_map, sizeLine_eq]; omega
    have next : ∀ (j u2 : Nat) (e e2 : Int) (w : Str) (H2 : Hp) (o2 : Option SS) (a2 b2 : Option V), e = (j : Int) → e2 = (u2 : Int) → i < j → j ≤ z.length → u2 ≤ xs.length → (catS ws).length + w.length ≤ j + 2000 * u2 → Same H1 H2 → PM (z.cps.toList.drop j) ((xs.drop u2).map argS) o2 → o = o2.map ((catS ws ++ w.cps.toList) ++ ·) →
        ∃ m', m' < z.length - i ∧ MInv H z a p xs o m' [some (.str z), some (.ref a), some (.ref p), some (.int e), some (.int e2), a2, b2] (upd H2 p (.lst (ws.map V.str ++ [.str w]))) := fun j u2 e e2 w H2 o2 a2 b2 h1 h2 h3 h4 h5 h6 h7 h8 h9 =>
      ⟨z.length - j, by omega, fun b v hb => (by rw [upd_ne (ne_of_none hb fp)]; exact h7 _ _ (s1 _ _ hb)), j, u2, ws ++ [w], o2, a2, b2, rfl, h4, h5, by rw [List.length_append]; show ws.length + 1 ≤ j; omega, by
        have hw2 : w.cps.toList.length = w.length := Array.length_toList ..
        rw [catS_snoc, List.length_append, hw2]; exact h6, by rw [upd_same, List.map_append]; rfl, h8, by rw [catS_snoc]; exact h9, by rw [h1, h2]⟩
    walk_at "go"
    obtain ⟨N, hN⟩ : ∃ N : L2.St → Hp → Prop, N = fun σ' H' => ∃ m', m' < z.length - i ∧ MInv H z a p xs o m' σ' H' := ⟨_, rfl⟩
    refine ⟨N, fun σ' H' h => by rw [hN] at h; exact h, ?_⟩
    walk_at "go"
    intro q fq
    have s2 : Same H1 (upd H1 q (.tup [.str (tx [123]), .str (tx [125])])) := same_new fq _
    have hq : (upd H1 q (.tup [.str (tx [123]), .str (tx [125])])) q = some (.tup [.str (tx [123]), .str (tx [125])]) := upd_same
    generalize upd H1 q (.tup [.str (tx [123]), .str (tx [125])]) = H2 at s2 hq ⊢
    have hp2 := s2 _ _ hp
    have ha2 := s2 _ _ ha1
    refine ⟨q, _, rfl, .inr (SqT.of hq), rfl, rfl, _, rfl, ?_⟩
    have vG : inV (.str ⟨#[ch]⟩) [V.str (tx [123]), V.str (tx [125])] = decide ([ch] ∈ ([[123], [125]] : List (List Nat))) := inV_tx [ch] [[123], [125]]
    have mG : (ch = 123 ∨ ch = 125) → [ch] ∈ ([[123], [125]] : List (List Nat)) := fun h => by rcases h with rfl | rfl <;> decide
    generalize hg : (xs.drop u).map argS = as at hd
    have e1 : tx [ch] = ⟨#[ch]⟩ := rfl
    have l1 : (⟨#[ch]⟩ : Str).length = 1 := rfl
    cases hd with
    | @ch _ _ _ o2 h1 h2 h3 =>
      have v1 : (!inV (.str ⟨#[ch]⟩) [V.str (tx [123]), V.str (tx [125])]) = true := by
        rw [vG, decide_eq_false fun h => ?_]; rfl
        rcases List.mem_cons.mp h with h | h
        · cases h; exact h1 rfl
        · cases List.mem_singleton.mp h; exact h2 rfl
      refine iteT' v1 ?_
      walk_at "go"
      rw [hN]
      refine next (i + 1) u ((i : Int) + 1) (u : Nat) ⟨#[ch]⟩ H2 o2 _ _ (by omega) rfl (by omega) (by omega) hu (by rw [l1]; omega) s2 (by rw [hr0, hg]; exact h3) ?_
      rw [ho]; cases o2 <;> simp
    | @two _ r2 _ o2 h1 h3 =>
      have v1 : (!inV (.str ⟨#[ch]⟩) [V.str (tx [123]), V.str (tx [125])]) = false := by rw [vG, decide_eq_true (mG h1)]; rfl
      refine iteF' v1 ?_
      walk_at "go"
      intro q2 fq2
      have s3 := s2.trans (same_new fq2 (.tup [.str (tx [123, 123]), .str (tx [125, 125])]))
      have hp3 := same_new fq2 (.tup [.str (tx [123, 123]), .str (tx [125, 125])]) _ _ hp2
      have hq2 : (upd H2 q2 (.tup [.str (tx [123, 123]), .str (tx [125, 125])])) q2 = some (.tup [.str (tx [123, 123]), .str (tx [125, 125])]) := upd_same
      generalize upd H2 q2 (.tup [.str (tx [123, 123]), .str (tx [125, 125])]) = H3 at s3 hp3 hq2 ⊢
      refine ⟨q2, _, rfl, .inr (SqT.of hq2), rfl, rfl, _, rfl, ?_⟩
      have vF : inV (.str (cutS z (some (i : Int)) (some ((i : Int) + 2)))) [V.str (tx [123, 123]), V.str (tx [125, 125])] = true := by
        rw [c2]
        refine (inV_tx _ [[123, 123], [125, 125]]).trans (decide_eq_true ?_)
        rcases h1 with rfl | rfl
        · exact List.mem_cons_self
        · exact List.mem_cons_of_mem _ List.mem_cons_self
      refine iteT' vF ?_
      walk_at "go"
      rw [List.length_cons] at hlr
      rw [hN]
      refine next (i + 2) u ((i : Int) + 2) (u : Nat) ⟨#[ch]⟩ H3 o2 _ _ (by omega) rfl (by omega) (by omega) hu (by rw [l1]; omega) s3 (by rw [show i + 2 = (i + 1) + 1 by omega, ← List.drop_drop, hr0, hg]; exact h3) ?_
      rw [ho]; cases o2 <;> simp
    | @arg r2 a0 as o2 h3 =>
      have v1 : (!inV (.str ⟨#[123]⟩) [V.str (tx [123]), V.str (tx [125])]) = false := by rw [vG, decide_eq_true (mG (.inl rfl))]; rfl
      refine iteF' v1 ?_
      walk_at "go"
      intro q2 fq2
      have s3 := s2.trans (same_new fq2 (.tup [.str (tx [123, 123]), .str (tx [125, 125])]))
      have hp3 := same_new fq2 (.tup [.str (tx [123, 123]), .str (tx [125, 125])]) _ _ hp2
      have hq2 : (upd H2 q2 (.tup [.str (tx [123, 123]), .str (tx [125, 125])])) q2 = some (.tup [.str (tx [123, 123]), .str (tx [125, 125])]) := upd_same
      generalize upd H2 q2 (.tup [.str (tx [123, 123]), .str (tx [125, 125])]) = H3 at s3 hp3 hq2 ⊢
      refine ⟨q2, _, rfl, .inr (SqT.of hq2), rfl, rfl, _, rfl, ?_⟩
      have vF : inV (.str (cutS z (some (i : Int)) (some ((i : Int) + 2)))) [V.str (tx [123, 123]), V.str (tx [125, 125])] = false := by
        rw [c2]
        exact (inV_tx _ [[123, 123], [125, 125]]).trans (decide_eq_false (by show ¬ ([123, 125] : List Nat) ∈ ([[123, 123], [125, 125]] : List (List Nat)); decide))
      refine iteF' vF ?_
      have cu : u < xs.length := by
        rcases Nat.lt_or_ge u xs.length with h | h
        · exact h
        · rw [List.drop_eq_nil_of_le h] at hg; cases hg
      obtain ⟨x, hxu⟩ : ∃ x, xs[u]? = some x := ⟨_, List.getElem?_eq_getElem cu⟩
      have hd2 : xs.drop u = x :: xs.drop (u + 1) := by
        obtain ⟨h1, h2⟩ := List.getElem?_eq_some_iff.mp hxu
        rw [← h2]; exact List.drop_eq_getElem_cons h1
      rw [hd2, List.map_cons] at hg
      obtain ⟨rfl, rfl⟩ := List.cons.inj hg
      have ha3 := s3 _ _ ha1
      have t3 : decide (V.str (cutS z (some (i : Int)) (some ((i : Int) + 2))) = V.str (tx [123, 125])) = true := by rw [c2]; exact decide_eq_true rfl
      have t4 : decide (((u : Nat) : Int) < (xs.length : Nat)) = true := decide_eq_true (by omega)
      have hat2 : atI xs ((u : Nat) : Int) = some x := atI_nat hxu
      rw [List.length_cons] at hlr
      have fin : ∀ (w : Str) (a2 b2 : Option V), w.cps.toList = argS x → w.length ≤ 2000 → ∃ m', m' < z.length - i ∧ MInv H z a p xs o m' [some (.str z), some (.ref a), some (.ref p), some (.int ((i : Int) + 2)), some (.int ((u : Int) + 1)), a2, b2] (upd H3 p (.lst (ws.map V.str ++ [.str w]))) := fun w a2 b2 hw2 hw3 => by
        refine next (i + 2) (u + 1) _ _ w H3 o2 a2 b2 (by omega) (by omega) (by omega) (by omega) (by omega) (by omega) s3 (by rw [show i + 2 = (i + 1) + 1 by omega, ← List.drop_drop, hr0]; exact h3) ?_
        rw [ho, hw2]; cases o2 <;> simp
      rcases hx x (List.mem_of_getElem? hxu) with ⟨y, rfl, hy⟩ | ⟨k, rfl, hk⟩
      · walk_at "go"
        refine .inr ?_
        walk_at "go"
        rw [hN]
        exact fin y _ _ rfl hy
      · have hl2 : k.natAbs.log2 < 1920 := by
          by_cases c : k.natAbs = 0
          · rw [c]; decide
          · have := (Nat.log2_lt c).mpr hk; omega
        walk_at "go"
        refine .inl ?_
        walk_at "go"
        have hlk := RN.len_toString k
        rw [hN]
        refine fin _ _ _ rfl ?_
        have h64 : k.natAbs.log2 < 63 := by
          by_cases c : k.natAbs = 0
          · rw [c]; decide
          · exact (Nat.log2_lt c).mpr hk
        show (Str.ofString (toString k)).length ≤ 2000
        omega
    | bad h1 h2 h3 =>
      have v1 : (!inV (.str ⟨#[ch]⟩) [V.str (tx [123]), V.str (tx [125])]) = false := by rw [vG, decide_eq_true (mG h1)]; rfl
      refine iteF' v1 ?_
      walk_at "go"
      intro q2 fq2
      have s3 := s2.trans (same_new fq2 (.tup [.str (tx [123, 123]), .str (tx [125, 125])]))
      have hp3 := same_new fq2 (.tup [.str (tx [123, 123]), .str (tx [125, 125])]) _ _ hp2
      have hq2 : (upd H2 q2 (.tup [.str (tx [123, 123]), .str (tx [125, 125])])) q2 = some (.tup [.str (tx [123, 123]), .str (tx [125, 125])]) := upd_same
      generalize upd H2 q2 (.tup [.str (tx [123, 123]), .str (tx [125, 125])]) = H3 at s3 hp3 hq2 ⊢
      refine ⟨q2, _, rfl, .inr (SqT.of hq2), rfl, rfl, _, rfl, ?_⟩
      have tk : ∀ x y : Nat, (ch :: r).take 2 = [x, y] → ch = x ∧ r.head? = some y := fun x y h => by
        cases r with
        | nil => cases h
        | cons d r => cases h; exact ⟨rfl, rfl⟩
      have vF : inV (.str (cutS z (some (i : Int)) (some ((i : Int) + 2)))) [V.str (tx [123, 123]), V.str (tx [125, 125])] = false := by
        rw [c2]
        refine (inV_tx _ [[123, 123], [125, 125]]).trans (decide_eq_false fun h => ?_)
        rcases List.mem_cons.mp h with h | h
        · obtain ⟨e1, e2⟩ := tk _ _ h; rw [e1] at h2; exact h2 e2
        · obtain ⟨e1, e2⟩ := tk _ _ (List.mem_singleton.mp h); rw [e1] at h2; exact h2 e2
      refine iteF' vF ?_
      have s13 : Same H H3 := s1.trans s3
      have ha3 := s3 _ _ ha1
      have on : o = none := by rw [ho]; rfl
      by_cases e : (ch :: r).take 2 = [123, 125]
      · have t3 : decide (V.str (cutS z (some (i : Int)) (some ((i : Int) + 2))) = V.str (tx [123, 125])) = true := by rw [c2, tx_dec]; exact decide_eq_true e
        obtain ⟨e1, e2⟩ := tk _ _ e
        have ea : as = [] := by
          rcases h3 with h | h | h
          · rw [e1] at h; cases h
          · exact absurd e2 h
          · exact h
        have t4 : decide (((u : Nat) : Int) < (xs.length : Nat)) = false := decide_eq_false fun h => by
          have cu : u < xs.length := by omega
          rw [List.drop_eq_getElem_cons cu, ea] at hg
          cases hg
        walk_at "go"
        intro d fd
        exact hE d _ on s13 fd
      · have t3 : decide (V.str (cutS z (some (i : Int)) (some ((i : Int) + 2))) = V.str (tx [123, 125])) = false := by rw [c2, tx_dec]; exact decide_eq_false e
        walk_at "go"
        intro d fd
        exact hE d _ on s13 fd
  · have t1 : decide (((i : Nat) : Int) < (z.length : Nat)) = false := decide_eq_false (by omega)
    have d0 : z.cps.toList.drop i = [] := List.drop_eq_nil_of_le (by omega)
    rw [d0] at hd
    by_cases cu : u < xs.length
    · have t2 : decide (((u : Nat) : Int) < (xs.length : Nat)) = true := decide_eq_true (by omega)
      have on : o = none := by
        obtain ⟨x, r, hx⟩ : ∃ x r, xs.drop u = x :: r := ⟨_, _, List.drop_eq_getElem_cons cu⟩
        rw [hx] at hd
        cases hd; rw [ho]; rfl
      walk_at "go"
      intro d fd
      exact hE d _ on s1 fd
    · have t2 : decide (((u : Nat) : Int) < (xs.length : Nat)) = false := decide_eq_false (by omega)
      have os : o = some (catS ws) := by
        rw [List.drop_eq_nil_of_le (by omega)] at hd
        cases hd; rw [ho]; show some (catS ws ++ []) = _; rw [List.append_nil]
      walk_at "go"
      refine ⟨⟨_, rfl⟩, _, rfl, "", p, ws, rfl, rfl, .inl (SqL.of hp), ?_, ?_⟩
      · rw [catS_len]; show _ + ws.length * 0 ≤ _; omega
      · rw [join_cat]; exact hQ _ _ os s1
end
end K17

set_option Elab.async false
set_option linter.all false
set_option maxRecDepth 100000
set_option maxHeartbeats 4000000
/-! == and != of two things of the same shape: lists and tuples in one another. -/
namespace RQE
open PySem PySem.Spec PyProof.Rows PySem.SeqAt L2
def SmR (K : PySem.W.Frag) (H : Hp) (E : V → V → Prop) (x y : V) : Prop :=
  (∃ a b xs ys, x = .ref a ∧ y = .ref b ∧ SqL K H a xs ∧ SqL K H b ys ∧ Paired E xs ys) ∨ (∃ a b xs ys, x = .ref a ∧ y = .ref b ∧ SqT K H a xs ∧ SqT K H b ys ∧ Paired E xs ys)
def SmV (K : PySem.W.Frag) (H : Hp) : Nat → V → V → Prop
  | 0 => fun x y => x = y ∧ RY.flatW x = true
  | n + 1 => fun x y => (x = y ∧ RY.flatW x = true) ∨ SmR K H (SmV K H n) x y
theorem SmV.flat {K : PySem.W.Frag} {H : Hp} {n : Nat} {x : V} (h : RY.flatW x = true) : SmV K H n x x := by
  cases n with
  | zero => exact ⟨rfl, h⟩
  | succ n => exact .inl ⟨rfl, h⟩
theorem paired_flat {K : PySem.W.Frag} {H : Hp} {n : Nat} : ∀ {xs : List V}, xs.all RY.flatW = true → Paired (SmV K H n) xs xs
  | [], _ => .nil
  | x :: xs, h => by
    rw [List.all_cons, Bool.and_eq_true] at h
    exact .cons (SmV.flat h.1) (paired_flat h.2)
theorem paired_map {α : Type} {E : V → V → Prop} {f g : α → V} : ∀ {xs : List α}, (∀ x ∈ xs, E (f x) (g x)) → Paired E (xs.map f) (xs.map g)
  | [], _ => .nil
  | x :: xs, h => .cons (h x List.mem_cons_self) (paired_map fun y hy => h y (List.mem_cons_of_mem _ hy))
theorem paired_at {E : V → V → Prop} : ∀ {xs ys : List V}, xs.length = ys.length → (∀ (i : Nat) (x y : V), xs[i]? = some x → ys[i]? = some y → E x y) → Paired E xs ys
  | [], [], _, _ => .nil
  | [], _ :: _, h, _ => by simp at h
  | _ :: _, [], h, _ => by simp at h
  | x :: xs, y :: ys, hl, h => .cons (h 0 x y rfl rfl) (paired_at (by simpa using hl) fun i a b h1 h2 => h (i + 1) a b (by simpa using h1) (by simpa using h2))
section
variable {X : Cx} {pins : List (Addr × Obj)} {σ : L2.St} {H : Hp} {s : Shared}
theorem its_run {A : Around} {F : V → V → Prop} (ih : ∀ x y v u, F x y → RelV x v → RelV y u → EqAt A s v u true) {xs ys : List V} (hp : Paired F xs ys) :
    ∀ {us ws : List Value}, Vals xs us → Vals ys ws → ∀ j (h1 : j < us.length) (h2 : j < ws.length), EqAt A s us[j] ws[j] true := by
  induction hp with
  | nil =>
    intro us ws r1 r2 j h1 h2
    cases r1
    exact absurd h1 (Nat.not_lt_zero j)
  | cons h _ k =>
    intro us ws r1 r2 j h1 h2
    cases r1 with
    | cons a1 b1 =>
      cases r2 with
      | cons a2 b2 =>
        cases j with
        | zero => exact ih _ _ _ _ h a1 a2
        | succ j => exact k b1 b2 j (Nat.lt_of_succ_lt_succ h1) (Nat.lt_of_succ_lt_succ h2)
theorem smR_run (I : Inv X pins σ H s) {A : Around} {F : V → V → Prop} (hu : A.units < cLine) (ih : ∀ x y v u, F x y → RelV x v → RelV y u → EqAt A.in1 s v u true) {x y : V} {v u : Value} (h : SmR X.K H F x y) (rx : RelV x v) (ry : RelV y u) : RcAt A s v u true ∧ RcNeAt A s v u false := by
  rcases h with ⟨a, b, xs, ys, rfl, rfl, ha, hb, hp⟩ | ⟨a, b, xs, ys, rfl, rfl, ha, hb, hp⟩
  · cases (show v = Value.ref a from rx)
    cases (show u = Value.ref b from ry)
    obtain ⟨us, r1, p1, _⟩ := I.list ha
    obtain ⟨ws, r2, p2, _⟩ := I.list hb
    have hsz : us.toArray.size = ws.toArray.size := by
      rw [List.size_toArray, List.size_toArray, ← r1.length, ← r2.length]
      exact Paired.length hp
    have ee : ∀ j (h1 : j < us.toArray.size) (h2 : j < ws.toArray.size), EqAt A.in1 s us.toArray[j] ws.toArray[j] ((fun _ => true) j) := fun j h1 h2 => by
      have k := its_run ih hp r1 r2 j (by simpa using h1) (by simpa using h2)
      simpa using k
    have h1 := RcAt.lists (e := fun _ => true) p1.isList p2.isList hsz hu ee
    have h2 := RcNeAt.lists (e := fun _ => true) p1.isList p2.isList hsz hu ee
    rw [RY.all_tt] at h1 h2
    exact ⟨h1, h2⟩
  · cases (show v = Value.ref a from rx)
    cases (show u = Value.ref b from ry)
    obtain ⟨us, r1, p1, _⟩ := I.tuple ha
    obtain ⟨ws, r2, p2, _⟩ := I.tuple hb
    have hsz : (us.toArray.size == ws.toArray.size) = true := by
      rw [List.size_toArray, List.size_toArray, ← r1.length, ← r2.length]
      exact beq_iff_eq.mpr (Paired.length hp)
    have ee : ∀ j (h1 : j < us.toArray.size) (h2 : j < ws.toArray.size), EqAt A.in1 s us.toArray[j] ws.toArray[j] ((fun _ => true) j) := fun j h1 h2 => by
      have k := its_run ih hp r1 r2 j (by simpa using h1) (by simpa using h2)
      simpa using k
    have h1 := RcAt.tuples (e := fun _ => true) p1 p2 hu ee
    have h2 := RcNeAt.tuples (e := fun _ => true) p1 p2 hu ee
    rw [RY.all_tt, hsz] at h1 h2
    exact ⟨h1, h2⟩
theorem smV_run (I : Inv X pins σ H s) : ∀ (n : Nat) (A : Around), A.units + n < cLine → ∀ (x y : V) (v u : Value), SmV X.K H n x y → RelV x v → RelV y u → EqAt A s v u true
  | 0, _, _, x, y, v, u, h, rx, ry => by
    obtain ⟨rfl, f⟩ := h
    exact RY.eq_same rx ry f
  | n + 1, A, hu, x, y, v, u, h, rx, ry => by
    rcases h with ⟨rfl, f⟩ | h
    · exact RY.eq_same rx ry f
    · have step := (smR_run I (A := A) (by omega) (smV_run I n A.in1 (by show A.units + 1 + n < cLine; omega)) h rx ry).1
      obtain ⟨a, b, rfl, rfl⟩ : ∃ a b, x = .ref a ∧ y = .ref b := by
        rcases h with ⟨a, b, _, _, e1, e2, _⟩ | ⟨a, b, _, _, e1, e2, _⟩ <;> exact ⟨a, b, e1, e2⟩
      cases (show v = Value.ref a from rx)
      cases (show u = Value.ref b from ry)
      by_cases e : a = b
      · subst e; exact EqAt.same _
      · exact EqAt.of_refs e step
end
def rEqS (K : PySem.W.Frag) : R2 := fun x y H Q => ∃ n, n ≤ 60 ∧ SmR K H (SmV K H n) x y ∧ Q (.bl true) H
def rNeS (K : PySem.W.Frag) : R2 := fun x y H Q => ∃ n, n ≤ 60 ∧ SmR K H (SmV K H n) x y ∧ Q (.bl false) H
section
variable {X : Cx}
theorem op_eqS (hu : X.A.units + 64 < cLine) : OpR X (compareOp .Eq) (rEqS X.K) := by
  intro pins s σ H x y v u Q I rx ry h
  obtain ⟨n, hn, h, q⟩ := h
  exact (smR_run I (A := X.A) (by omega) (smV_run I n X.A.in1 (by show X.A.units + 1 + n < cLine; omega)) h rx ry).1 X.prog X.w _ _ ⟨.bl true, H, I, rfl, q⟩
theorem op_neS (hu : X.A.units + 64 < cLine) : OpR X (compareOp .NotEq) (rNeS X.K) := by
  intro pins s σ H x y v u Q I rx ry h
  obtain ⟨n, hn, h, q⟩ := h
  exact (smR_run I (A := X.A) (by omega) (smV_run I n X.A.in1 (by show X.A.units + 1 + n < cLine; omega)) h rx ry).2 X.prog X.w _ _ ⟨.bl false, H, I, rfl, q⟩
end
end RQE

set_option Elab.async false
set_option linter.all false
set_option maxRecDepth 100000
/-! str.replace of a dollar by two, over lists of signs. -/
namespace RU
open PySem PySem.Spec PyProof.Rows L2 SeqAt
theorem rep_esc (t : List Nat) : Txt.replace ⟨t.toArray⟩ (Str.ofString "$") (Str.ofString "$$") = ⟨(RP.esc t).toArray⟩ := by
  have e := PySem.StrLaws.replace_list (x := ⟨t.toArray⟩) (y := Str.ofString "$") (z := Str.ofString "$$") (by decide +kernel)
  have e1 : (Str.ofString "$").cps.toList = [36] := by decide +kernel
  have e2 : (Str.ofString "$$").cps.toList = [36, 36] := by decide +kernel
  rw [e1, e2] at e
  have e3 : ∀ l : List Nat, PySem.StrLaws.replL [36] [36, 36] l = RP.esc l := fun l => by
    induction l with
    | nil => exact PySem.StrLaws.replL_nil
    | cons c r ih =>
      unfold RP.esc
      by_cases h : c = 36
      · subst h
        rw [if_pos rfl, PySem.StrLaws.replL_hit (by decide) rfl]
        show 36 :: 36 :: PySem.StrLaws.replL [36] [36, 36] r = _
        rw [ih]
      · rw [if_neg h, PySem.StrLaws.replL_miss (y := [36]) (fun z => h (List.cons.inj (show [c] = [36] from z)).1), ih]
  have e4 : (Txt.replace (⟨t.toArray⟩) (Str.ofString "$") (Str.ofString "$$")).cps.toList = RP.esc t := e.trans (e3 t)
  rw [← e4]
def rNeVT (K : PySem.W.Frag) : R2 := fun x y H Q => ∃ (a b : Addr) (xs : List V), x = .ref a ∧ y = .ref b ∧ SqT K H a xs ∧ SqT K H b xs ∧ xs.all RY.flatW = true ∧ Q (.bl false) H
/-- two tuples of the same flat items -/
theorem op_neVT {X : Cx} (hu : X.A.units < cLine) : OpR X (compareOp .NotEq) (rNeVT X.K) := by
  intro pins s σ H x y v u Q I rx ry h
  obtain ⟨a, b, xs, rfl, rfl, ta, tb, hf, q⟩ := h
  obtain rfl : v = Value.ref a := rx
  obtain rfl : u = Value.ref b := ry
  obtain ⟨i1, r1, p1, _⟩ := I.tuple ta
  obtain ⟨i2, r2, p2, _⟩ := I.tuple tb
  obtain ⟨el, ee⟩ := RY.eq_all (A := X.A.in1) (s := s) r1 r2 hf
  have es : (i1.toArray.size == i2.toArray.size) = true := by simp [el]
  refine RcNeAt.tuples (e := fun _ => true) p1 p2 hu (fun j h1 h2 => by simpa using ee j (by simpa using h1) (by simpa using h2)) X.prog X.w X.xe _ ?_
  rw [RY.all_tt, es]
  exact fin_bl I q rfl
end RU

set_option Elab.async false
set_option linter.all false
set_option maxRecDepth 100000
set_option maxHeartbeats 4000000
/-! a tuple and the empty one. -/
namespace RTe
open PySem PySem.Spec PyProof.Rows PySem.SeqAt L2
def rEqTE (K : PySem.W.Frag) : R2 := fun x y H Q => ∃ (a b : Addr) (xs : List V), x = .ref a ∧ y = .ref b ∧ SqT K H a xs ∧ SqT K H b [] ∧ Q (.bl xs.isEmpty) H
def rNeTE (K : PySem.W.Frag) : R2 := fun x y H Q => ∃ (a b : Addr) (xs : List V), x = .ref a ∧ y = .ref b ∧ SqT K H a xs ∧ SqT K H b [] ∧ Q (.bl (!xs.isEmpty)) H
section
variable {X : Cx}
theorem op_eqTE (hu : X.A.units < cLine) : OpR X (compareOp .Eq) (rEqTE X.K) := by
  intro pins s σ H x y v u Q I rx ry h
  obtain ⟨a, b, xs, rfl, rfl, ta, tb, q⟩ := h
  obtain rfl : v = Value.ref a := rx
  obtain rfl : u = Value.ref b := ry
  obtain ⟨i1, r1, p1, _⟩ := I.tuple ta
  obtain ⟨i2, r2, p2, _⟩ := I.tuple tb
  obtain rfl := RY.vals_nil r2
  refine RcAt.tuples (e := fun _ => true) p1 p2 hu (fun j h1 h2 => absurd h2 (by simp)) X.prog X.w X.xe _ ?_
  refine fin_bl I q ?_
  rw [RY.all_tt]
  cases r1 <;> simp
theorem op_neTE (hu : X.A.units < cLine) : OpR X (compareOp .NotEq) (rNeTE X.K) := by
  intro pins s σ H x y v u Q I rx ry h
  obtain ⟨a, b, xs, rfl, rfl, ta, tb, q⟩ := h
  obtain rfl : v = Value.ref a := rx
  obtain rfl : u = Value.ref b := ry
  obtain ⟨i1, r1, p1, _⟩ := I.tuple ta
  obtain ⟨i2, r2, p2, _⟩ := I.tuple tb
  obtain rfl := RY.vals_nil r2
  refine RcNeAt.tuples (e := fun _ => true) p1 p2 hu (fun j h1 h2 => absurd h2 (by simp)) X.prog X.w X.xe _ ?_
  refine fin_bl I q ?_
  rw [RY.all_tt]
  cases r1 <;> simp
end
end RTe

set_option Elab.async false
set_option linter.all false
set_option maxRecDepth 100000
set_option maxHeartbeats 0

namespace K17
open PySem PySem.Spec PyProof.Rows L2 RC
section
variable {P : Program} {w : World} {K : PySem.W.Frag} {mg : Str → Option Value} {base : Heap}
/-! ### what a record holds, its message -/
structure Rc where
  name : Str
  lv : Int
  ln : Str
  msg : Str
  clk : Int
  ns : List V
structure Rc.Ok (d : Rc) : Prop where
  nm : d.name.length ≤ 2000
  l : d.lv.natAbs < 2 ^ 63
  lnl : d.ln.length ≤ 2000
  ms : d.msg.length ≤ 2000
  nsl : d.ns.length ≤ 100
  nsv : ∀ x ∈ d.ns, PArg x
  ck : d.clk.natAbs < 2 ^ 63
abbrev RcAt (K : PySem.W.Frag) (H : Hp) (r : Addr) (d : Rc) : Prop := RecAt K H r d.name d.lv d.ln d.msg d.clk d.ns
def MsgO (d : Rc) (o : Option SS) : Prop := (d.ns = [] ∧ o = some d.msg.cps.toList) ∨ (d.ns ≠ [] ∧ PM d.msg.cps.toList (d.ns.map argS) o)
/-- the error of a wrong message -/
def ErrM (K : PySem.W.Frag) (H : Hp) (E : XK) (d : Rc) : Prop := ∀ (dx : Addr) (H1 : Hp), Same H H1 → H1 dx = none → E (.ref (CBm K)) (some dx) (upd H1 dx (.xd [("msg", .str d.msg)]))
def spMessage (K : PySem.W.Frag) : Sp := fun vs H Q E => ∃ (r : Addr) (d : Rc) (o : Option SS), vs = [.ref r] ∧ RcAt K H r d ∧ d.Ok ∧ MsgO d o ∧ (∀ (t : SS) (H' : Hp), o = some t → Same H H' → Q (.str (tx t)) H') ∧ (o = none → ErrM K H E d)
theorem ok_message {f : Addr} (T : Txt P w K mg) (F : Stands K "message" "LogRecord.message" s_LogRecord_message [] f) (c_message_of : RH.CallN P w K mg base 4 (He.ga K "message_of") ["msg", "args"] [] (spMsgOf K)) : RH.CallN P w K mg base 5 f ["self"] [] (spMessage K) := by
  refine RH.stands_callN0 F sc_LogRecord_message (fun vs H Q E h => ?_) (fun cdv A outer s H vs Q E hr h => ?_) (fun _ _ _ _ _ _ us hl => match us, hl with | [_], _ => rfl)
  · obtain ⟨r, d, o, rfl, _⟩ := h; rfl
  obtain ⟨r, d, o, rfl, ⟨dx, g, e, hr1, hg, he⟩, hok, hM, hQ, hE⟩ := h
  refine ⟨_, (pss_one (ps_ret (pe_ifExp (pt_cmpR (RTe.op_eqTE (Nat.lt_of_succ_lt (hu_of hr))) (pe_fld (pv 0) rfl) (pe_tup pa_nil) (nomark _)) (pe_fld (pv 0) rfl) (RH.pe_fnN (L2N.takes_of rfl rfl rfl rfl) T.g_message_of c_message_of (hr.mono (by first | decide | exact Nat.le_refl _)) (by rfl) (pa_cons (pe_fld (pv 0) rfl) (pa_cons (pe_fld (pv 0) rfl) pa_nil)))))), ?_⟩
  dsimp only [cxK2]
  walk_at "go"
  intro p fp
  have s1 := same_new fp (.tup [])
  have hg2 := s1 _ _ hg
  have hr2 := s1 _ _ hr1
  have hp2 := upd_same (H := H) (a := p) (o := .tup [])
  generalize upd H p (.tup []) = H1 at s1 hg2 hr2 hp2 ⊢
  refine ⟨g, p, d.ns, rfl, rfl, SqT.of hg2, SqT.of hp2, ?_⟩
  rcases hM with ⟨h0, rfl⟩ | ⟨h0, hP⟩
  · rw [h0] at hg2 ⊢
    refine ⟨true, rfl, iteT ?_⟩
    walk_at "go"
    rw [← tx_of d.msg]
    exact hQ _ _ rfl s1
  · obtain ⟨n, r2, h1⟩ : ∃ n r, d.ns = n :: r := by
      cases e : d.ns with
      | nil => exact absurd e h0
      | cons n r => exact ⟨n, r, rfl⟩
    refine ⟨false, by rw [h1]; rfl, iteF ?_⟩
    have hx : ∀ x ∈ d.ns, PArg x := hok.nsv
    have hl : d.ns.length ≤ 100 := hok.nsl
    have hms := hok.ms
    walk_at "go"
    exact ⟨fun t H' ho s2 => hQ t H' ho (s1.trans s2), fun d2 H2 ho s2 fd => hE ho d2 H2 (s1.trans s2) fd⟩
end
end K17

set_option Elab.async false
set_option linter.all false
set_option maxRecDepth 100000
set_option maxHeartbeats 0
namespace K17
open PySem PySem.Spec PyProof.Rows L2 RC
section
variable {P : Program} {w : World} {K : PySem.W.Frag} {mg : Str → Option Value} {base : Heap}
/-! ### fields of a record -/
theorem valV_none {kvs : List (Key × V)} {k : Key} (h : ∀ p ∈ kvs, p.1 ≠ k) : valV kvs k = none := by
  induction kvs with
  | nil => rfl
  | cons p r ih => rw [valV_neg (h p List.mem_cons_self)]; exact ih fun q hq => h q (List.mem_cons_of_mem _ hq)
def ownKeys : List Str := ["name", "levelno", "levelname", "msg", "args", "created", "msecs"]
def own7 (d : Rc) (g : Addr) : List (Key × V) := [(Sum.inr "name", .str d.name), (Sum.inr "levelno", .int d.lv), (Sum.inr "levelname", .str d.ln), (Sum.inr "msg", .str d.msg), (Sum.inr "args", .ref g), (Sum.inr "created", .int d.clk), (Sum.inr "msecs", .int (d.clk % 1000))]
def fval (d : Rc) (nm : Str) : Option V := ([((Sum.inr "name" : Key), V.str d.name), (Sum.inr "levelno", .int d.lv), (Sum.inr "levelname", .str d.ln), (Sum.inr "msg", .str d.msg), (Sum.inr "created", .int d.clk), (Sum.inr "msecs", .int (d.clk % 1000))].find? (fun p => decide (p.1 = Sum.inr nm))).map (·.2)
/-- what a formatter writes, or the error -/
inductive TxO
  | tx (s : SS)
  | msg
  | fld (nm : Str)
inductive FldO (d : Rc) (nm : Str) : TxO → Prop
  | msgT {t : SS} : nm = "message" → MsgO d (some t) → FldO d nm (.tx t)
  | msgE : nm = "message" → MsgO d none → FldO d nm .msg
  | val {v : V} : nm ≠ "message" → fval d nm = some v → nm ∈ (["name", "levelno", "levelname", "msg", "created", "msecs"] : List Str) → FldO d nm (.tx (argS v))
  | bad : nm ≠ "message" → nm ∉ ownKeys → FldO d nm (.fld nm)
def ErrF (K : PySem.W.Frag) (H : Hp) (E : XK) (nm : Str) : Prop := ∀ (dx : Addr) (H1 : Hp), Same H H1 → H1 dx = none → E (.ref (CBf K)) (some dx) (upd H1 dx (.xd [("name", .str nm)]))
/-- values that are told -/
def VOk (v : V) : Prop := (∃ z : Str, v = .str z ∧ z.length ≤ 1000000) ∨ ∃ i : Int, v = .int i ∧ i.natAbs < 2 ^ 63
theorem fval_own {d : Rc} {nm : Str} {v : V} (hok : d.Ok) (h : fval d nm = some v) (hm : nm ∈ (["name", "levelno", "levelname", "msg", "created", "msecs"] : List Str)) (g : Addr) : valV (own7 d g) (Sum.inr nm) = some v ∧ VOk v ∧ PlainV v := by
  have n1 := hok.nm
  have n2 := hok.lnl
  have n3 := hok.ms
  have n4 := hok.ck
  simp only [List.mem_cons, List.not_mem_nil, or_false] at hm
  rcases hm with rfl | rfl | rfl | rfl | rfl | rfl
  · have h' : some (V.str d.name) = some v := h
    cases h'; exact ⟨rfl, .inl ⟨_, rfl, by omega⟩, .str _⟩
  · have h' : some (V.int d.lv) = some v := h
    cases h'; exact ⟨rfl, .inr ⟨_, rfl, hok.l⟩, .int _⟩
  · have h' : some (V.str d.ln) = some v := h
    cases h'; exact ⟨rfl, .inl ⟨_, rfl, by omega⟩, .str _⟩
  · have h' : some (V.str d.msg) = some v := h
    cases h'; exact ⟨rfl, .inl ⟨_, rfl, by omega⟩, .str _⟩
  · have h' : some (V.int d.clk) = some v := h
    cases h'; exact ⟨rfl, .inr ⟨_, rfl, hok.ck⟩, .int _⟩
  · have h' : some (V.int (d.clk % 1000)) = some v := h
    cases h'; exact ⟨rfl, .inr ⟨_, rfl, by omega⟩, .int _⟩
theorem fval_not {d : Rc} {nm : Str} (h : nm ∉ ownKeys) (g : Addr) : valV (own7 d g) (Sum.inr nm) = none := valV_none fun p hp z => by
  have hm : p.1 ∈ (own7 d g).map (·.1) := List.mem_map_of_mem hp
  have e : (own7 d g).map (·.1) = ownKeys.map (Sum.inr : Str → Key) := rfl
  rw [e, z] at hm
  obtain ⟨k, hk, ek⟩ := List.mem_map.mp hm
  cases ek; exact h hk
/-- what is told of the value of a field -/
def ValO (K : PySem.W.Frag) (H : Hp) (Q : VK) (E : XK) (d : Rc) (o : TxO) : Prop := (∀ (v : V) (H' : Hp), o = .tx (argS v) → VOk v → Same H H' → Q v H') ∧ (o = .msg → ErrM K H E d) ∧ (∀ nm, o = .fld nm → ErrF K H E nm)
def spField (K : PySem.W.Frag) : Sp := fun vs H Q E => ∃ (r : Addr) (d : Rc) (nm : Str) (o : TxO), vs = [.ref r, .str nm] ∧ RcAt K H r d ∧ d.Ok ∧ FldO d nm o ∧ ValO K H Q E d o
theorem msgO_len {d : Rc} {t : SS} (h : MsgO d (some t)) (hok : d.Ok) : t.length ≤ 2000 + 2000 * 100 := by
  have pl : ∀ {s : SS} {as : List SS} {o : Option SS}, PM s as o → (∀ a ∈ as, a.length ≤ 2000) → ∀ t, o = some t → t.length ≤ s.length + 2000 * as.length := fun {s as o} h => by
    induction h with
    | nil => intro _ t e; cases e; exact Nat.zero_le _
    | left => intro _ t e; cases e
    | two _ _ ih =>
      intro ha t e
      obtain ⟨t2, e2, rfl⟩ := Option.map_eq_some_iff.mp e
      have := ih ha t2 e2
      simp only [List.length_cons]; omega
    | ch _ _ _ ih =>
      intro ha t e
      obtain ⟨t2, e2, rfl⟩ := Option.map_eq_some_iff.mp e
      have := ih ha t2 e2
      simp only [List.length_cons]; omega
    | arg _ ih =>
      intro ha t e
      obtain ⟨t2, e2, rfl⟩ := Option.map_eq_some_iff.mp e
      have := ih (fun a h => ha a (List.mem_cons_of_mem _ h)) t2 e2
      have := ha _ List.mem_cons_self
      simp only [List.length_cons, List.length_append]; omega
    | bad => intro _ t e; cases e
  have hl : d.msg.cps.toList.length = d.msg.length := Array.length_toList ..
  have hms := hok.ms
  rcases h with ⟨_, h⟩ | ⟨_, h⟩
  · cases h; omega
  · have := pl h (fun a ha => by
      obtain ⟨x, hx, rfl⟩ := List.mem_map.mp ha
      rcases hok.nsv x hx with ⟨z, rfl, hz⟩ | ⟨n, rfl, h2⟩
      · show z.cps.toList.length ≤ 2000
        have : z.cps.toList.length = z.length := Array.length_toList ..
        omega
      · have h1 := RN.len_toString n
        have h64 : n.natAbs.log2 < 63 := by
          by_cases c : n.natAbs = 0
          · rw [c]; decide
          · exact (Nat.log2_lt c).mpr h2
        show (Str.ofString (toString n)).cps.toList.length ≤ 2000
        have h3 : (Str.ofString (toString n)).cps.toList.length = (Str.ofString (toString n)).length := Array.length_toList ..
        omega) t rfl
    have := hok.nsl
    simp only [List.length_map] at *
    omega
end
end K17

set_option Elab.async false
set_option linter.all false
set_option maxRecDepth 100000
set_option maxHeartbeats 0

namespace K17
open PySem PySem.Spec PyProof.Rows L2 RC
section
variable {P : Program} {w : World} {K : PySem.W.Frag} {mg : Str → Option Value} {base : Heap}
/-! ### a plain field written -/
abbrev CFd (K : PySem.W.Frag) : Addr := He.ga K "Field"
def fdF (n c f a : Str) (w : Int) : List (Str × V) := [("name", .str n), ("conversion", .str c), ("fill", .str f), ("align", .str a), ("width", .int w)]
abbrev fdP (n : Str) : List (Str × V) := fdF n "" " " "" 0
def spSide (K : PySem.W.Frag) : Sp := fun vs H Q _ => ∃ (q dx : Addr) (n : Str) (v : V), vs = [.ref q, v] ∧ H q = some (.ins (CFd K) dx (fdP n)) ∧ ((∃ i, v = .int i ∧ Q (.str ">") H) ∨ ∃ z, v = .str z ∧ Q (.str "<") H)
theorem ok_side {f : Addr} (T : Txt P w K mg) (F : Stands K "side_of" "Field.side_of" s_Field_side_of [] f) (c_is_integer : Callable P w K mg base 1 (He.ga K "is_integer") ["thing"] [] spIsInt) : Callable P w K mg base 2 f ["self", "value"] [] (spSide K) := by
  refine F.call0 sc_Field_side_of (fun vs H Q E h => ?_) (fun cdv A outer s H vs Q E hr h => ?_) (fun _ _ _ _ _ _ us hl => match us, hl with | [_, _], _ => rfl)
  · obtain ⟨q, dx, n, v, rfl, _⟩ := h; rfl
  obtain ⟨q, dx, n, v, rfl, hq, h⟩ := h
  refine ⟨_, (pss_cons (ps_if (pt_cmpR op_ne (pe_fld (pv 0) rfl) pe_str (nomark _)) (pss_one (ps_ret (pe_fld (pv 0) rfl))) pss_nil)
      (pss_one (ps_ret (pe_ifExp (PW.pt (pw_and (pt_cmpR op_eq (pe_fld (pv 0) rfl) pe_str (nomark _)) (pw_and1 (pt_val (pe_fn T.g_is_integer c_is_integer (hr.mono (by first | decide | exact Nat.le_refl _)) (by rfl) (pa_cons (pv 1) pa_nil)))))) pe_str pe_str)))), ?_⟩
  walk_at "in"
  have t1 : (!decide (V.str (Str.ofString "") = V.str (Str.ofString ""))) = false := by rw [decide_eq_true rfl]; rfl
  have t2 : decide (V.str (Str.ofString "") = V.str (Str.ofString "")) = true := decide_eq_true rfl
  rcases h with ⟨i, rfl, hQ⟩ | ⟨z, rfl, hQ⟩
  · walk_at "go"
    refine ⟨(rfl : _ = [(LvIn.int i).v]), ?_⟩
    refine ⟨_, rfl, iteT ?_⟩
    exact hQ
  · walk_at "go"
    refine ⟨(rfl : _ = [(LvIn.nm z).v]), ?_⟩
    refine ⟨_, rfl, iteF ?_⟩
    exact hQ
/-- the text of a value -/
def valT : V → Str
  | .str z => z
  | .int i => Str.ofString (toString i)
  | _ => ""
def spWritten (K : PySem.W.Frag) : Sp := fun vs H Q _ => ∃ (q dx : Addr) (n : Str) (v : V), vs = [.ref q, v] ∧ H q = some (.ins (CFd K) dx (fdP n)) ∧ VOk v ∧ ∀ H', Same H H' → Q (.str (valT v)) H'
theorem ok_written {f : Addr} (T : Txt P w K mg) (F : Stands K "written" "Field.written" s_Field_written [] f) (c_Field_side_of : Callable P w K mg base 2 (He.ma K (He.ga K "Field") "side_of") ["self", "value"] [] (spSide K)) : Callable P w K mg base 3 f ["self", "value"] [] (spWritten K) := by
  refine F.call0 sc_Field_written (fun vs H Q E h => ?_) (fun cdv A outer s H vs Q E hr h => ?_) (fun _ _ _ _ _ _ us hl => match us, hl with | [_, _], _ => rfl)
  · obtain ⟨q, dx, n, v, rfl, _⟩ := h; rfl
  obtain ⟨q, dx, n, v, rfl, hq, hv, hQ⟩ := h
  refine ⟨_, (pss_cons (ps_set (i := 2) sc_Field_written.nd rfl (by first | exact Or.inl rfl | exact Or.inr rfl) (pe_ifExp (pt_cmpR op_eq (pe_fld (pv 0) rfl) pe_str (nomark _)) pe_never (RA.PE.or (pe_callTy call_str_int (by rfl) T.b_str (by decide +kernel) (pa_cons (pv 1) pa_nil)) (pe_callTy SkE.call_str_str (by rfl) T.b_str (by decide +kernel) (pa_cons (pv 1) pa_nil)))))
      (pss_cons (ps_set (i := 3) sc_Field_written.nd rfl (by first | exact Or.inl rfl | exact Or.inr rfl) (pe_callB (call_max2 rfl) (by rfl) T.b_max (by decide +kernel) (pa_cons pe_int (pa_cons (pe_op op_sub (pe_fld (pv 0) rfl) (pe_callB call_len_str (by rfl) T.b_len (by decide +kernel) (pa_cons (pv 2) pa_nil))) pa_nil))))
      (pss_cons (ps_set (i := 4) sc_Field_written.nd rfl (by first | exact Or.inl rfl | exact Or.inr rfl) (pe_dget (hu_of hr) (pe_disp (pps_cons pe_str pe_int (pps_cons pe_str (pv 3) (pps_cons pe_str (pe_op op_fdiv (pv 3) pe_int) pps_nil))) (by rfl) (by rfl) (fun z => by cases z) (by decide)) (pe_mt T.c_Field T.m_Field_side_of c_Field_side_of (hr.mono (by first | decide | exact Nat.le_refl _)) (pv 0) (pa_cons (pv 1) pa_nil)) (fun _ _ => rfl)))
      (pss_one (ps_ret (pe_op op_add_str (pe_op op_add_str (pe_op RD.op_mulS (pe_fld (pv 0) rfl) (pv 4)) (pv 2)) (pe_op RD.op_mulS (pe_fld (pv 0) rfl) (pe_op op_sub (pv 3) (pv 4))))))))), ?_⟩
  walk_at "in"
  have t1 : decide (V.str (Str.ofString "") = V.str (Str.ofString "r")) = false := by decide +kernel
  have tl : (valT v).length ≤ 1000000 := by
    rcases hv with ⟨z, rfl, hz⟩ | ⟨i, rfl, hi⟩
    · exact hz
    · have h1 := RN.len_toString i
      have h64 : i.natAbs.log2 < 63 := by
        by_cases c : i.natAbs = 0
        · rw [c]; decide
        · exact (Nat.log2_lt c).mpr hi
      show (Str.ofString (toString i)).length ≤ _
      omega
  refine seq_of (fun σ' H' => σ' = [some (.ref q), some v, some (.str (valT v)), none, none] ∧ H = H') (fun b' kb => ?_) (fun σ' H' hm => ?_)
  · rcases hv with ⟨z, rfl, hz⟩ | ⟨i, rfl, hi⟩
    · walk_at "go"
      refine .inr ?_
      walk_at "go"
      exact kb _ _ ⟨rfl, rfl⟩
    · have hl2 : i.natAbs.log2 < 1920 := by
        by_cases c : i.natAbs = 0
        · rw [c]; decide
        · have := (Nat.log2_lt c).mpr hi; omega
      walk_at "go"
      refine .inl ?_
      walk_at "go"
      exact kb _ _ ⟨rfl, rfl⟩
  obtain ⟨rfl, rfl⟩ := hm
  have hz2 : (valT v).length ≤ sizeLine := by rw [sizeLine_eq]; omega
  generalize valT v = z at tl hz2 hQ ⊢
  refine seq_of (fun σ' H' => σ' = [some (.ref q), some v, some (.str z), some (.int 0), none] ∧ H = H') (fun b' kb => ?_) (fun σ' H' hm => ?_)
  · walk_at "go"
    refine kb _ _ ⟨?_, rfl⟩
    have e0 : (if (0 : Int) - (z.length : Nat) > 0 then (0 : Int) - (z.length : Nat) else 0) = 0 := if_neg (by omega)
    rw [e0]; rfl
  obtain ⟨rfl, rfl⟩ := hm
  have mo : PySem.MulOk (Str.ofString " ") 0 := ⟨by decide, fun h => absurd (by decide) h, fun h => absurd (by decide) h⟩
  have mo2 : PySem.MulOk (Str.ofString " ") (0 - 0) := mo
  have cd : CDiv 0 2 := by first | exact ⟨by decide, by decide⟩ | (unfold CDiv; decide)
  have eM : Txt.mul (Str.ofString " ") 0 = Str.ofString "" := by decide +kernel
  have h0 : (Txt.mul (Str.ofString " ") 0).length = 0 := by rw [eM]; rfl
  have e1 : Txt.mul (Str.ofString " ") 0 ++ z = z := by
    rw [eM]; refine TL.ext_tl ?_; rw [TL.tl_append]; rfl
  have hL : (Txt.mul (Str.ofString " ") 0 ++ z).length + (Txt.mul (Str.ofString " ") (0 - 0)).length ≤ sizeLine := by
    rw [e1]; show z.length + (Txt.mul (Str.ofString " ") 0).length ≤ sizeLine; omega
  have e2 : Txt.mul (Str.ofString " ") 0 ++ z ++ Txt.mul (Str.ofString " ") (0 - 0) = z := by
    rw [e1]; show z ++ Txt.mul (Str.ofString " ") 0 = z
    rw [eM]; refine TL.ext_tl ?_; rw [TL.tl_append]; exact List.append_nil _
  walk_at "go"
  intro p fp
  walk_at "go"
  rcases hv with ⟨y, rfl, _⟩ | ⟨i, rfl, _⟩
  · refine .inr ⟨y, rfl, ?_⟩
    walk_at "go"
    rw [e2]
    exact hQ _ (by rw [upd_upd]; exact same_new fp _)
  · refine .inl ⟨i, rfl, ?_⟩
    walk_at "go"
    rw [e2]
    exact hQ _ (by rw [upd_upd]; exact same_new fp _)
end
end K17

set_option Elab.async false
set_option linter.all false
set_option maxRecDepth 100000
set_option maxHeartbeats 0

namespace K17
open PySem PySem.Spec PyProof.Rows L2 RC
section
variable {P : Program} {w : World} {K : PySem.W.Frag} {mg : Str → Option Value} {base : Heap}
/-! ### fields of formats in braces -/
def spFieldInit (K : PySem.W.Frag) : Sp := fun vs H Q _ => ∃ (p dx : Addr) (n c f a : Str) (w : Int), vs = [.ref p, .str n, .str c, .str f, .str a, .int w] ∧ H p = some (.ins (CFd K) dx []) ∧ Q .non (upd H p (.ins (CFd K) dx (fdF n c f a w)))
theorem field_body {f : Addr} {cdv : Value} {A : Around} {outer : List Env} {s : Shared} {H : Hp} {vs : List V} {Q : VK} {E : XK} (T : Txt P w K mg) (h : spFieldInit K vs H Q E) :
    ∃ t, PSs (cxOf CX0 P w K mg base nm_Field_init "Field.__init__" (defScope s_Field_init) f cdv A outer s H E).nox (defBody s_Field_init) t ∧ t { nx := fun _ H' => Q .non H', rt := Q } (L2.start nm_Field_init vs) H := by
  obtain ⟨p, dx, n, c, fl, al, wd, rfl, hp, hQ⟩ := h
  refine ⟨_, (pss_cons (ps_fld (pv 0) (pv 1) rfl)
      (pss_cons (ps_fld (pv 0) (pv 2) rfl)
      (pss_cons (ps_fld (pv 0) (pv 3) rfl)
      (pss_cons (ps_fld (pv 0) (pv 4) rfl)
      (pss_one (ps_fld (pv 0) (pv 5) rfl)))))), ?_⟩
  walk_at "in"
  walk_at "go"
  rw [upd_upd, upd_upd, upd_upd, upd_upd]
  exact hQ
/-- all but the first default given: Field(name, conversion) leaves three -/
theorem ok_field_init2 {f : Addr} (T : Txt P w K mg) (F : Stands K "__init__" "Field.__init__" s_Field_init [.str "", .str " ", .str "", .int 0] f) : Callable P w K mg base 1 f ["self", "name", "conversion", "fill", "align", "width"] [.str " ", .str "", .int 0] (spFieldInit K) := by
  refine F.call sc_Field_init 3 1 (fun vs H Q E h => ?_) (fun cdv A outer s H vs Q E hr h => field_body T h) (fun z => nomatch z) fun _ => ⟨rfl, fun _ _ _ _ _ _ _ us its hl hi => match us, hl, its, hi with | [_, _, _], _, [_, _, _, _], _ => ⟨_, rfl, rfl⟩⟩
  obtain ⟨p, dx, n, c, f, a, w, rfl, _⟩ := h; rfl
def spNameEnd : Sp := fun vs H Q _ => ∃ (z : Str) (i n : Nat), vs = [.str z, .int (i : Nat)] ∧ z.length ≤ 1000000 ∧ i ≤ z.length ∧ RP.nmLen (z.cps.toList.drop i) = n ∧ Q (.int ((i + n : Nat) : Int)) H
theorem ok_name_end {f : Addr} (T : Txt P w K mg) (F : Stands K "name_end" "name_end" s_name_end [] f) : Callable P w K mg base 1 f ["text", "start"] [] spNameEnd := by
  refine F.call0 sc_name_end (fun vs H Q E h => ?_) (fun cdv A outer s H vs Q E hr h => ?_) (fun _ _ _ _ _ _ us hl => match us, hl with | [_, _], _ => rfl)
  · obtain ⟨z, i, n, rfl, _⟩ := h; rfl
  obtain ⟨z, i, n, rfl, hz, hi, rfl, hQ⟩ := h
  refine ⟨_, (pss_cons (ps_set (i := 2) sc_name_end.nd rfl (by first | exact Or.inl rfl | exact Or.inr rfl) (pv 1))
      (pss_cons (ps_while PassesOwn.never (PW.pt (pw_and (pt_cmpR op_lt (pv 2) (pe_callB call_len_str (by rfl) T.b_len (by decide +kernel) (pa_cons (pv 0) pa_nil)) (nomark _)) (pw_and1 (PW.pt (pw_or (pt_cmpR op_inS (pe_ix ix_str (pv 0) (pv 2) (fun _ _ => rfl)) (pe_gs (by rfl) T.g_LETTERS) (by rfl)) (pw_or1 (PW.pt (pw_and (pt_cmpR op_gt (pv 2) (pv 1) (nomark _)) (pw_and1 (pt_cmpR op_inS (pe_ix ix_str (pv 0) (pv 2) (fun _ _ => rfl)) (pe_gs (by rfl) T.g_DIGITS) (by rfl))))))))))) (pss_one (ps_aug (i := 2) sc_name_end.nd rfl (by first | exact Or.inl rfl | exact Or.inr rfl) pe_int ip_add)))
      (pss_one (ps_ret (pv 2))))), ?_⟩
  walk_at "in"
  have hl : z.cps.toList.length = z.length := Array.length_toList ..
  have hn := RP.nm_le (z.cps.toList.drop i)
  rw [List.length_drop, hl] at hn
  refine ⟨_, rfl, ?_⟩
  refine ⟨fun m σ H' => H' = H ∧ ∃ k, k ≤ RP.nmLen (z.cps.toList.drop i) ∧ m = RP.nmLen (z.cps.toList.drop i) - k ∧ σ = [some (.str z), some (.int (i : Nat)), some (.int ((i + k : Nat) : Int))], ⟨_, rfl, 0, Nat.zero_le _, rfl, rfl⟩, ?_⟩
  rintro m σ H' ⟨rfl, k, hk, rfl, rfl⟩
  have eL : ("abcdefghijklmnopqrstuvwxyzABCDEFGHIJKLMNOPQRSTUVWXYZ_" : Str).cps.toList = RP.letters := by decide +kernel
  have eD : ("0123456789" : Str).cps.toList = RP.digits := by decide +kernel
  have hget : (z.cps.toList.drop i)[k]? = z.cps.toList[i + k]? := List.getElem?_drop ..
  by_cases c : k = RP.nmLen (z.cps.toList.drop i)
  · have ce := RP.cont_end (z.cps.toList.drop i)
    rw [← c] at ce hQ
    by_cases e : i + k < z.length
    · have t1 : decide (((i + k : Nat) : Int) < (z.length : Nat)) = true := decide_eq_true (by omega)
      obtain ⟨ch, hc⟩ : ∃ ch, z.cps.toList[i + k]? = some ch := ⟨_, List.getElem?_eq_getElem (by rw [hl]; exact e)⟩
      have hat : atI z.cps.toList ((i + k : Nat) : Int) = some ch := atI_nat hc
      unfold RP.contB at ce
      rw [hget, hc] at ce
      obtain ⟨ce1, ce2⟩ := Bool.or_eq_false_iff.mp ce
      have t2 : decide (ch ∈ ("abcdefghijklmnopqrstuvwxyzABCDEFGHIJKLMNOPQRSTUVWXYZ_" : Str).cps.toList) = false := by rw [eL]; exact ce1
      have hz2 : z.length ≤ sizeLine := by rw [sizeLine_eq]; omega
      by_cases k0 : k = 0
      · have t3 : decide (((i : Nat) : Int) < ((i + k : Nat) : Int)) = false := decide_eq_false (by omega)
        walk_at "go"
        exact hQ
      · have t3 : decide (((i : Nat) : Int) < ((i + k : Nat) : Int)) = true := decide_eq_true (by omega)
        have t4 : decide (ch ∈ ("0123456789" : Str).cps.toList) = false := by
          rw [eD]
          rcases Bool.and_eq_false_iff.mp ce2 with h | h
          · exact absurd (of_decide_eq_false h) (by omega)
          · exact h
        walk_at "go"
        exact hQ
    · have t1 : decide (((i + k : Nat) : Int) < (z.length : Nat)) = false := decide_eq_false (by omega)
      walk_at "go"
      exact hQ
  · have lt : k < RP.nmLen (z.cps.toList.drop i) := by omega
    have ce := RP.cont_lt lt
    have e : i + k < z.length := by omega
    have t1 : decide (((i + k : Nat) : Int) < (z.length : Nat)) = true := decide_eq_true (by omega)
    obtain ⟨ch, hc⟩ : ∃ ch, z.cps.toList[i + k]? = some ch := ⟨_, List.getElem?_eq_getElem (by rw [hl]; exact e)⟩
    have hat : atI z.cps.toList ((i + k : Nat) : Int) = some ch := atI_nat hc
    have hz2 : z.length ≤ sizeLine := by rw [sizeLine_eq]; omega
    unfold RP.contB at ce
    rw [hget, hc] at ce
    have next : ∀ H2 : Hp, H2 = H' → ∃ m', m' < RP.nmLen (z.cps.toList.drop i) - k ∧ H2 = H' ∧ ∃ k', k' ≤ RP.nmLen (z.cps.toList.drop i) ∧ m' = RP.nmLen (z.cps.toList.drop i) - k' ∧ [some (V.str z), some (V.int (i : Nat)), some (V.int (((i + k : Nat) : Int) + 1))] = [some (.str z), some (.int (i : Nat)), some (.int ((i + k' : Nat) : Int))] :=
      fun H2 h => ⟨RP.nmLen (z.cps.toList.drop i) - (k + 1), by omega, h, k + 1, by omega, rfl, by rw [show ((i + (k + 1) : Nat) : Int) = ((i + k : Nat) : Int) + 1 by omega]⟩
    cases ce1 : RP.letB ch with
    | true =>
      have t2 : decide (ch ∈ ("abcdefghijklmnopqrstuvwxyzABCDEFGHIJKLMNOPQRSTUVWXYZ_" : Str).cps.toList) = true := by rw [eL]; exact ce1
      walk_at "go"
      refine ⟨_, fun _ _ h => h, ?_⟩
      walk_at "go"
      exact (next _ rfl).choose_spec
    | false =>
      replace ce : (RP.letB ch || (decide (0 < k) && RP.digB ch)) = true := ce
      rw [ce1, Bool.false_or] at ce
      obtain ⟨ce3, ce4⟩ := Bool.and_eq_true_iff.mp ce
      have t2 : decide (ch ∈ ("abcdefghijklmnopqrstuvwxyzABCDEFGHIJKLMNOPQRSTUVWXYZ_" : Str).cps.toList) = false := by rw [eL]; exact ce1
      have t3 : decide (((i : Nat) : Int) < ((i + k : Nat) : Int)) = true := decide_eq_true (by have := of_decide_eq_true ce3; omega)
      have t4 : decide (ch ∈ ("0123456789" : Str).cps.toList) = true := by rw [eD]; exact ce4
      walk_at "go"
      refine ⟨_, fun _ _ h => h, ?_⟩
      walk_at "go"
      exact (next _ rfl).choose_spec
end
end K17

set_option Elab.async false
set_option linter.all false
set_option maxRecDepth 100000
set_option maxHeartbeats 0

namespace K17
open PySem PySem.Spec PyProof.Rows L2 RC
section
variable {P : Program} {w : World} {K : PySem.W.Frag} {mg : Str → Option Value} {base : Heap}
/-! ### a plain field between two braces -/
def spFieldOf (K : PySem.W.Frag) : Sp := fun vs H Q _ => ∃ z : Str, vs = [.str z] ∧ z.length ≤ 1000 ∧ z.length ≠ 0 ∧ RP.nmLen z.cps.toList = z.length ∧ ∀ (q dx : Addr) (H' : Hp), Same H H' → H q = none → H' q = some (.ins (CFd K) dx (fdP z)) → Q (.ref q) H'
theorem ok_field_of {f : Addr} (T : Txt P w K mg) (F : Stands K "field_of" "field_of" s_field_of [] f) (c_name_end : Callable P w K mg base 1 (He.ga K "name_end") ["text", "start"] [] spNameEnd)
    (c_Field_init_d3 : Callable P w K mg base 1 (He.ma K (He.ga K "Field") "__init__") ["self", "name", "conversion", "fill", "align", "width"] [.str " ", .str "", .int 0] (spFieldInit K)) : Callable P w K mg base 3 f ["body"] [] (spFieldOf K) := by
  refine F.call0 sc_field_of (fun vs H Q E h => ?_) (fun cdv A outer s0 H vs Q E hr h => ?_) (fun _ _ _ _ _ _ us hl => match us, hl with | [_], _ => rfl)
  · obtain ⟨z, rfl, _⟩ := h; rfl
  obtain ⟨z, rfl, hz, hz0, hn, hQ⟩ := h
  refine ⟨_, (pss_cons (ps_set (i := 1) sc_field_of.nd rfl (by first | exact Or.inl rfl | exact Or.inr rfl) (pe_fn T.g_name_end c_name_end (hr.mono (by first | decide | exact Nat.le_refl _)) (by rfl) (pa_cons (pv 0) (pa_cons pe_int pa_nil))))
      (pss_cons (ps_par3 (by rfl) sc_field_of.nd (i := 2) (j := 3) (l := 4) rfl rfl rfl (by decide) (by decide) (by decide) rfl rfl rfl (pa_cons (pe_slice sl_str (pv 0) po_none (po_some (pv 1))) (pa_cons (pe_slice sl_str (pv 0) (po_some (pv 1)) po_none) (pa_cons pe_str pa_nil))) (by rfl))
      (pss_cons (ps_if (pt_cmpR op_in_seq (pe_slice sl_str (pv 3) po_none (po_some pe_int)) (pe_tup (pa_cons pe_str (pa_cons pe_str pa_nil))) (by rfl)) (pss_one (ps_par (by rfl) sc_field_of.nd (i := 4) (j := 3) rfl rfl (by decide) rfl rfl (pa_cons (pe_ix ix_str (pv 3) pe_int (fun _ _ => rfl)) (pa_cons (pe_slice sl_str (pv 3) (po_some pe_int) po_none) pa_nil)) (by rfl))) pss_nil)
      (pss_cons (ps_if (PW.pt (pw_or (pt_cmpR op_eq (pv 2) pe_str (nomark _)) (pw_or1 (PW.pt (pw_and (pt_cmpR op_ne (pv 3) pe_str (nomark _)) (pw_and1 (pt_cmpR op_ne (pe_ix ix_str (pv 3) pe_int (fun _ _ => rfl)) pe_str (nomark _)))))))) (pss_one (ps_ret pe_non)) pss_nil)
      (pss_cons (ps_if (pt_cmpR op_eq (pv 3) pe_str (nomark _)) (pss_one (ps_ret (pe_mk T.k_Field T.g_Field c_Field_init_d3 (hr.mono (by first | decide | exact Nat.le_refl _)) (by rfl) (pa_cons (pv 2) (pa_cons (pv 4) pa_nil))))) pss_nil)
      (pss_cons (ps_set (i := 5) sc_field_of.nd rfl (by first | exact Or.inl rfl | exact Or.inr rfl) pe_never)
      (pss_one (ps_ret pe_never)))))))), ?_⟩
  walk_at "in"
  have hl : z.cps.toList.length = z.length := Array.length_toList ..
  have hz2 : z.length ≤ sizeLine := by rw [sizeLine_eq]; omega
  have hz3 : z.length ≤ 1000000 := by omega
  refine seq_of (fun σ' H' => σ' = [some (.str z), some (.int (z.length : Nat)), none, none, none, none] ∧ H = H') (fun b' kb => ?_) (fun σ' H' hm => ?_)
  · walk_at "go"
    refine kb _ _ ⟨?_, rfl⟩
    rw [Nat.zero_add, List.drop_zero, hn]; rfl
  obtain ⟨rfl, rfl⟩ := hm
  have c1 : cutS z none (some ((z.length : Nat) : Int)) = z := by rw [cut_to, List.take_of_length_le (by omega), tx_of]
  have c2 : cutS z (some ((z.length : Nat) : Int)) none = tx [] := by rw [cut_from, List.drop_eq_nil_of_le (by omega)]
  refine seq_of (fun σ' H' => σ' = [some (.str z), some (.int (z.length : Nat)), some (.str z), some (.str (tx [])), some (.str (tx [])), none] ∧ H = H') (fun b' kb => ?_) (fun σ' H' hm => ?_)
  · walk_at "go"
    refine kb _ _ ⟨?_, rfl⟩
    rw [c1, c2, ← s_empty]; rfl
  obtain ⟨rfl, rfl⟩ := hm
  clear c1 c2
  have c3 : cutS (tx []) none (some 2) = tx [] := cut_to (b := 2)
  have vF : inV (.str (cutS (tx []) none (some 2))) [V.str (tx [33, 114]), V.str (tx [33, 115])] = false := by rw [c3]; exact (inV_tx _ [[33, 114], [33, 115]]).trans (decide_eq_false (by decide))
  have e0 : (tx ([] : List Nat)).length ≤ sizeLine := by rw [sizeLine_eq]; decide
  rw [s_bangr, s_bangs, s_empty]
  walk_at "go"
  intro p fp
  have s1 : Same H (upd H p (.tup [.str (tx [33, 114]), .str (tx [33, 115])])) := same_new fp _
  have hp : (upd H p (.tup [.str (tx [33, 114]), .str (tx [33, 115])])) p = some (.tup [.str (tx [33, 114]), .str (tx [33, 115])]) := upd_same
  generalize upd H p (.tup [.str (tx [33, 114]), .str (tx [33, 115])]) = H1 at s1 hp ⊢
  refine ⟨p, _, rfl, .inr (SqT.of hp), rfl, rfl, _, rfl, ?_⟩
  refine iteF' vF ?_
  have t1 : decide (V.str z = V.str (tx [])) = false := decide_eq_false fun h => by
    have := congrArg Str.length (V.str.inj h)
    rw [tx_len] at this; exact hz0 this
  have t2 : (!decide (V.str (tx ([] : List Nat)) = V.str (tx []))) = false := by rw [decide_eq_true rfl]; rfl
  have t3 : decide (V.str (tx ([] : List Nat)) = V.str (tx [])) = true := decide_eq_true rfl
  walk_at "go"
  intro x dx f1 f2 f3
  refine ⟨x, dx, _, _, _, _, _, rfl, upd_same, rfl, ?_⟩
  rw [upd_upd]
  have s3 := (same_new f2 (.own x)).trans (same_new (by rw [upd_ne (Ne.symm f3)]; exact f1) (.ins (CFd K) dx (fdP z)))
  rw [← s_empty]
  exact hQ x dx _ (s1.trans s3) (RW.free_same s1 f1) upd_same
end
end K17

set_option Elab.async false
set_option linter.all false
set_option maxRecDepth 100000
set_option maxHeartbeats 0

namespace K17
open PySem PySem.Spec PyProof.Rows L2 RC
section
variable {P : Program} {w : World} {K : PySem.W.Frag} {mg : Str → Option Value} {base : Heap}
/-! ### the parts of a plain format in braces -/
/-- what was laid since -/
noncomputable abbrev nw (H H' : Hp) : Hp := rst (fun b => H b ≠ none) H'
theorem nw_at {H H' : Hp} {p : Addr} {o : HO} (h : H' p = some o) (f : H p = none) : nw H H' p = some o := rst_at h fun z => z f
theorem nw_same {H H1 H2 : Hp} (s : Same H1 H2) : Same (nw H H1) (nw H H2) := rst_next (fun b u _ h => s b u h) fun b h => .inl h
theorem nw_free {H H' : Hp} {b : Addr} {u : HO} (e : nw H H' b = some u) : H b = none := Classical.byContradiction fun z => by
  have e2 : rst (fun b => H b ≠ none) H' b = some u := e
  rw [rst_none (S := fun b => H b ≠ none) z] at e2; cases e2
theorem nw_upd {H H2 : Hp} {p : Addr} {o : HO} (f : H p = none) : nw H (upd H2 p o) = upd (nw H H2) p o := by
  funext b
  by_cases e : b = p
  · rw [e, upd_same]; exact nw_at upd_same f
  · rw [upd_ne e]
    show rst _ (upd H2 p o) b = rst _ H2 b
    unfold rst
    by_cases c : H b ≠ none
    · rw [if_pos c, if_pos c]
    · rw [if_neg c, if_neg c, upd_ne e]
abbrev PtT : Type := Nat ⊕ SS
/-- a format of letters and plain fields, read from the left -/
inductive PlB : SS → List PtT → Prop
  | nil : PlB [] []
  | ch {c : Nat} {r : SS} {ps : List PtT} : c ≠ 123 → c ≠ 125 → PlB r ps → PlB (c :: r) (.inl c :: ps)
  | fld {b r : SS} {ps : List PtT} : b ≠ [] → RP.nmLen b = b.length → (b ++ 125 :: r).head? ≠ some 123 → 125 ∉ b → PlB r ps → PlB (123 :: (b ++ 125 :: r)) (.inr b :: ps)
def PtV (K : PySem.W.Frag) (H : Hp) : PtT → V → Prop
  | .inl c, v => v = .str ⟨#[c]⟩
  | .inr b, v => ∃ q dx fs, v = .ref q ∧ H q = some (.ins (CFd K) dx fs) ∧ fs.length = 5 ∧ fs = fdP (tx b)
inductive PtsV (K : PySem.W.Frag) (H : Hp) : List PtT → List V → Prop
  | nil : PtsV K H [] []
  | cons {p : PtT} {v : V} {ps : List PtT} {vs : List V} : PtV K H p v → PtsV K H ps vs → PtsV K H (p :: ps) (v :: vs)
theorem PtV.to {K : PySem.W.Frag} {H H' : Hp} (h : ∀ (q dx : Addr) (fs : List (Str × V)), fs.length = 5 → H q = some (.ins (CFd K) dx fs) → H' q = some (.ins (CFd K) dx fs)) : ∀ {p : PtT} {v : V}, PtV K H p v → PtV K H' p v
  | .inl _, _, e => e
  | .inr _, _, ⟨q, dx, fs, e, g, l⟩ => ⟨q, dx, fs, e, h _ _ _ l.1 g, l⟩
theorem PtsV.to {K : PySem.W.Frag} {H H' : Hp} (h : ∀ (q dx : Addr) (fs : List (Str × V)), fs.length = 5 → H q = some (.ins (CFd K) dx fs) → H' q = some (.ins (CFd K) dx fs)) : ∀ {ps : List PtT} {vs : List V}, PtsV K H ps vs → PtsV K H' ps vs
  | _, _, .nil => .nil
  | _, _, .cons a b => .cons (a.to h) (b.to h)
theorem PtsV.same {K : PySem.W.Frag} {H H' : Hp} (s : Same H H') {ps : List PtT} {vs : List V} (h : PtsV K H ps vs) : PtsV K H' ps vs := h.to fun _ _ _ _ e => s _ _ e
theorem PtsV.put {K : PySem.W.Frag} {H : Hp} {p : Addr} {xs : List V} {o : HO} (e : H p = some (.lst xs)) {ps : List PtT} {vs : List V} (h : PtsV K H ps vs) : PtsV K (upd H p o) ps vs := h.to fun q dx fs l g => by
  rw [upd_ne]; exact g
  intro z; rw [z, e] at g; cases g
theorem PtV.put {K : PySem.W.Frag} {H : Hp} {p : Addr} {xs : List V} {o : HO} (e : H p = some (.lst xs)) {x : PtT} {v : V} (h : PtV K H x v) : PtV K (upd H p o) x v := h.to fun q dx fs l g => by
  rw [upd_ne]; exact g
  intro z; rw [z, e] at g; cases g
theorem PtsV.own {K : PySem.W.Frag} {H : Hp} {p C dx : Addr} {o : HO} (e : H p = some (.ins C dx [])) {ps : List PtT} {vs : List V} (h : PtsV K H ps vs) : PtsV K (upd H p o) ps vs := h.to fun q dx n l g => by
  rw [upd_ne]; exact g
  intro z; rw [z, e] at g; cases g; cases l
theorem PtsV.snoc {K : PySem.W.Frag} {H : Hp} {p : PtT} {v : V} (h : PtV K H p v) : ∀ {ps : List PtT} {vs : List V}, PtsV K H ps vs → PtsV K H (ps ++ [p]) (vs ++ [v])
  | _, _, .nil => .cons h .nil
  | _, _, .cons a b => .cons a (b.snoc h)
theorem PtsV.get {K : PySem.W.Frag} {H : Hp} : ∀ {ps : List PtT} {vs : List V}, PtsV K H ps vs → ∀ {i : Nat} {v : V}, vs[i]? = some v → ∃ x, ps[i]? = some x ∧ PtV K H x v
  | _, _, .nil, _, _, h => by cases h
  | _, _, .cons a b, 0, _, h => by cases h; exact ⟨_, rfl, a⟩
  | _, _, .cons a b, _ + 1, _, h => b.get h
theorem PtsV.len {K : PySem.W.Frag} {H : Hp} : ∀ {ps : List PtT} {vs : List V}, PtsV K H ps vs → ps.length = vs.length
  | _, _, .nil => rfl
  | _, _, .cons _ b => congrArg Nat.succ b.len
theorem len_add (a b : Str) : (a ++ b).length = a.length + b.length := by
  rw [TL.len_tl, TL.tl_append, List.length_append, ← TL.len_tl, ← TL.len_tl]
theorem from_nat (n i : Nat) : fromIndex n (i : Int) = i := by
  unfold fromIndex
  rw [if_neg (by omega)]; omega
theorem getD_list (z : Str) (v : Nat) : z.cps.getD v 0 = (z.cps.toList[v]?).getD 0 := by
  rw [Array.getD_eq_getD_getElem?, Array.getElem?_toList]
theorem getD_some {z : Str} {v : Nat} (h : v < z.length) (e : z.cps.getD v 0 = 125) : z.cps.toList[v]? = some 125 := by
  have hl : z.cps.toList.length = z.length := Array.length_toList ..
  rw [getD_list, List.getElem?_eq_getElem (by rw [hl]; exact h)] at e
  rw [List.getElem?_eq_getElem (by rw [hl]; exact h)]
  exact congrArg some e
theorem find_at {z : Str} {i : Nat} {b t : List Nat} (h : z.cps.toList.drop i = b ++ 125 :: t) (hb : 125 ∉ b) (hi : i ≤ z.length) : Txt.find3 z (tx [125]) (i : Int) = ((i + b.length : Nat) : Int) := by
  have hl : z.cps.toList.length = z.length := Array.length_toList ..
  have at_b : z.cps.toList[i + b.length]? = some 125 := by
    rw [← List.getElem?_drop, h, List.getElem?_append_right (Nat.le_refl _), Nat.sub_self]; rfl
  have inb : ∀ j, j < b.length → z.cps.toList[i + j]? = some 125 → False := fun j hj e => by
    rw [← List.getElem?_drop, h, List.getElem?_append_left hj] at e
    exact hb (List.mem_of_getElem? e)
  have gb : z.cps.getD (i + b.length) 0 = 125 := by rw [getD_list, at_b]; rfl
  have lb : i + b.length < z.length := by rw [← hl]; exact (List.getElem?_eq_some_iff.mp at_b).1
  have hs := PySem.StrLaws.find3_spec z 125 (i : Int)
  rw [from_nat] at hs
  rcases hs with ⟨_, h2⟩ | ⟨k, h1, h2, h3, h4, h5⟩
  · exact absurd gb (h2 _ (by omega) lb)
  · refine h1.trans ?_
    rcases Nat.lt_trichotomy k (i + b.length) with q | q | q
    · exact (inb (k - i) (by omega) (by rw [show i + (k - i) = k by omega]; exact getD_some h3 h4)).elim
    · rw [q]
    · exact absurd gb (h5 _ (by omega) q)
def spParts (K : PySem.W.Frag) : Sp := fun vs H Q _ => ∃ (z : Str) (ps : List PtT), vs = [.str z] ∧ z.length ≤ 1000 ∧ PlB z.cps.toList ps ∧ ∀ (vs : List V) (p : Addr) (H' : Hp), Same H H' → H p = none → H' p = some (.lst vs) → vs.length ≤ 1000 → PtsV K (nw H H') ps vs → Q (.ref p) H'
structure PInv (K : PySem.W.Frag) (H : Hp) (z : Str) (p : Addr) (ps : List PtT) (m : Nat) (σ : L2.St) (H' : Hp) : Prop where
  same : Same H H'
  ex : ∃ (i : Nat) (p1 p2 : List PtT) (vs : List V) (a b : Option V), m = z.length - i ∧ i ≤ z.length ∧ vs.length ≤ i ∧ H' p = some (.lst vs) ∧ PtsV K (nw H H') p1 vs ∧ PlB (z.cps.toList.drop i) p2 ∧ ps = p1 ++ p2 ∧ σ = [some (.str z), some (.ref p), some (.int (i : Nat)), a, b]
theorem ok_parts {f : Addr} (T : Txt P w K mg) (F : Stands K "parts_of_braces" "parts_of_braces" s_parts_of_braces [] f) (c_field_of : Callable P w K mg base 3 (He.ga K "field_of") ["body"] [] (spFieldOf K)) : Callable P w K mg base 4 f ["fmt"] [] (spParts K) := by
  refine F.call0 sc_parts_of_braces (fun vs H Q E h => ?_) (fun cdv A outer s H vs Q E hr h => ?_) (fun _ _ _ _ _ _ us hl => match us, hl with | [_], _ => rfl)
  · obtain ⟨z, ps, rfl, _⟩ := h; rfl
  obtain ⟨z, ps, rfl, hz, hP, hQ⟩ := h
  refine ⟨_, (pss_cons (ps_par (by rfl) sc_parts_of_braces.nd (i := 1) (j := 2) rfl rfl (by decide) rfl rfl (pa_cons (pe_lst pa_nil) (pa_cons pe_int pa_nil)) (by rfl))
      (pss_cons (ps_while PassesOwn.never (pt_cmpR op_lt (pv 2) (pe_callB call_len_str (by rfl) T.b_len (by decide +kernel) (pa_cons (pv 0) pa_nil)) (nomark _)) (pss_cons (ps_par (by rfl) sc_parts_of_braces.nd (i := 3) (j := 4) rfl rfl (by decide) rfl rfl (pa_cons (pe_op op_add (pv 2) pe_int) (pa_cons (pe_ix ix_str (pv 0) (pv 2) (fun _ _ => rfl)) pa_nil)) (by rfl))
      (pss_cons (ps_if (pt_cmpR op_in_seq (pe_slice sl_str (pv 0) (po_some (pv 2)) (po_some (pe_op op_add (pv 2) pe_int))) (pe_tup (pa_cons pe_str (pa_cons pe_str pa_nil))) (by rfl)) (pss_one (ps_set (i := 3) sc_parts_of_braces.nd rfl (by first | exact Or.inl rfl | exact Or.inr rfl) (pe_op op_add (pv 2) pe_int))) (pss_one (ps_if (pt_cmpR op_in_seq (pv 4) (pe_tup (pa_cons pe_str (pa_cons pe_str pa_nil))) (by rfl)) (pss_cons (ps_set (i := 3) sc_parts_of_braces.nd rfl (by first | exact Or.inl rfl | exact Or.inr rfl) (pe_op op_add (pe_bm PySem.F.plainAttrs_str PySem.F.slot_str_find PySem.F.type_str_find mt_find3 (pv 0) (pa_cons pe_str (pa_cons (pv 2) pa_nil))) pe_int))
      (pss_one (ps_set (i := 4) sc_parts_of_braces.nd rfl (by first | exact Or.inl rfl | exact Or.inr rfl) (pe_ifExp (pt_cmpR op_gt (pv 3) pe_int (nomark _)) (pe_fn T.g_field_of c_field_of (hr.mono (by first | decide | exact Nat.le_refl _)) (by rfl) (pa_cons (pe_slice sl_str (pv 0) (po_some (pe_op op_add (pv 2) pe_int)) (po_some (pe_op op_sub (pv 3) pe_int))) pa_nil)) pe_non)))) pss_nil)))
      (pss_cons (ps_if (pt_cmpR op_isN (pv 4) pe_non (nomark _)) (pss_one (ps_ret pe_non)) pss_nil)
      (pss_cons (ps_expr (pe_bm PySem.F.plainAttrs_list PySem.F.slot_list_append PySem.F.type_list_append mt_append (pv 1) (pa_cons (pv 4) pa_nil)))
      (pss_one (ps_set (i := 2) sc_parts_of_braces.nd rfl (by first | exact Or.inl rfl | exact Or.inr rfl) (pv 3))))))))
      (pss_one (ps_ret (pv 1))))), ?_⟩
  walk_at "in"
  have hl : z.cps.toList.length = z.length := Array.length_toList ..
  have hz2 : z.length ≤ sizeLine := by rw [sizeLine_eq]; omega
  walk_at "go"
  intro p fp
  walk_at "go"
  refine ⟨PInv K H z p ps, ⟨_, same_new fp _, 0, [], ps, [], _, _, rfl, Nat.zero_le _, Nat.zero_le _, upd_same, .nil, hP, rfl, rfl⟩, ?_⟩
  rintro m σ H1 ⟨s1, i, p1, p2, vs, a, b, rfl, hi, hv, hp, hps, hd, rfl, rfl⟩
  rw [s_open2, s_close2, s_open, s_close]
  by_cases c : i < z.length
  · have t1 : decide (((i : Nat) : Int) < (z.length : Nat)) = true := decide_eq_true (by omega)
    have c2 : cutS z (some (i : Int)) (some ((i : Int) + 2)) = tx ((z.cps.toList.drop i).take 2) := cut_two hi
    obtain ⟨ch, hc⟩ : ∃ ch, z.cps.toList[i]? = some ch := ⟨_, List.getElem?_eq_getElem (by rw [hl]; exact c)⟩
    have hat : atI z.cps.toList ((i : Nat) : Int) = some ch := atI_nat hc
    have hdr : z.cps.toList.drop i = ch :: z.cps.toList.drop (i + 1) := by
      obtain ⟨h1, h2⟩ := List.getElem?_eq_some_iff.mp hc
      rw [← h2]; exact List.drop_eq_getElem_cons h1
    have hsz : vs.length < sizeLine := by rw [sizeLine_eq]; omega
    have hdi := hdr
    generalize hr : z.cps.toList.drop (i + 1) = r at hdi
    have hlr : r.length = z.length - (i + 1) := by rw [← hr, List.length_drop, hl]
    rw [hdi] at hd c2
    have next : ∀ (j : Nat) (e : Int) (x : PtT) (v : V) (a2 b2 : Option V) (H2 : Hp) (p3 : List PtT), e = (j : Int) → i < j → j ≤ z.length → Same H1 H2 → PtV K (nw H H2) x v → PlB (z.cps.toList.drop j) p3 → p2 = x :: p3 →
        ∃ m', m' < z.length - i ∧ PInv K H z p (p1 ++ p2) m' [some (.str z), some (.ref p), some (.int e), a2, b2] (upd H2 p (.lst (vs ++ [v]))) :=
      fun j e x v a2 b2 H2 p3 e1 e2 e3 e4 e6 e8 e9 => ⟨z.length - j, by omega, fun b u hb => (by rw [upd_ne (ne_of_none hb fp)]; exact e4 _ _ (s1 _ _ hb)), j, p1 ++ [x], p3, vs ++ [v], a2, b2, rfl, e3, by rw [List.length_append]; show vs.length + 1 ≤ j; omega, upd_same, (by rw [nw_upd fp]; exact ((hps.same (nw_same e4)).put (nw_at (e4 _ _ hp) fp)).snoc (e6.put (nw_at (e4 _ _ hp) fp))), e8, by rw [e9]; simp, by rw [e1]⟩
    obtain ⟨N, hN⟩ : ∃ N : L2.St → Hp → Prop, N = fun σ' H' => ∃ m', m' < z.length - i ∧ PInv K H z p (p1 ++ p2) m' σ' H' := ⟨_, rfl⟩
    walk_at "go"
    refine ⟨N, fun σ' H' h => by rw [hN] at h; exact h, ?_⟩
    refine seq_of (fun σ' H' => σ' = [some (.str z), some (.ref p), some (.int (i : Nat)), some (.int ((i : Int) + 1)), some (.str ⟨#[ch]⟩)] ∧ H1 = H') (fun b' kb => ?_) (fun σ' H' hm => ?_)
    · walk_at "go"
      exact kb _ _ ⟨rfl, rfl⟩
    obtain ⟨rfl, rfl⟩ := hm
    walk_at "go"
    intro q fq
    have s2 : Same H1 (upd H1 q (.tup [.str (tx [123, 123]), .str (tx [125, 125])])) := same_new fq _
    have hq : (upd H1 q (.tup [.str (tx [123, 123]), .str (tx [125, 125])])) q = some (.tup [.str (tx [123, 123]), .str (tx [125, 125])]) := upd_same
    generalize upd H1 q (.tup [.str (tx [123, 123]), .str (tx [125, 125])]) = H2 at s2 hq ⊢
    refine ⟨q, _, rfl, .inr (SqT.of hq), rfl, rfl, _, rfl, ?_⟩
    have vF : inV (.str (cutS z (some (i : Int)) (some ((i : Int) + 2)))) [V.str (tx [123, 123]), V.str (tx [125, 125])] = decide ((ch :: r).take 2 ∈ ([[123, 123], [125, 125]] : List (List Nat))) := by rw [c2]; exact inV_tx _ [[123, 123], [125, 125]]
    have hf : ¬ (ch :: r).take 2 ∈ ([[123, 123], [125, 125]] : List (List Nat)) := fun h => by
      have tk : ∀ x y : Nat, (ch :: r).take 2 = [x, y] → ch = x ∧ r.head? = some y := fun x y h => by
        cases r with
        | nil => cases h
        | cons d r => cases h; exact ⟨rfl, rfl⟩
      rcases List.mem_cons.mp h with h | h
      · obtain ⟨e1, e2⟩ := tk _ _ h
        cases hd with
        | ch h1 _ _ => exact h1 e1
        | fld _ _ h3 _ _ => exact h3 e2
      · obtain ⟨e1, e2⟩ := tk _ _ (List.mem_singleton.mp h)
        cases hd with
        | ch _ h2 _ => exact h2 e1
        | fld _ _ h3 _ _ => cases e1
    refine iteF' (vF.trans (decide_eq_false hf)) ?_
    walk_at "go"
    intro q2 fq2
    have s3 : Same H2 (upd H2 q2 (.tup [.str (tx [123]), .str (tx [125])])) := same_new fq2 _
    have hq2 : (upd H2 q2 (.tup [.str (tx [123]), .str (tx [125])])) q2 = some (.tup [.str (tx [123]), .str (tx [125])]) := upd_same
    generalize upd H2 q2 (.tup [.str (tx [123]), .str (tx [125])]) = H3 at s3 hq2 ⊢
    refine ⟨q2, _, rfl, .inr (SqT.of hq2), rfl, rfl, _, rfl, ?_⟩
    have s13 := s2.trans s3
    have hp3 := s13 _ _ hp
    have vG : inV (.str ⟨#[ch]⟩) [V.str (tx [123]), V.str (tx [125])] = decide ([ch] ∈ ([[123], [125]] : List (List Nat))) := inV_tx [ch] [[123], [125]]
    cases hd with
    | @ch _ _ p3 h1 h2 h3 =>
      refine iteF' (vG.trans (decide_eq_false fun h => ?_)) ?_
      · rcases List.mem_cons.mp h with h | h
        · cases h; exact h1 rfl
        · cases List.mem_singleton.mp h; exact h2 rfl
      walk_at "go"
      rw [hN]
      exact next (i + 1) _ (.inl ch) (.str ⟨#[ch]⟩) _ _ H3 p3 (show ((i : Int) + 1) = ((i + 1 : Nat) : Int) by omega) (by omega) (by omega) s13 rfl (by rw [hr]; exact h3) rfl
    | @fld b r2 p3 h0 h1 h2 h3 h4 =>
      refine iteT' (vG.trans (decide_eq_true List.mem_cons_self)) ?_
      have fa : Txt.find3 z (tx [125]) (i : Int) = ((i + (b.length + 1) : Nat) : Int) := find_at (b := 123 :: b) (t := r2) (hdr.trans (by rw [hr]; rfl)) (fun h => (List.mem_cons.mp h).elim (by decide) h3) hi
      have c3 : cutS z (some ((i : Int) + 1)) (some (Txt.find3 z (tx [125]) (i : Int) + 1 - 1)) = tx b := by
        have := cut_ab (z := z) (a := i + 1) (b := i + (b.length + 1)) (by omega)
        rw [hr, show i + (b.length + 1) - (i + 1) = b.length by omega, List.take_left] at this
        rw [fa, show ((i + (b.length + 1) : Nat) : Int) + 1 - 1 = ((i + (b.length + 1) : Nat) : Int) by omega]
        exact this
      walk_at "go"
      refine iteT' (decide_eq_true (show (0 : Int) < Txt.find3 z (tx [125]) (i : Int) + 1 by rw [fa]; omega)) ?_
      walk_at "go"
      rw [c3]
      rw [List.length_append, List.length_cons] at hlr
      have bl : (tx b).length ≤ 1000 := by rw [tx_len]; omega
      have b0 : (tx b).length ≠ 0 := by rw [tx_len]; exact fun h => h0 (List.length_eq_zero_iff.mp h)
      have bn : RP.nmLen (tx b).cps.toList = (tx b).length := by rw [tx_len]; exact h1
      refine ⟨bl, b0, bn, fun x dx H4 s4 fx hx => ?_⟩
      have fx0 : H x = none := (s1.trans s13).free fx
      have hp4 := s4 _ _ hp3
      walk_at "go"
      have hr2 : z.cps.toList.drop (i + (b.length + 2)) = r2 := by
        rw [show i + (b.length + 2) = (i + 1) + (b.length + 1) by omega, ← List.drop_drop, hr, List.drop_append]
        simp
      rw [hN]
      exact next (i + (b.length + 2)) _ (.inr b) (.ref x) _ _ H4 p3 (show Txt.find3 z (tx [125]) (i : Int) + 1 = ((i + (b.length + 2) : Nat) : Int) by rw [fa]; omega) (by omega) (by omega) (s13.trans s4) ⟨x, dx, _, rfl, nw_at hx fx0, rfl, rfl⟩ (by rw [hr2]; exact h4) rfl
  · have t1 : decide (((i : Nat) : Int) < (z.length : Nat)) = false := decide_eq_false (by omega)
    have dn : z.cps.toList.drop i = [] := List.drop_eq_nil_of_le (by omega)
    rw [dn] at hd
    cases hd
    rw [List.append_nil] at hQ
    walk_at "go"
    exact hQ vs p _ s1 fp hp (by omega) hps
end
end K17

set_option Elab.async false
set_option linter.all false
set_option maxRecDepth 100000
set_option maxHeartbeats 0

namespace K17
open PySem PySem.Spec PyProof.Rows L2 RC
section
variable {P : Program} {w : World} {K : PySem.W.Frag} {mg : Str → Option Value} {base : Heap}
/-! ### a field of a record -/
theorem ok_field {f : Addr} (T : Txt P w K mg) (F : Stands K "field" "LogRecord.field" s_LogRecord_field [] f) (c_LogRecord_message : RH.CallN P w K mg base 5 (He.ma K (He.ga K "LogRecord") "message") ["self"] [] (spMessage K))
    (c_BadField_init : Callable P w K mg base 1 (He.ma K (He.ga K "BadField") "__init__") ["self", "name"] [] (RQ.spExcInit K "name")) (c_copied_value : Callable P w K mg base 3 (He.ga K "copied_value") ["thing"] [] (spCopied K 2)) : RH.CallN P w K mg base 6 f ["self", "name"] [] (spField K) := by
  refine RH.stands_callN0 F sc_LogRecord_field (fun vs H Q E h => ?_) (fun cdv A outer s H vs Q E hr h => ?_) (fun _ _ _ _ _ _ us hl => match us, hl with | [_, _], _ => rfl)
  · obtain ⟨r, d, nm, o, rfl, _⟩ := h; rfl
  obtain ⟨r, d, nm, o, rfl, hR, hok, hO, hV, hEm, hEf⟩ := h
  obtain ⟨dx, g, e, hr1, hg, he⟩ := id hR
  refine ⟨_, (pss_cons (ps_if (pt_cmpR op_eq (pv 1) pe_str (nomark _)) (pss_one (ps_ret (RH.pe_mtN0 (L2N.takes_of rfl rfl rfl rfl) T.c_LogRecord T.m_LogRecord_message c_LogRecord_message (hr.mono (by first | decide | exact Nat.le_refl _)) (pv 0)))) pss_nil)
      (pss_cons (ps_set (i := 2) sc_LogRecord_field.nd rfl (by first | exact Or.inl rfl | exact Or.inr rfl) (pe_disp (pps_cons pe_str (pe_fld (pv 0) rfl) (pps_cons pe_str (pe_fld (pv 0) rfl) (pps_cons pe_str (pe_fld (pv 0) rfl) (pps_cons pe_str (pe_fld (pv 0) rfl) pps_nil)))) (by rfl) (by rfl) (fun z => by cases z) (by decide)))
      (pss_cons (ps_expr (pe_bm PySem.F.plainAttrs_dict PySem.F.slot_dict_update PySem.F.type_dict_update RF.mt_updD (pv 2) (pa_cons (pe_disp (pps_cons pe_str (pe_fld (pv 0) rfl) (pps_cons pe_str (pe_fld (pv 0) rfl) (pps_cons pe_str (pe_op op_mod (pe_fld (pv 0) rfl) pe_int) pps_nil))) (by rfl) (by rfl) (fun z => by cases z) (by decide)) pa_nil)))
      (pss_cons (ps_set (i := 3) sc_LogRecord_field.nd rfl (by first | exact Or.inl rfl | exact Or.inr rfl) (pe_ifExp (pt_cmp (pc_din (hu_of hr) (pv 1) (pv 2))) (pv 2) (pe_fld (pv 0) rfl)))
      (pss_cons (ps_if (pt_cmp (pc_dnotin (hu_of hr) (pv 1) (pv 3))) (pss_one (RH.ps_excN rfl (L2N.takes_of rfl rfl rfl rfl) T.x_BadField c_BadField_init (hr.mono (by first | decide | exact Nat.le_refl _)) T.g_BadField (by rfl) (pa_cons (pv 1) pa_nil))) pss_nil)
      (pss_one (ps_ret (pe_fn T.g_copied_value c_copied_value (hr.mono (by first | decide | exact Nat.le_refl _)) (by rfl) (pa_cons (pe_dget (hu_of hr) (pv 3) (pv 1) (fun _ _ => rfl)) pa_nil))))))))), ?_⟩
  dsimp only [cxK2]
  by_cases hm : nm = "message"
  · subst hm
    obtain ⟨oM, hMo, h1, h2⟩ : ∃ oM, MsgO d oM ∧ (∀ t, oM = some t → o = .tx t) ∧ (oM = none → o = .msg) := by
      cases hO with
      | @msgT t _ h => exact ⟨some t, h, fun _ e => by cases e; rfl, fun e => nomatch e⟩
      | msgE _ h => exact ⟨none, h, (fun _ e => nomatch e), fun _ => rfl⟩
      | val h => exact absurd rfl h
      | bad h => exact absurd rfl h
    have t1 : decide (V.str (Str.ofString "message") = V.str (Str.ofString "message")) = true := decide_eq_true rfl
    refine ⟨_, rfl, rfl, _, rfl, ?_⟩
    refine iteT' t1 ?_
    refine ⟨_, rfl, r, dx, _, rfl, hr1, rfl, ?_⟩
    refine ⟨r, d, oM, rfl, hR, hok, hMo, fun t H' ho s => ?_, fun ho => hEm (h2 ho)⟩
    refine hV _ _ (h1 t ho) (.inl ⟨_, rfl, ?_⟩) s
    subst ho
    rw [tx_len]
    have := msgO_len hMo hok
    omega
  · have t1 : decide (V.str nm = V.str (Str.ofString "message")) = false := decide_eq_false fun z => hm (V.str.inj z)
    walk_at "go"
    intro q1 fq1
    walk_at "go"
    generalize hH1 : upd (upd H q1 _) q1 _ = H1
    have s1 : Same H H1 := by rw [← hH1, upd_upd]; exact same_new fq1 _
    have hq1 : H1 q1 = some (.dK [(Sum.inr "name", .str d.name), (Sum.inr "levelno", .int d.lv), (Sum.inr "levelname", .str d.ln), (Sum.inr "msg", .str d.msg)]) := by rw [← hH1]; exact upd_same
    clear hH1
    have hr2 := s1 _ _ hr1
    have n1 : q1 ≠ r := fun z => by rw [z, hr1] at fq1; cases fq1
    have n2 : q1 ≠ e := fun z => by rw [z, he] at fq1; cases fq1
    refine ⟨.inr (.inr (.inl ⟨rfl, .inl ⟨_, hq1⟩⟩)), ?_⟩
    walk_at "go"
    intro q2 fq2
    have n3 : q2 ≠ q1 := fun z => by rw [z, hq1] at fq2; cases fq2
    have he1 := s1 _ _ he
    have n4 : q2 ≠ e := fun z => by rw [z, he1] at fq2; cases fq2
    walk_at "go"
    generalize hH2 : upd (upd (upd H1 q2 _) q2 _) q1 _ = H2
    have hq3 : H2 q1 = some (.dK (own7 d g)) := by rw [← hH2]; exact upd_same
    have he3 : H2 e = some (.dK []) := by rw [← hH2, upd_ne (Ne.symm n2), upd_ne (Ne.symm n4), upd_ne (Ne.symm n4)]; exact he1
    have s2 : Same H H2 := fun b u hb => by
      have b1 : b ≠ q1 := ne_of_none hb fq1
      have b2 : b ≠ q2 := ne_of_none (s1 _ _ hb) fq2
      rw [← hH2, upd_ne b1, upd_ne b2, upd_ne b2]; exact s1 _ _ hb
    clear hH2 s1 hq1 hr2 he1
    show (fun c H1 => if c = true then _ else _) (valV (own7 d g) (Sum.inr nm)).isSome H2
    cases hO with
    | msgT h => exact absurd h hm
    | msgE h => exact absurd h hm
    | @val v _ h hmem =>
      obtain ⟨e1, e2, e3⟩ := fval_own hok h hmem g
      rw [e1]
      refine iteT ?_
      walk_at "go"
      exact .inl ⟨v, rfl, by decide, e3, hV v _ rfl e2 s2⟩
    | bad _ h =>
      have e1 := fval_not h g (d := d)
      rw [e1]
      refine iteF ?_
      walk_at "go"
      intro dd fd
      exact hEf nm rfl dd _ s2 fd
end
end K17

set_option Elab.async false
set_option linter.all false
set_option maxRecDepth 100000
set_option maxHeartbeats 0

namespace K17
open PySem PySem.Spec PyProof.Rows L2 RC
section
variable {P : Program} {w : World} {K : PySem.W.Frag} {mg : Str → Option Value} {base : Heap}
/-! ### the value of a field -/
abbrev CFm (K : PySem.W.Frag) : Addr := He.ga K "Formatter"
def fmF (sy z : Str) (t d : Addr) : List (Str × V) := [("fmt", .str z), ("style", .str sy), ("parts", .ref t), ("defaults", .ref d)]
def spValueOf (K : PySem.W.Frag) : Sp := fun vs H Q E => ∃ (m dm t df r : Addr) (sy z : Str) (d : Rc) (nm : Str) (o : TxO), vs = [.ref m, .str nm, .ref r] ∧ H m = some (.ins (CFm K) dm (fmF sy z t df)) ∧ H df = some (.dK []) ∧ RcAt K H r d ∧ d.Ok ∧ nm ≠ "asctime" ∧ FldO d nm o ∧ ValO K H Q E d o
theorem fldO_nm {d : Rc} {nm n2 : Str} {o : TxO} (h : FldO d nm o) (e : o = .fld n2) : n2 = nm := by
  cases h with
  | msgT => cases e
  | msgE => cases e
  | val => cases e
  | bad => cases e; rfl
theorem ok_value_of {f : Addr} (T : Txt P w K mg) (F : Stands K "value_of" "Formatter.value_of" s_Formatter_value_of [] f) (c_LogRecord_field : RH.CallN P w K mg base 6 (He.ma K (He.ga K "LogRecord") "field") ["self", "name"] [] (spField K))
    (i_BadField_init : RH.InitH P w K mg base 1 (He.ma K (He.ga K "BadField") "__init__") ["self", "name"] (RQ.spExcInit K "name")) : RQ.CallX P w K mg base 7 f ["self", "name", "record"] [] (spValueOf K) := by
  refine RQ.stands_callX0 F sc_Formatter_value_of (fun vs H Q E h => ?_) (fun cdv A outer s H vs Q E hr h => ?_) (fun _ _ _ _ _ _ us hl => match us, hl with | [_, _, _], _ => rfl)
  · obtain ⟨m, dm, t, df, r, sy, z, d, nm, o, rfl, _⟩ := h; rfl
  obtain ⟨m, dm, t, df, r, sy, z, d, nm, o, rfl, hm, hdf, hR, hok, hne, hO, hV, hEm, hEf⟩ := h
  obtain ⟨dx, g, e, hr1, hg, he⟩ := id hR
  refine ⟨_, (pss_cons (ps_if (pt_cmpR op_eq (pv 1) pe_str (nomark _)) (pss_one (ps_ret pe_never)) pss_nil)
      (pss_cons (L2H.ps_try_onlyX rfl rfl ⟨by rfl, by decide, .inl T.g_BadField⟩ (fun hd => L2H.passesAt_of rfl hd) (takes_of rfl rfl rfl rfl) (fun W pn xe tk tk2 _ => (pss_one (ps_set (i := 3) sc_Formatter_value_of.nd rfl (by first | exact Or.inl rfl | exact Or.inr rfl) (RH.pe_mtN tk T.c_LogRecord T.m_LogRecord_field c_LogRecord_field (hr.mono (by first | decide | exact Nat.le_refl _)) (pv 2) (pa_cons (pv 1) pa_nil))))) (fun a oe cls dd pn hz hf tk hot => (pss_cons (ps_if (pt_cmp (pc_dnotin (by exact hu_hot hr) (pv 1) (pe_fldK (K := K) (pv 0) rfl))) (pss_one (RH.ps_excH hot tk T.x_BadField i_BadField_init (L2H.roomH_mark (hr.mono (by first | decide | exact Nat.le_refl _)) _) T.g_BadField (by rfl) (pa_cons (pv 1) pa_nil))) pss_nil)
      (pss_one (ps_set (i := 3) sc_Formatter_value_of.nd rfl (by first | exact Or.inl rfl | exact Or.inr rfl) (pe_dget (by exact hu_hot hr) (pe_fldK (K := K) (pv 0) rfl) (pv 1) (fun _ _ => rfl)))))))
      (pss_one (ps_ret (pv 3))))), ?_⟩
  dsimp only [cxK2]
  have t1 : decide (V.str nm = V.str (Str.ofString "asctime")) = false := decide_eq_false fun z => hne (V.str.inj z)
  refine ⟨_, rfl, rfl, _, rfl, ?_⟩
  refine iteF' t1 ?_
  refine ⟨_, rfl, r, dx, _, rfl, hr1, rfl, _, rfl, ?_⟩
  refine ⟨r, d, nm, o, rfl, hR, hok, hO, fun v H' ho hv s => ?_, fun ho d2 H1 s1 fd => ?_, fun n2 ho d2 H1 s1 fd => ?_⟩
  · walk_at "go"
    exact hV v H' ho hv s
  · refine ⟨false, T.e_BadMessage_BadField, (fun h => nomatch h), fun _ => hEm ho d2 H1 s1 fd⟩
  · refine ⟨true, T.e_BadField_BadField, fun _ a fa => ?_, fun h => nomatch h⟩
    have e1 := fldO_nm hO ho
    subst e1
    have s2 : Same H (upd H1 d2 (.xd [("name", .str n2)])) := s1.trans (same_new fd _)
    have hm2 := s2 _ _ hm
    have hd2 := s2 _ _ hdf
    generalize upd H1 d2 (.xd [("name", .str n2)]) = H2 at s2 hm2 hd2 fa ⊢
    walk_at "go"
    intro d3 fd3
    exact hEf n2 ho d3 _ s2 fd3
end
end K17

set_option Elab.async false
set_option linter.all false
set_option maxRecDepth 100000
set_option maxHeartbeats 0

namespace K17
open PySem PySem.Spec PyProof.Rows L2 RC
section
variable {P : Program} {w : World} {K : PySem.W.Frag} {mg : Str → Option Value} {base : Heap}
/-! ### a record formatted -/
/-- a part of a formatter: a text, or a plain field of a name -/
inductive PtA (K : PySem.W.Frag) (H : Hp) : Str ⊕ Str → V → Prop
  | txt (z : Str) : PtA K H (.inl z) (.str z)
  | fld {q dx : Addr} {n : Str} : H q = some (.ins (CFd K) dx (fdP n)) → PtA K H (.inr n) (.ref q)
def PtsA (K : PySem.W.Frag) (H : Hp) (ps : List (Str ⊕ Str)) (vs : List V) : Prop := ps.length = vs.length ∧ ∀ (i : Nat) (p : Str ⊕ Str) (v : V), ps[i]? = some p → vs[i]? = some v → PtA K H p v
theorem PtA.same {H H' : Hp} (s : Same H H') : ∀ {p : Str ⊕ Str} {v : V}, PtA K H p v → PtA K H' p v
  | _, _, .txt z => .txt z
  | _, _, .fld h => .fld (s _ _ h)
theorem PtsA.same {H H' : Hp} (s : Same H H') {ps : List (Str ⊕ Str)} {vs : List V} (h : PtsA K H ps vs) : PtsA K H' ps vs := ⟨h.1, fun i p v hp hv => (h.2 i p v hp hv).same s⟩
/-- a formatter of these parts stands at m -/
def FmAt (K : PySem.W.Frag) (H : Hp) (m : Addr) (ps : List (Str ⊕ Str)) : Prop := ∃ (dm t df : Addr) (sy z : Str) (vs : List V), H m = some (.ins (CFm K) dm (fmF sy z t df)) ∧ H df = some (.dK []) ∧ H t = some (.tup vs) ∧ PtsA K H ps vs
theorem FmAt.same {H H' : Hp} (s : Same H H') {m : Addr} {ps : List (Str ⊕ Str)} (h : FmAt K H m ps) : FmAt K H' m ps := by
  obtain ⟨dm, t, df, sy, z, vs, h1, h2, h3, h4⟩ := h
  exact ⟨dm, t, df, sy, z, vs, s _ _ h1, s _ _ h2, s _ _ h3, h4.same s⟩
def TxO.pre (s : SS) : TxO → TxO
  | .tx t => .tx (s ++ t)
  | .msg => .msg
  | .fld n => .fld n
theorem TxO.pre_app (a b : SS) : ∀ o : TxO, (o.pre b).pre a = o.pre (a ++ b)
  | .tx t => congrArg TxO.tx (List.append_assoc a b t).symm
  | .msg => rfl
  | .fld _ => rfl
/-- what is written of parts, or the first error -/
inductive FmO (d : Rc) : List (Str ⊕ Str) → TxO → Prop
  | nil : FmO d [] (.tx [])
  | txt {z : Str} {r : List (Str ⊕ Str)} {o : TxO} : FmO d r o → FmO d (.inl z :: r) (o.pre z.cps.toList)
  | val {n : Str} {r : List (Str ⊕ Str)} {t : SS} {o : TxO} : FldO d n (.tx t) → FmO d r o → FmO d (.inr n :: r) (o.pre t)
  | msg {n : Str} {r : List (Str ⊕ Str)} : FldO d n .msg → FmO d (.inr n :: r) .msg
  | fld {n n2 : Str} {r : List (Str ⊕ Str)} : FldO d n (.fld n2) → FmO d (.inr n :: r) (.fld n2)
/-- no part is longer than 1000, nor are there more than 100; no field is the time -/
def PsOk (ps : List (Str ⊕ Str)) : Prop := ps.length ≤ 50 ∧ (∀ z : Str, Sum.inl z ∈ ps → z.length ≤ 1000) ∧ ∀ n : Str, Sum.inr n ∈ ps → n ≠ "asctime"
def TxtO (K : PySem.W.Frag) (H : Hp) (Q : VK) (E : XK) (d : Rc) (o : TxO) : Prop := (∀ (t : SS) (H' : Hp), o = .tx t → t.length ≤ 12000000 → Same H H' → Q (.str (tx t)) H') ∧ (o = .msg → ErrM K H E d) ∧ (∀ nm, o = .fld nm → ErrF K H E nm)
def spFmFormatted (K : PySem.W.Frag) : Sp := fun vs H Q E => ∃ (m r : Addr) (ps : List (Str ⊕ Str)) (d : Rc) (o : TxO), vs = [.ref m, .ref r] ∧ FmAt K H m ps ∧ PsOk ps ∧ RcAt K H r d ∧ d.Ok ∧ FmO d ps o ∧ TxtO K H Q E d o
theorem valT_argS {v : V} (h : VOk v) : (valT v).cps.toList = argS v ∧ (valT v).length ≤ 1000000 ∧ ∃ z, valT v = z := by
  rcases h with ⟨z, rfl, hz⟩ | ⟨i, rfl, hi⟩
  · exact ⟨rfl, hz, _, rfl⟩
  · refine ⟨rfl, ?_, _, rfl⟩
    have h1 := RN.len_toString i
    have h64 : i.natAbs.log2 < 63 := by
      by_cases c : i.natAbs = 0
      · rw [c]; decide
      · exact (Nat.log2_lt c).mpr hi
    show (Str.ofString (toString i)).length ≤ _
    omega
theorem fldO_len {d : Rc} {n : Str} {t : SS} (hok : d.Ok) (h : FldO d n (.tx t)) : t.length ≤ 210000 := by
  cases h with
  | msgT _ h => have := msgO_len h hok; omega
  | @val v _ h hm =>
    obtain ⟨_, _, e⟩ := fval_own hok h hm 0
    have n1 := hok.nm
    have n2 := hok.lnl
    have n3 := hok.ms
    have n4 := hok.ck
    have n5 := hok.l
    simp only [List.mem_cons, List.not_mem_nil, or_false] at hm
    have len : ∀ z : Str, (argS (.str z)).length = z.length := fun z => Array.length_toList ..
    have leni : ∀ i : Int, i.natAbs < 2 ^ 63 → (argS (.int i)).length ≤ 210000 := fun i hi => by
      have h1 := RN.len_toString i
      have h64 : i.natAbs.log2 < 63 := by
        by_cases c : i.natAbs = 0
        · rw [c]; decide
        · exact (Nat.log2_lt c).mpr hi
      have h3 : (argS (.int i)).length = (Str.ofString (toString i)).length := Array.length_toList ..
      omega
    rcases hm with rfl | rfl | rfl | rfl | rfl | rfl
    · have h' : some (V.str d.name) = some v := h
      cases h'; rw [len]; omega
    · have h' : some (V.int d.lv) = some v := h
      cases h'; exact leni _ n5
    · have h' : some (V.str d.ln) = some v := h
      cases h'; rw [len]; omega
    · have h' : some (V.str d.msg) = some v := h
      cases h'; rw [len]; omega
    · have h' : some (V.int d.clk) = some v := h
      cases h'; exact leni _ n4
    · have h' : some (V.int (d.clk % 1000)) = some v := h
      cases h'; exact leni _ (by omega)
theorem ErrM.same {H H' : Hp} {E : XK} {d : Rc} (s : Same H H') (h : ErrM K H E d) : ErrM K H' E d := fun dx H1 s1 => h dx H1 (s.trans s1)
theorem ErrF.same {H H' : Hp} {E : XK} {nm : Str} (s : Same H H') (h : ErrF K H E nm) : ErrF K H' E nm := fun dx H1 s1 => h dx H1 (s.trans s1)
/-- what holds in the loop over the parts -/
structure FInv (H : Hp) (m r p : Addr) (ps : List (Str ⊕ Str)) (d : Rc) (o : TxO) (i : Nat) (σ : L2.St) (H' : Hp) : Prop where
  same : Same H H'
  ex : ∃ (ws : List Str) (o' : TxO) (a : Option V), H' p = some (.lst (ws.map V.str)) ∧ ws.length = i ∧ (catS ws).length ≤ 210000 * i ∧ FmO d (ps.drop i) o' ∧ o = o'.pre (catS ws) ∧ σ = [some (.ref m), some (.ref r), some (.ref p), a]
theorem ok_fm_formatted {f : Addr} (T : Txt P w K mg) (F : Stands K "formatted" "Formatter.formatted" s_Formatter_formatted [] f) (c_Formatter_value_of : RQ.CallX P w K mg base 7 (He.ma K (He.ga K "Formatter") "value_of") ["self", "name", "record"] [] (spValueOf K))
    (c_Field_written : Callable P w K mg base 3 (He.ma K (He.ga K "Field") "written") ["self", "value"] [] (spWritten K)) : RQ.CallX P w K mg base 8 f ["self", "record"] [] (spFmFormatted K) := by
  refine RQ.stands_callX0 F sc_Formatter_formatted (fun vs H Q E h => ?_) (fun cdv A outer s H vs Q E hr h => ?_) (fun _ _ _ _ _ _ us hl => match us, hl with | [_, _], _ => rfl)
  · obtain ⟨m, r, ps, d, o, rfl, _⟩ := h; rfl
  obtain ⟨m, r, ps, d, o, rfl, hFm, hps, hR, hok, hO, hQ, hEm, hEf⟩ := h
  obtain ⟨dm, t, df, sy, z, vs, hm, hdf, ht, hpl, hpt⟩ := id hFm
  refine ⟨_, (pss_cons (ps_set (i := 2) sc_Formatter_formatted.nd rfl (by first | exact Or.inl rfl | exact Or.inr rfl) (pe_lst pa_nil))
      (pss_cons (ps_for (passes_of rfl) rfl (pi_tup (pe_fld (pv 0) rfl)) (pg_name (i := 3) sc_Formatter_formatted.nd rfl (by first | exact Or.inl rfl | exact Or.inr rfl)) (pss_one (ps_expr (pe_bm PySem.F.plainAttrs_list PySem.F.slot_list_append PySem.F.type_list_append mt_append (pv 2) (pa_cons (pe_ifExp (pt_val (pe_callB call_isi (by rfl) T.b_isinstance (by decide +kernel) (pa_cons (pv 3) (pa_cons (pe_bltn (v := .ty "str") (u := .type "str") (by rfl) T.b_str (by decide +kernel) rfl) pa_nil)))) (pv 3) (pe_mt T.c_Field T.m_Field_written c_Field_written (hr.mono (by first | decide | exact Nat.le_refl _)) (pv 3) (pa_cons (RQ.pe_mtX (takes_of rfl rfl rfl rfl) T.c_Formatter T.m_Formatter_value_of c_Formatter_value_of (hr.mono (by first | decide | exact Nat.le_refl _)) (pv 0) (pa_cons (pe_fld (pv 3) rfl) (pa_cons (pv 1) pa_nil))) pa_nil))) pa_nil)))))
      (pss_one (ps_ret (pe_join pe_str (pv 2)))))), ?_⟩
  dsimp only [cxK2]
  walk_at "go"
  intro p fp
  walk_at "go"
  refine for_it (walk_tup (xs := vs)) (FInv H m r p ps d o) ⟨same_new fp _, [], o, _, upd_same, rfl, Nat.zero_le _, hO, by cases o <;> rfl, rfl⟩ (fun i σ H' _ h => SqT.of (h.same _ _ ht)) (fun i x σ H0 H1 hi hP hy => ?_) (fun σ H1 hP => ?_)
  · obtain ⟨rfl, hy⟩ := hy
    obtain ⟨s1, ws, o', a, hp1, hw, hcl, hO', ho, rfl⟩ := hP
    obtain ⟨part, hpart⟩ : ∃ part, ps[i]? = some part := ⟨_, List.getElem?_eq_getElem (by rw [hpl]; exact hi)⟩
    have hdr : ps.drop i = part :: ps.drop (i + 1) := by
      obtain ⟨h1, h2⟩ := List.getElem?_eq_some_iff.mp hpart
      rw [← h2]; exact List.drop_eq_getElem_cons h1
    have hpm := List.mem_of_getElem? hpart
    rw [hdr] at hO'
    have hA := hpt i part x hpart hy
    have l50 := hps.1
    have hsz : (ws.map V.str).length < sizeLine := by rw [List.length_map, sizeLine_eq]; omega
    have next : ∀ (w : Str) (o2 : TxO) (H2 : Hp) (a2 : Option V), w.length ≤ 210000 → Same H1 H2 → FmO d (ps.drop (i + 1)) o2 → o = o2.pre (catS ws ++ w.cps.toList) → FInv H m r p ps d o (i + 1) [some (.ref m), some (.ref r), some (.ref p), a2] (upd H2 p (.lst (ws.map V.str ++ [.str w]))) := fun w o2 H2 a2 h1 s2 h3 h4 =>
      ⟨fun b v hb => (by rw [upd_ne (ne_of_none hb fp)]; exact s2 _ _ (s1 _ _ hb)), ws ++ [w], o2, a2, by rw [upd_same, List.map_append]; rfl, by rw [List.length_append, hw]; rfl, by
        have hw2 : w.cps.toList.length = w.length := Array.length_toList ..
        rw [catS_snoc, List.length_append, hw2]; omega, h3, by rw [catS_snoc]; exact h4, rfl⟩
    cases hA with
    | txt z =>
      cases hO' with
      | @txt _ _ o2 h3 =>
        have hz := hps.2.1 z hpm
        walk_at "go"
        exact next z o2 H1 _ (by omega) (Same.refl _) h3 (by rw [ho, TxO.pre_app])
    | @fld q dq n hq =>
      have hne := hps.2.2 n hpm
      have hq1 := s1 _ _ hq
      have hm1 := s1 _ _ hm
      have hdf1 := s1 _ _ hdf
      have hR1 : RcAt K H1 r d := RecAt.same hR s1
      have ky := T.kiy_Field_str
      have ty4 := RB.TyC.tyx T.ty_Field T.c_Field hq1
      obtain ⟨oF, hF, hf⟩ : ∃ oF, FldO d n oF ∧ ((∃ t o2, oF = .tx t ∧ FmO d (ps.drop (i + 1)) o2 ∧ o' = o2.pre t) ∨ ((∀ t, oF ≠ .tx t) ∧ o' = oF)) := by
        cases hO' with
        | @val _ _ t o2 h1 h2 => exact ⟨_, h1, .inl ⟨t, o2, rfl, h2, rfl⟩⟩
        | msg h1 => exact ⟨_, h1, .inr ⟨(fun t z => nomatch z), rfl⟩⟩
        | fld h1 => exact ⟨_, h1, .inr ⟨(fun t z => nomatch z), rfl⟩⟩
      walk_at "go"
      refine ⟨fun v H2 hv1 hv2 s2 => ?_, fun hv1 => ?_, fun n2 hv1 => ?_⟩
      · rcases hf with ⟨t, o2, rfl, h2, h3⟩ | ⟨h1, _⟩
        · have et : t = argS v := TxO.tx.inj hv1
          have hq2 := s2 _ _ hq1
          have hp2 := s2 _ _ hp1
          have ln := fldO_len hok hF
          walk_at "go"
          intro H3 s3
          have hp3 := s3 _ _ hp2
          obtain ⟨g1, g2, _⟩ := valT_argS hv2
          have hw2 : (valT v).cps.toList.length = (valT v).length := Array.length_toList ..
          walk_at "go"
          refine next (valT v) o2 H3 _ ?_ (s2.trans s3) h2 ?_
          · rw [← hw2, g1, ← et]; exact ln
          · rw [ho, h3, TxO.pre_app, g1, et]
        · exact absurd hv1 (h1 _)
      · subst hv1
        rcases hf with ⟨t, o2, h1, _⟩ | ⟨_, h1⟩
        · cases h1
        · exact (hEm (by rw [ho, h1]; rfl)).same s1
      · subst hv1
        rcases hf with ⟨t, o2, h1, _⟩ | ⟨_, h1⟩
        · cases h1
        · exact (hEf n2 (by rw [ho, h1]; rfl)).same s1
  · obtain ⟨s1, ws, o', a, hp1, hw, hcl, hO', ho, rfl⟩ := hP
    have l50 := hps.1
    rw [List.drop_eq_nil_of_le (by omega)] at hO'
    cases hO'
    have ho2 : o = .tx (catS ws) := by rw [ho]; exact congrArg TxO.tx (List.append_nil _)
    walk_at "go"
    refine ⟨⟨_, rfl⟩, _, rfl, "", p, ws, rfl, rfl, .inl (SqL.of hp1), ?_, ?_⟩
    · rw [catS_len]; show _ + ws.length * 0 ≤ _; omega
    · rw [join_cat]; exact hQ _ _ ho2 (by omega) s1
end
end K17

set_option Elab.async false
set_option linter.all false
set_option maxRecDepth 100000
set_option maxHeartbeats 4000000
/-! A token is out: str.replace in a for; list(text); a list's item in an op=; a dict of the top asked. -/
namespace RT
open PySem PySem.Spec PyProof.Rows L2 RC
section
variable {X : Cx} {st : Stmt} {rest body : List Stmt} {t u : TS} {e f : Expr} {te : TE} {pos : Pos}
/-- x = e -/
theorem pst_set {i : Nat} {x : Str} {px : Pos} (hN : X.N.Nodup) (hi : X.N[i]? = some x) (hx : Loc X.env.scope x) (he : PET X e te) (hs : swapsWith e (some (.Name x px)) pos.line X.env = pure false := by rfl)
    (hf : X.fn x = true ∨ X.env.scope.names.lookup x = some .local := by first | exact .inl rfl | exact .inr rfl | assumption) : PST X (.Assign [.Name x px] e pos) (tAsg te (gName i)) := by
  intro pins s σ H D h0 I h
  refine wpAny_Assign_Name (thn (he pins s σ H _ h0 I h) fun v sA ⟨y, HA, IA, rA, qA⟩ => ?_) hs
  exact store_ok IA hN hi hx rA (fun sB IB => ⟨_, HA, IB, qA⟩) hf
/-- x, y = 'a', 'b': a token is out behind it -/
theorem pss_parS {i j k1 k2 : Nat} {x y c d : Str} {px py pt pc pd pu : Pos} {kt kt2} (hc : X.calm = true) (hN : X.N.Nodup) (hi : X.N[i]? = some x) (hj : X.N[j]? = some y) (hij : i ≠ j)
    (hx : X.env.scope.names.lookup x = some .local) (hy : X.env.scope.names.lookup y = some .local) (hr : PSsT X rest u)
    (hw : swappedStores [.Tuple [.Name x px, .Name y py] kt pt] (.Tuple [.Constant (.str c) k1 pc, .Constant (.str d) k2 pd] kt2 pu) X.env = pure (some [x, y]))
    (hs : swapsWithSole [.Tuple [.Name x px, .Name y py] kt pt] (.Tuple [.Constant (.str c) k1 pc, .Constant (.str d) k2 pd] kt2 pu) pos.line X.env = pure false := by rfl) :
    PSs X (.Assign [.Tuple [.Name x px, .Name y py] kt pt] (.Tuple [.Constant (.str c) k1 pc, .Constant (.str d) k2 pd] kt2 pu) pos :: rest) (tSeq (tPar i j (tCons (tC (.str c)) (tCons (tC (.str d)) tNil))) u) := by
  refine ⟨fun pins s σ H D I h => ?_⟩
  have h : u D ((σ.set i (some (.str c))).set j (some (.str d))) H := by
    obtain ⟨v, w, e1, q⟩ := h
    cases e1
    exact q
  refine wpAny_execs_cons ?_
  rw [exec_Assign_arm]
  refine wpAny_bind (wpAny_standAt ?_)
  rw [hs]
  refine wpAny_bind (wpAny_pure ?_)
  rw [if_neg (by decide)]
  refine wpAny_bind (Tuple_ (Calls.spliced_cons (Calls.Constant_str (k := k1) (pos := pc) (Calls.spliced_cons (Calls.Constant_str (k := k2) (pos := pd) (Calls.spliced_nil ?_))))))
  have tA : 1 ≤ ({ s with toks := s.toks + 1 + 1 } : Shared).toks := by show 1 ≤ s.toks + 1 + 1; omega
  have I1 : Inv X pins σ H { s with toks := s.toks + 1 + 1 } := I.tok _
  refine wpAny_newObj_type ?_ (by show 2 ≤ sizeLine; decide)
  generalize hsA : ({ s with toks := s.toks + 1 + 1 } : Shared) = sA at I1 tA ⊢
  have I2 := I1.kept (t' := sA.toks) (h' := sA.heap.push { cls := .type "tuple", data := .seq [Value.str c s.toks, Value.str d (s.toks + 1)].toArray }) fun b o q => Heap.get?_push_of_some _ q
  rw [hw]
  refine wpAny_bind (wpAny_pure ?_)
  show wpAny (model X.prog X.w) X.A (do rule "assign.swapped-stores"; let its ← unpackItems (.ref sA.heap.objs.size) 2 none; assignInOrder [fun v => bindName X.env y v, fun v => bindName X.env x v] its.reverse; pure Flow.next) _ _ _
  refine wpAny_with_toks (n := 1) tA ?_
  refine wpAny_bind (wpAny_rule (wpAny_bind (unpackItems_tuple (items := #[Value.str c s.toks, Value.str d (s.toks + 1)]) (I.ok.hd hc) (IsTup.new sA.heap _) fun hB kB => ?_)))
  have I3 := I2.kept (h' := hB) (t' := sA.toks) fun b o q => kB b o (Nat.ne_of_lt (Heap.lt_size q)) q
  refine wpAny_bind (assignInOrder_cons (wpAny_bindName (store_ok I3 hN hj (.inl hy) (v := .str d) ⟨_, rfl⟩ (fun s2 I4 => ?_) (.inr hy))))
  refine assignInOrder_cons (wpAny_bindName (store_ok I4 hN hi (.inl hx) (v := .str c) ⟨_, rfl⟩ (fun s3 I5 => assignInOrder_nil (wpAny_pure ?_)) (.inr hx)))
  rw [List.set_comm _ _ (Ne.symm hij)] at I5
  intro h1
  exact hr pins s3 _ H D h1 I5 h
/-- x, y = 'a', 'b', a folded pair: a token is out behind it -/
theorem pss_parC {c d : Str} {k1 k2 kt2 : Nat} {pc pd pu : Pos} {tg : Expr} {g : TG} (hg : PG X tg g) (hr : PSsT X rest u)
    (hw : swappedStores [tg] (.Tuple [.Constant (.str c) k1 pc, .Constant (.str d) k2 pd] kt2 pu) X.env = pure none := by rfl)
    (hs : swapsWithSole [tg] (.Tuple [.Constant (.str c) k1 pc, .Constant (.str d) k2 pd] kt2 pu) pos.line X.env = pure false := by rfl)
    (he : (assignEach [tg] X.env).map (·.2) = [assign tg X.env] := by rfl) :
    PSs X (.Assign [tg] (.Tuple [.Constant (.str c) k1 pc, .Constant (.str d) k2 pd] kt2 pu) pos :: rest) (tSeq (tAsg (tTup (tCons (tC (.str c)) (tCons (tC (.str d)) tNil))) g) u) := by
  refine ⟨fun pins s σ H D I h => ?_⟩
  refine wpAny_execs_cons ?_
  refine wpAny_Assign_stores ?_ hs hw
  refine Tuple_ (Calls.spliced_cons (Calls.Constant_str (k := k1) (pos := pc) (Calls.spliced_cons (Calls.Constant_str (k := k2) (pos := pd) (Calls.spliced_nil ?_)))))
  have tA : 1 ≤ ({ s with toks := s.toks + 1 + 1 } : Shared).toks := by show 1 ≤ s.toks + 1 + 1; omega
  have I1 : Inv X pins σ H { s with toks := s.toks + 1 + 1 } := I.tok _
  refine wpAny_newObj_type ?_ (by show 2 ≤ sizeLine; decide)
  generalize hsA : ({ s with toks := s.toks + 1 + 1 } : Shared) = sA at I1 tA ⊢
  have h : 2 ≤ sizeLine ∧ ∀ a, H a = none → g (.ref a) σ (upd H a (.tup [.str c, .str d])) (u D) := h
  have hf : H sA.heap.objs.size = none := I1.hok.fresh (Nat.le_refl _)
  have I2 := I1.laid (t' := sA.toks) (h' := sA.heap.push { cls := .type "tuple", data := .seq [Value.str c s.toks, Value.str d (s.toks + 1)].toArray }) (a := sA.heap.objs.size) (o := .tup [.str c, .str d]) (fun b u e => Heap.get?_push_of_some _ e) (Nat.le_refl _)
    ⟨by show 2 ≤ sizeLine; decide, [Value.str c s.toks, Value.str d (s.toks + 1)], .cons ⟨_, rfl⟩ (.cons ⟨_, rfl⟩ .nil), ⟨_, Heap.get?_push_size _ rfl, rfl, _, rfl⟩⟩
  rw [he]
  refine wpAny_mono (wpAny_toks_of tA (hg.run pins _ σ _ (.ref sA.heap.objs.size) (.ref sA.heap.objs.size) _ I2 rfl (h.2 _ hf))) (fun _ s2 ⟨t2, σ2, H2, I3, q3⟩ => ?_) (fun _ _ z => z.2)
  exact hr pins s2 σ2 H2 D t2 I3 q3
/-- for, the body where a token is out -/
theorem pst_forT {tg iter : Expr} {wi : TI} {g : TG} {tb : TS} (hp : PassesOwn (model X.prog X.w) X.A X.env X.xe) (hc : X.calm = true) (hi : PI X tg iter wi) (hg : PG X tg g) (hb : PSsT X body tb)
    (hs : ∀ x, foldedSetIterable iter X.env x = pure x := by intro _; rfl) : PST X (.For tg iter body [] pos) (tFor wi g tb) := by
  intro pins s σ H D h0 I h
  refine wpAny_For (wpAny_mono (wpAny_toks_of h0 (hi.run pins s σ H _ I h)) (fun v s1 ⟨t1, h1⟩ => wpAny_mono (wpAny_toks_of t1 h1) (fun itv s2 ⟨t2, h2⟩ => ?_) fun _ _ z => z.2) fun _ _ z => z.2) hs
  obtain ⟨it, fp, tn, J, H2, e, I2, T, st2, f2, W, ⟨m0, w0⟩, turn⟩ := h2
  subst e
  have stat : ∀ {HA : Hp}, (∀ b ∈ fp, HA b = none) → ∀ b ∈ fp, FpOk X pins HA b := fun hn b hb => ⟨hn b hb, (f2 b hb).2⟩
  refine codeAny_forLoop_any (fun n sA => 1 ≤ sA.toks ∧ ∃ i σA HA, Inv X pins σA HA sA ∧ tn i sA.heap ∧ (∀ b ∈ fp, HA b = none) ∧ W i n σA HA) ?_ m0 ⟨t2, 0, σ, H2, I2, st2, fun b hb => (f2 b hb).1, w0⟩
  rintro n s3 ⟨t3, i, σ3, H3, I3, st3, fr3, w3⟩
  rcases turn i n σ3 H3 w3 with ⟨stop, qn⟩ | ⟨go, N, hN, step⟩
  · refine wpAny_passesOwn hp (thn (T.done X rfl rfl rfl hc i pins s3 σ3 H3 X.xe I3 (stat fr3) st3 stop) fun r s4 ⟨hr, I4⟩ => ?_)
    subst hr
    exact wpAny_execs_nil ⟨σ3, H3, I4, qn⟩
  · refine wpAny_passesOwn hp (wpAny_mono (wpAny_toks_of t3 (T.item X rfl rfl rfl hc i pins s3 σ3 H3 X.xe I3 (stat fr3) st3 go)) (fun r s4 ⟨t4, u4, hr, h4⟩ => ?_) fun _ _ z => z.2)
    subst hr
    refine wpAny_passesOwn hp (wpAny_mono (wpAny_toks_of t4 h4) (fun _ s5 ⟨t5, x5, H5, I5, r5, y5, st5, fr5⟩ => ?_) fun _ _ z => z.2)
    have IP := I5.pinned (stat fr5) (T.obj _ _ st5)
    refine wpAny_passesOwn hp (wpAny_mono (wpAny_toks_of t5 (hg.run _ s5 σ3 H5 x5 u4 _ IP r5 (step x5 H5 y5))) (fun _ s6 ⟨t6, σ6, H6, I6, q6⟩ => ?_) fun _ _ z => z.2)
    refine wpAny_passesOwn hp (wpAny_mono (wpAny_toks_of t6 (hb _ s6 σ6 H6 _ t6 I6 q6)) (fun fl s7 ⟨t7, q7⟩ => ?_) fun _ _ z => z.2)
    have again : ∀ {σ7 : L2.St} {H7 : Hp}, Inv X (pins ++ pinsAt fp s5.heap) σ7 H7 s7 → N σ7 H7 → ∃ m, m < n ∧ 1 ≤ s7.toks ∧ ∃ i σA HA, Inv X pins σA HA s7 ∧ tn i s7.heap ∧ (∀ b ∈ fp, HA b = none) ∧ W i m σA HA := fun {σ7 H7} I7 n7 => by
      obtain ⟨m7, lt7, w7⟩ := hN σ7 H7 n7
      refine ⟨m7, lt7, t7, i + 1, σ7, H7, I7.unpinned, T.keep _ _ _ st5 fun b hb o eb => (I7.pin (b, o) (List.mem_append_right _ (List.mem_append_right _ (mem_pinsAt hb eb)))).1, fun b hb => ?_, w7⟩
      obtain ⟨o, eb, _⟩ := T.obj _ _ st5 b hb
      exact (I7.pin (b, o) (List.mem_append_right _ (List.mem_append_right _ (mem_pinsAt hb eb)))).2.1
    cases fl with
    | ret v =>
      obtain ⟨x7, σ7, H7, I7, r7, q8⟩ := q7
      exact ⟨x7, σ7, H7, I7.unpinned, r7, q8⟩
    | next =>
      obtain ⟨σ7, H7, I7, n7⟩ := q7
      exact again I7 n7
    | cont =>
      obtain ⟨σ7, H7, I7, n7⟩ := q7
      exact again I7 n7
    | brk =>
      obtain ⟨σ7, H7, I7, q8⟩ := q7
      exact ⟨σ7, H7, I7.unpinned, q8⟩
end
section
variable {X : Cx}
/-- z not in D, D a dict of the top, z a text -/
theorem op_notInKD {D : Addr} {kvs : List (Key × V)} (k : RB.KD X.prog X.w X.K D kvs) : OpR X (compareOp .NotIn) (fun x y H Q => ∃ z : Str, x = .str z ∧ y = .ref D ∧ Q (.bl (!(valV kvs (Sum.inr z)).isSome)) H) := by
  intro pins s σ H x y v u Q I rx ry h
  obtain ⟨z, rfl, rfl, q⟩ := h
  cases ry
  obtain ⟨vs, rel, dd⟩ := k.at_
  refine wpAny_notIn_of (kV_is (k := Sum.inr z) rx) k.low (dd _ I.kIn).mapOf ?_
  rw [← (rel.val (Sum.inr z)).isSome_eq]
  exact ⟨.bl _, H, I.tok _, rfl, q⟩
theorem op_inKD {D : Addr} {kvs : List (Key × V)} (k : RB.KD X.prog X.w X.K D kvs) : OpR X (compareOp .In) (fun x y H Q => ∃ z : Str, x = .str z ∧ y = .ref D ∧ Q (.bl (valV kvs (Sum.inr z)).isSome) H) := by
  intro pins s σ H x y v u Q I rx ry h
  obtain ⟨z, rfl, rfl, q⟩ := h
  cases ry
  obtain ⟨vs, rel, dd⟩ := k.at_
  refine wpAny_in_of (kV_is (k := Sum.inr z) rx) k.low (dd _ I.kIn).mapOf ?_
  rw [← (rel.val (Sum.inr z)).isSome_eq]
  exact ⟨.bl _, H, I.tok _, rfl, q⟩
/-- list(text) -/
theorem call_listS (hc : X.calm = true) : CallR X (.type "list") (fun xs H Q => ∃ z : Str, xs = [.str z] ∧ z.length ≤ 1000000 ∧ ∀ p, H p = none → Q (.ref p) (upd H p (.lst (z.cps.toList.map fun c => .str ⟨#[c]⟩)))) := by
  intro pins s σ H xs us Q I r q
  obtain ⟨z, ez, hz, q⟩ := q
  subst ez
  obtain ⟨u, eu, rx⟩ := vals1 r
  subst eu
  obtain ⟨t, et⟩ := rx
  subst et
  have z1 : z.cps.size ≤ sizeLine := by rw [sizeLine_eq]; exact Nat.le_trans hz (by decide)
  refine call_list_str (I.ok.hd hc) z t (fun h' tk acc c keep new items => ?_) z1
  have rel : Vals (z.cps.toList.map fun c => V.str ⟨#[c]⟩) acc.toList := by
    obtain ⟨hsz, hat⟩ := items
    refine vals_of_at (by rw [List.length_map, Array.length_toList, Array.length_toList]; exact hsz.symm) fun i v u hv hu => ?_
    rw [List.getElem?_map] at hv
    obtain ⟨c', hc', rfl⟩ := Option.map_eq_some_iff.mp hv
    obtain ⟨c2, u2, hc2, rfl⟩ := hat i u (by rw [← Array.getElem?_toList]; exact hu)
    rw [← Array.getElem?_toList, hc'] at hc2
    cases hc2
    exact ⟨u2, rfl⟩
  refine ⟨.ref s.heap.objs.size, _, I.laid (t' := tk) (o := .lst (z.cps.toList.map fun c => .str ⟨#[c]⟩)) keep (Nat.le_refl _) ?_, rfl, q _ (I.hok.fresh (Nat.le_refl _))⟩
  exact ⟨by rw [List.length_map, Array.length_toList]; exact z1, acc.toList, c, rel, by rw [Array.toArray_toList]; exact new⟩
/-- l[i], by values -/
theorem get_list : PGet X (rIxL X.K) := by
  intro pins s σ H o i ov iv Q I ro ri h
  obtain ⟨p, xs, n, z, rfl, rfl, hq, he, q⟩ := h
  cases ro
  obtain ⟨t, rfl⟩ := ri
  obtain ⟨its, r, pl, hz⟩ := I.list hq
  obtain ⟨j, h1, h2, h3, h4, h5⟩ := atI_get he
  obtain ⟨w, ew, rw'⟩ := r.get h2
  have hl := r.length
  have hn := line63
  by_cases h0 : 0 ≤ n
  · have hj : n.toNat = j := by
      rw [seqIndex_of h0 h5] at h1
      exact Option.some.inj h1
    exact wpAny_getItem_list pl.isList h0 (by omega) (by rw [hj]; simpa using ew) ⟨z, H, I, rw', q⟩
  · have hj : (n + (its.toArray.size : Int)).toNat = j := by
      rw [seqIndex_neg (by omega) h4] at h1
      rw [List.size_toArray, ← hl]
      exact Option.some.inj h1
    exact wpAny_getItem_list_neg pl.isList (by omega) (by rw [List.size_toArray] <;> omega) (by omega) (by rw [hj]; simpa using ew) ⟨z, H, I, rw', q⟩
end
section
variable {P : Program} {w : World} {K : PySem.W.Frag} {mg : Str → Option Value} {base : Heap} {x qual : Str} {f : Addr} {k : Nat} {N ps : List Str} {sp : Sp}
/-- a def with parameters and no cells: a token is out when its body begins -/
theorem call0T {st : Stmt} (F : Stands K x qual st [] f) (S : FnScope N ps (defScope st)) (hnc : ∀ y ∈ (defScope st).names, y.2 ≠ .cell) (hps : 1 ≤ ps.length) (len : ∀ vs H Q E, sp vs H Q E → vs.length = ps.length)
    (hbody : ∀ (cdv : Value) (A : Around) (outer : List Env) (s : Shared) (H : Hp) (vs : List V) (Q : VK) (E : XK), Room k (A.deeper (envOfC qual (defScope st) s.heap.objs.size f cdv)) → sp vs H Q E →
      ∃ t, PSsT (cxOf CX0 P w K mg base N qual (defScope st) f cdv A outer s H E) (defBody st) t ∧ t { nx := fun _ H' => Q .non H', rt := Q } (L2.start N vs) H)
    (h0 : ∀ (kV doc pm : Value) (an : Option Addr) (cdv ct : Value) (us : List Value), us.length = ps.length → bindArgs (PySem.W.fnOf x qual (defArgs st) (defBody st) (defScope st) .none kV doc pm an cdv ct) ⟨us, []⟩ = pure (ps.zip us)) :
    Callable P w K mg base (k + 1) f ps [] sp := by
  obtain ⟨fd, F⟩ := F
  have ok : FnOk P w K mg base CX0 (k + 1) f fd ps sp := by
    obtain ⟨oc, od, dV, kV, doc, pm, an, cdv, ct, osl, rfl, lk, hcd, _, _⟩ := F.ex
    exact fn_ofT lk hcd S hnc hps len fun A outer s H vs Q E hr hsp => hbody cdv A outer s H vs Q E hr hsp
  exact ⟨fd, [], ok, .nil, F.bindsN h0, F.kp⟩
end
end RT

set_option Elab.async false
set_option linter.all false
set_option maxRecDepth 100000
set_option maxHeartbeats 0

namespace K17
open PySem PySem.Spec PyProof.Rows L2 RC
section
variable {P : Program} {w : World} {K : PySem.W.Frag} {mg : Str → Option Value} {base : Heap}
/-! ### joined texts -/
def stepP (acc : List (Str ⊕ Str)) : PtT → List (Str ⊕ Str)
  | .inl c => match acc.getLast? with
    | some (.inl z) => acc.dropLast ++ [.inl (z ++ ⟨#[c]⟩)]
    | _ => acc ++ [.inl ⟨#[c]⟩]
  | .inr b => acc ++ [.inr (tx b)]
def joinP (ps : List PtT) : List (Str ⊕ Str) := ps.foldl stepP []
theorem snocCases {α : Type} : ∀ l : List α, l = [] ∨ ∃ L b, l = L ++ [b]
  | [] => .inl rfl
  | a :: r => match snocCases r with
    | .inl h => .inr ⟨[], a, by rw [h]; rfl⟩
    | .inr ⟨L, b, h⟩ => .inr ⟨a :: L, b, by rw [h]; rfl⟩
theorem PtsA.snoc {H : Hp} {ps : List (Str ⊕ Str)} {vs : List V} {p : Str ⊕ Str} {v : V} (h : PtsA K H ps vs) (a : PtA K H p v) : PtsA K H (ps ++ [p]) (vs ++ [v]) := by
  obtain ⟨h1, h2⟩ := h
  refine ⟨by rw [List.length_append, List.length_append, h1]; rfl, fun i x y hx hy => ?_⟩
  by_cases c : i < ps.length
  · rw [List.getElem?_append_left c] at hx
    rw [List.getElem?_append_left (by omega)] at hy
    exact h2 i x y hx hy
  · rw [List.getElem?_append_right (by omega)] at hx
    rw [List.getElem?_append_right (by omega), ← h1] at hy
    cases e : i - ps.length with
    | zero => rw [e] at hx hy; cases hx; cases hy; exact a
    | succ n => rw [e] at hx; cases hx
theorem PtsA.last {H : Hp} {L : List (Str ⊕ Str)} {ws : List V} {x : Str ⊕ Str} (h : PtsA K H (L ++ [x]) ws) : ∃ W v, ws = W ++ [v] ∧ PtsA K H L W ∧ PtA K H x v := by
  obtain ⟨h1, h2⟩ := h
  rcases snocCases ws with rfl | ⟨W, v, rfl⟩
  · rw [List.length_append] at h1; cases h1
  · rw [List.length_append, List.length_append] at h1
    have hl : L.length = W.length := Nat.succ.inj h1
    refine ⟨W, v, rfl, ⟨hl, fun i p u hp hu => ?_⟩, h2 L.length x v (by rw [List.getElem?_append_right (Nat.le_refl _), Nat.sub_self]; rfl) (by rw [List.getElem?_append_right (by omega), hl, Nat.sub_self]; rfl)⟩
    have l1 := (List.getElem?_eq_some_iff.mp hp).1
    exact h2 i p u (by rw [List.getElem?_append_left l1]; exact hp) (by rw [List.getElem?_append_left (by omega)]; exact hu)
theorem PtA.to {H H' : Hp} (h : ∀ (q dx : Addr) (fs : List (Str × V)), fs.length = 5 → H q = some (.ins (CFd K) dx fs) → H' q = some (.ins (CFd K) dx fs)) : ∀ {p : Str ⊕ Str} {v : V}, PtA K H p v → PtA K H' p v
  | _, _, .txt z => .txt z
  | _, _, .fld e => .fld (h _ _ _ rfl e)
theorem PtsA.to {H H' : Hp} (h : ∀ (q dx : Addr) (fs : List (Str × V)), fs.length = 5 → H q = some (.ins (CFd K) dx fs) → H' q = some (.ins (CFd K) dx fs)) {ps : List (Str ⊕ Str)} {vs : List V} (a : PtsA K H ps vs) : PtsA K H' ps vs := ⟨a.1, fun i p v hp hv => (a.2 i p v hp hv).to h⟩
theorem joinP_snoc (ps : List PtT) (x : PtT) : joinP (ps ++ [x]) = stepP (joinP ps) x := by unfold joinP; rw [List.foldl_append]; rfl
def Short (acc : List (Str ⊕ Str)) (n : Nat) : Prop := acc.length ≤ n ∧ ∀ z : Str, Sum.inl z ∈ acc → z.length ≤ n
def spJoined (K : PySem.W.Frag) : Sp := fun vs H Q _ => ∃ (p : Addr) (xs : List V) (ps : List PtT) (G : Hp), vs = [.ref p] ∧ H p = some (.lst xs) ∧ PtsV K G ps xs ∧ xs.length ≤ 1000 ∧ Same G H ∧
  ∀ (t : Addr) (ws : List V) (H' : Hp), Same H H' → H t = none → H' t = some (.tup ws) → PtsA K G (joinP ps) ws → Q (.ref t) H'
structure JInv (K : PySem.W.Frag) (H G : Hp) (p q : Addr) (ps : List PtT) (i : Nat) (σ : L2.St) (H' : Hp) : Prop where
  same : Same H H'
  ex : ∃ (ws : List V) (a : Option V), H' q = some (.lst ws) ∧ PtsA K G (joinP (ps.take i)) ws ∧ Short (joinP (ps.take i)) i ∧ σ = [some (.ref p), some (.ref q), a]
theorem ok_joined {f : Addr} (T : Txt P w K mg) (F : Stands K "joined_texts" "joined_texts" s_joined_texts [] f) : Callable P w K mg base 1 f ["parts"] [] (spJoined K) := by
  refine F.call0 sc_joined_texts (fun vs H Q E h => ?_) (fun cdv A outer s H vs Q E hr h => ?_) (fun _ _ _ _ _ _ us hl => match us, hl with | [_], _ => rfl)
  · obtain ⟨p, xs, ps, G, rfl, _⟩ := h; rfl
  obtain ⟨p, xs, ps, G, rfl, hp, hps, hxl, hG, hQ⟩ := h
  refine ⟨_, (pss_cons (ps_set (i := 1) sc_joined_texts.nd rfl (by first | exact Or.inl rfl | exact Or.inr rfl) (pe_lst pa_nil))
      (pss_cons (ps_for PassesOwn.never rfl (pi_list (pv 0)) (pg_name (i := 2) sc_joined_texts.nd rfl (by first | exact Or.inl rfl | exact Or.inr rfl)) (pss_one (ps_if (PW.pt (pw_and (pt_val (pe_callB call_isi (by rfl) T.b_isinstance (by decide +kernel) (pa_cons (pv 2) (pa_cons (pe_bltn (v := .ty "str") (u := .type "str") (by rfl) T.b_str (by decide +kernel) rfl) pa_nil)))) (pw_and (pt_cmpR (RY.op_neE (Nat.lt_of_succ_lt (hu_of hr))) (pv 1) (pe_lst pa_nil) (nomark _)) (pw_and1 (pt_val (pe_callB call_isi (by rfl) T.b_isinstance (by decide +kernel) (pa_cons (pe_ix ix_list (pv 1) (pe_un un_neg pe_int) (fun _ _ => rfl)) (pa_cons (pe_bltn (v := .ty "str") (u := .type "str") (by rfl) T.b_str (by decide +kernel) rfl) pa_nil)))))))) (pss_one (ps_augS (pv 1) (pe_un un_neg pe_int) RT.get_list (pv 2) iop_add_str set_list)) (pss_one (ps_expr (pe_bm PySem.F.plainAttrs_list PySem.F.slot_list_append PySem.F.type_list_append mt_append (pv 1) (pa_cons (pv 2) pa_nil)))))))
      (pss_one (ps_ret (pe_callTy call_tuple_of (by rfl) T.b_tuple (by decide +kernel) (pa_cons (pv 1) pa_nil)))))), ?_⟩
  walk_at "in"
  walk_at "go"
  intro q fq
  walk_at "go"
  refine for_it (walk_list (xs := xs)) (JInv K H G p q ps) ⟨same_new fq _, [], _, upd_same, ⟨rfl, fun _ _ _ h => nomatch h⟩, ⟨Nat.le_refl _, fun _ h => nomatch h⟩, rfl⟩ (fun i σ H' _ h => SqL.of (h.same _ _ hp)) (fun i v σ H0 H2 hi hP hx => ?_) (fun σ H2 hP => ?_)
  · obtain ⟨rfl, hx⟩ := hx
    obtain ⟨s2, ws, a, hq, hA, hS, rfl⟩ := hP
    obtain ⟨x, gx, hpx⟩ := hps.get hx
    have hil : i < xs.length := (List.getElem?_eq_some_iff.mp hx).1
    have hwl := hA.1
    have hS1 := hS.1
    have hwz : ws.length < sizeLine := by rw [sizeLine_eq]; omega
    have ej : joinP (ps.take (i + 1)) = stepP (joinP (ps.take i)) x := by rw [take_more gx, joinP_snoc]
    have ky := T.kiy_Field_str
    have next : ∀ (H4 : Hp) (acc' : List (Str ⊕ Str)) (ws' : List V) (a2 : Option V), Same H2 H4 → stepP (joinP (ps.take i)) x = acc' → PtsA K G acc' ws' → Short acc' (i + 1) → JInv K H G p q ps (i + 1) [some (.ref p), some (.ref q), a2] (upd H4 q (.lst ws')) := fun H4 acc' ws' a2 s4 e h2 h3 =>
      ⟨fun b u hb => (by rw [upd_ne (ne_of_none hb fq)]; exact s4 _ _ (s2 _ _ hb)), ws', a2, upd_same, by rw [ej, e]; exact h2, by rw [ej, e]; exact h3, rfl⟩
    generalize joinP (ps.take i) = acc at hA hS hwl hS1 next
    have hS2 := hS.2
    have bnd : ∀ {y : Str ⊕ Str}, (∀ z, y = .inl z → z.length ≤ i + 1) → Short (acc ++ [y]) (i + 1) := fun {y} hy => ⟨by rw [List.length_append]; show acc.length + 1 ≤ _; omega, fun z hz => by
      rcases List.mem_append.mp hz with h | h
      · exact Nat.le_succ_of_le (hS.2 z h)
      · exact hy z (List.mem_singleton.mp h).symm⟩
    cases x with
    | inl c =>
      obtain rfl : v = .str ⟨#[c]⟩ := hpx
      have hc1 : (⟨#[c]⟩ : Str).length = 1 := rfl
      rcases snocCases acc with rfl | ⟨L, y, rfl⟩
      · have e0 : ws = [] := List.length_eq_zero_iff.mp hwl.symm
        subst e0
        have t2 : (!([] : List V).isEmpty) = false := rfl
        walk_at "go"
        intro r fr
        have s4 := same_new fr (.lst [])
        have hq4 := s4 _ _ hq
        have hr4 : (upd H2 r (.lst [])) r = some (.lst []) := upd_same
        generalize upd H2 r (.lst []) = H4 at s4 hq4 hr4
        walk_at "go"
        exact next H4 _ _ _ s4 rfl (hA.snoc (.txt _)) (bnd fun z e => by cases e; rw [hc1]; omega)
      · obtain ⟨W, u, rfl, hW, hu⟩ := hA.last
        cases hu with
        | txt y =>
          have hy3 : y.length ≤ i := hS2 y (by simp)
          have t2 : (!(W ++ [V.str y]).isEmpty) = true := by simp
          have hat : atI (W ++ [V.str y]) (-1) = some (V.str y) := atI_last _ _
          have hix : ixN (W ++ [V.str y]).length (-1) = some W.length := by
            rw [List.length_append]; unfold ixN; simp; omega
          have hy2 : y.length + (⟨#[c]⟩ : Str).length ≤ sizeLine := by rw [sizeLine_eq, hc1]; omega
          walk_at "go"
          intro r fr
          have s4 := same_new fr (.lst [])
          have hq4 := s4 _ _ hq
          have hr4 : (upd H2 r (.lst [])) r = some (.lst []) := upd_same
          generalize upd H2 r (.lst []) = H4 at s4 hq4 hr4
          walk_at "go"
          have es : (W ++ [V.str y]).set W.length (V.str (y ++ ⟨#[c]⟩)) = W ++ [V.str (y ++ ⟨#[c]⟩)] := by simp [List.set_append]
          rw [es]
          refine next H4 (L ++ [.inl (y ++ ⟨#[c]⟩)]) _ _ s4 (by unfold stepP; simp) (hW.snoc (.txt _)) ⟨by rw [List.length_append] at hS1 ⊢; exact Nat.le_succ_of_le hS1, fun z hz => ?_⟩
          rcases List.mem_append.mp hz with h | h
          · exact Nat.le_succ_of_le (hS2 z (List.mem_append_left _ h))
          · cases List.mem_singleton.mp h
            rw [len_add, hc1]; omega
        | @fld q2 dx2 n2 hq2 =>
          have t2 : (!(W ++ [V.ref q2]).isEmpty) = true := by simp
          have hat : atI (W ++ [V.ref q2]) (-1) = some (V.ref q2) := atI_last _ _
          walk_at "go"
          intro r fr
          have s4 := same_new fr (.lst [])
          have hq4 := s4 _ _ hq
          have hr4 : (upd H2 r (.lst [])) r = some (.lst []) := upd_same
          have hq24 := s4 _ _ (s2 _ _ (hG _ _ hq2))
          generalize upd H2 r (.lst []) = H4 at s4 hq4 hr4 hq24
          have ty4 := RB.TyC.tyx T.ty_Field T.c_Field hq24
          walk_at "go"
          exact next H4 _ _ _ s4 (by unfold stepP; simp) (hA.snoc (.txt _)) (bnd fun z e => by cases e; rw [hc1]; omega)
    | inr n =>
      obtain ⟨q3, dx3, fs3, rfl, g3, l3, e3⟩ := hpx
      have g4 := s2 _ _ (hG _ _ g3)
      have ty4 := RB.TyC.tyx T.ty_Field T.c_Field g4
      walk_at "go"
      exact next H2 _ _ _ (Same.refl _) rfl (hA.snoc (.fld (by rw [← e3]; exact g3))) (bnd fun z e => nomatch e)
  · obtain ⟨s2, ws, a, hq, hA, hS, rfl⟩ := hP
    walk_at "go"
    refine .inl ⟨SqL.of hq, fun l fl => ?_⟩
    rw [List.take_of_length_le (by rw [hps.len]; exact Nat.le_refl _)] at hA
    exact hQ l ws _ (s2.trans (same_new fl _)) (s2.free fl) upd_same hA
end
end K17

set_option Elab.async false
set_option linter.all false
set_option maxRecDepth 100000
set_option maxHeartbeats 0

namespace K17
open PySem PySem.Spec PyProof.Rows L2 RC
section
variable {P : Program} {w : World} {K : PySem.W.Frag} {mg : Str → Option Value} {base : Heap}
/-! ### Field(name) -/
theorem ok_field_init1 {f : Addr} (T : Txt P w K mg) (F : Stands K "__init__" "Field.__init__" s_Field_init [.str "", .str " ", .str "", .int 0] f) : Callable P w K mg base 1 f ["self", "name", "conversion", "fill", "align", "width"] [.str "", .str " ", .str "", .int 0] (spFieldInit K) := by
  refine F.call sc_Field_init 2 0 (fun vs H Q E h => ?_) (fun cdv A outer s H vs Q E hr h => field_body T h) (fun z => nomatch z) fun _ => ⟨rfl, fun _ _ _ _ _ _ _ us its hl hi => match us, hl, its, hi with | [_, _], _, [_, _, _, _], _ => ⟨_, rfl, rfl⟩⟩
  obtain ⟨p, dx, n, c, f, a, w, rfl, _⟩ := h; rfl
/-! ### the field behind a dollar -/
def ahead (l : List Nat) : Nat := if l.head? = some 123 then 1 else 0
theorem fieldD_a (l : List Nat) : RP.fieldD l = if RP.nmLen (l.drop (ahead l)) = 0 then none else if ((l.drop (ahead l)).drop (RP.nmLen (l.drop (ahead l)))).take (ahead l) = List.replicate (ahead l) 125 then some ((l.drop (ahead l)).take (RP.nmLen (l.drop (ahead l))), RP.nmLen (l.drop (ahead l)) + 2 * ahead l) else none := by
  by_cases h : l.head? = some 123
  · cases l with
    | nil => cases h
    | cons c r =>
      obtain rfl : c = 123 := Option.some.inj h
      have e : ahead (123 :: r) = 1 := rfl
      rw [e]
      show (if RP.nmLen r = 0 then none else if (r.drop (RP.nmLen r)).head? = some 125 then some (r.take (RP.nmLen r), RP.nmLen r + 2) else none) = (if RP.nmLen r = 0 then none else if (r.drop (RP.nmLen r)).take 1 = [125] then some (r.take (RP.nmLen r), RP.nmLen r + 2) else none)
      have q : ((r.drop (RP.nmLen r)).take 1 = [125]) = ((r.drop (RP.nmLen r)).head? = some 125) := by
        cases r.drop (RP.nmLen r) with
        | nil => simp
        | cons a b => simp
      simp only [q]
  · have e : ahead l = 0 := if_neg h
    rw [RP.field_bare h, e]
    simp
theorem mul_brace {a : Nat} (h : a ≤ 1) : Txt.mul (Str.ofString "}") (a : Int) = tx (List.replicate a 125) := by
  match a, h with
  | 0, _ => rfl
  | 1, _ => decide +kernel
theorem mul_ok {a : Nat} (h : a ≤ 1) : PySem.MulOk (Str.ofString "}") (a : Int) := by
  match a, h with
  | 0, _ => exact ⟨by decide, fun z => absurd (by decide) z, fun z => absurd (by decide) z⟩
  | 1, _ => exact ⟨by decide, fun _ z => absurd z (by decide), fun _ z => absurd z (by decide)⟩
def spFieldBehind (K : PySem.W.Frag) : Sp := fun vs H Q _ => ∃ (z : Str) (i : Nat), vs = [.str z, .int (i : Nat)] ∧ z.length ≤ 1000000 ∧ i ≤ z.length ∧
  (∀ (t : Addr) (H' : Hp), RP.fieldD (z.cps.toList.drop i) = none → Same H H' → H' t = some (.tup [.non, .int 0]) → Q (.ref t) H') ∧
  (∀ (n : List Nat) (k : Nat) (t q dx : Addr) (H' : Hp), RP.fieldD (z.cps.toList.drop i) = some (n, k) → Same H H' → H' t = some (.tup [.ref q, .int ((i + k : Nat) : Int)]) → H q = none → H' q = some (.ins (CFd K) dx (fdP (tx n))) → Q (.ref t) H')
theorem ok_field_behind {f : Addr} (T : Txt P w K mg) (F : Stands K "field_behind" "field_behind" s_field_behind [] f) (c_name_end : Callable P w K mg base 1 (He.ga K "name_end") ["text", "start"] [] spNameEnd) (c_Field_init_d4 : Callable P w K mg base 1 (He.ma K (He.ga K "Field") "__init__") ["self", "name", "conversion", "fill", "align", "width"] [.str "", .str " ", .str "", .int 0] (spFieldInit K)) : Callable P w K mg base 3 f ["fmt", "start"] [] (spFieldBehind K) := by
  refine F.call0 sc_field_behind (fun vs H Q E h => ?_) (fun cdv A outer s H vs Q E hr h => ?_) (fun _ _ _ _ _ _ us hl => match us, hl with | [_, _], _ => rfl)
  · obtain ⟨z, i, rfl, _⟩ := h; rfl
  obtain ⟨z, i, rfl, hz, hi, hN, hS⟩ := h
  refine ⟨_, (pss_cons (ps_set (i := 2) sc_field_behind.nd rfl (by first | exact Or.inl rfl | exact Or.inr rfl) (pe_callTy call_int1 (by rfl) T.b_int (by decide +kernel) (pa_cons (pe_cmpR op_eq (pe_slice sl_str (pv 0) (po_some (pv 1)) (po_some (pe_op op_add (pv 1) pe_int))) pe_str (nomark _)) pa_nil)))
      (pss_cons (ps_set (i := 3) sc_field_behind.nd rfl (by first | exact Or.inl rfl | exact Or.inr rfl) (pe_fn T.g_name_end c_name_end (hr.mono (by first | decide | exact Nat.le_refl _)) (by rfl) (pa_cons (pv 0) (pa_cons (pe_op op_add (pv 1) (pv 2)) pa_nil))))
      (pss_cons (ps_par (by rfl) sc_field_behind.nd (i := 4) (j := 5) rfl rfl (by decide) rfl rfl (pa_cons (pe_slice sl_str (pv 0) (po_some (pe_op op_add (pv 1) (pv 2))) (po_some (pv 3))) (pa_cons (pe_op op_add (pv 3) (pv 2)) pa_nil)) (by rfl))
      (pss_cons (ps_if (PW.pt (pw_or (pt_cmpR op_eq (pv 4) pe_str (nomark _)) (pw_or1 (pt_cmpR op_ne (pe_slice sl_str (pv 0) (po_some (pv 3)) (po_some (pv 5))) (pe_op RD.op_mulS pe_str (pv 2)) (nomark _))))) (pss_one (ps_ret (pe_tup (pa_cons pe_non (pa_cons pe_int pa_nil))))) pss_nil)
      (pss_one (ps_ret (pe_tup (pa_cons (pe_mk T.k_Field T.g_Field c_Field_init_d4 (hr.mono (by first | decide | exact Nat.le_refl _)) (by rfl) (pa_cons (pv 4) pa_nil)) (pa_cons (pv 5) pa_nil))))))))), ?_⟩
  walk_at "in"
  walk_at "go"
  have hl : z.cps.toList.length = z.length := Array.length_toList ..
  have hz2 : z.length ≤ sizeLine := by rw [sizeLine_eq]; omega
  have c1 := cut_one hi
  have b1 : Str.ofString "{" = tx [123] := by decide +kernel
  have eb : Str.ofString "" = tx [] := by decide +kernel
  generalize hd : z.cps.toList.drop i = l at hN hS c1
  rw [fieldD_a l] at hN hS
  generalize ha : ahead l = a at hN hS
  have a1 : a ≤ 1 := by rw [← ha]; unfold ahead; split <;> decide
  have hdl : l.length = z.length - i := by rw [← hd, List.length_drop, hl]
  have ea : (if decide (V.str (cutS z (some (i : Int)) (some ((i : Int) + 1))) = V.str (Str.ofString "{")) = true then (1 : Int) else 0) = (a : Int) := by
    rw [c1, b1, ← ha]
    cases l with
    | nil => rfl
    | cons c r =>
      by_cases h : c = 123
      · subst h; rfl
      · rw [show ahead (c :: r) = 0 from if_neg fun z => h (Option.some.inj z), if_neg]
        · rfl
        · intro z
          have := tx_inj (V.str.inj (of_decide_eq_true z))
          exact h (List.cons.inj this).1
  have ia : i + a ≤ z.length := by
    rw [← ha]; unfold ahead
    cases l with
    | nil => show i + 0 ≤ _; exact hi
    | cons c r => rw [List.length_cons] at hdl; split <;> omega
  have hda : z.cps.toList.drop (i + a) = l.drop a := by rw [← hd, List.drop_drop]
  generalize hn : RP.nmLen (l.drop a) = n at hN hS
  have nl := RP.nm_le (l.drop a)
  rw [hn, List.length_drop] at nl
  have en : i + a + n ≤ z.length := by omega
  have hd2 : (l.drop a).drop n = z.cps.toList.drop (i + a + n) := by rw [← hda, List.drop_drop]
  have c2 : cutS z (some ((i : Int) + a)) (some ((i + a + n : Nat) : Int)) = tx ((l.drop a).take n) := by
    have := cut_nat ia en
    rw [hda, show i + a + n - (i + a) = n by omega] at this
    exact this
  have c3 : cutS z (some ((i + a + n : Nat) : Int)) (some (((i + a + n : Nat) : Int) + a)) = tx (((l.drop a).drop n).take a) := by
    rw [hd2]
    match a, a1 with
    | 0, _ => have := cut_nat en en; rw [Nat.sub_self] at this; exact this
    | 1, _ => exact cut_one en
  have mo := mul_ok a1
  have me := mul_brace a1
  replace hn : RP.nmLen (z.cps.toList.drop (i + a)) = n := by rw [hda]; exact hn
  clear nl
  subst hn
  walk_at "go"
  refine .inr ⟨_, rfl, ?_⟩
  rw [ea]
  by_cases n0 : RP.nmLen (z.cps.toList.drop (i + a)) = 0
  · rw [if_pos n0] at hN
    have t3 : decide (V.str (cutS z (some ((i : Int) + a)) (some ((i + a + RP.nmLen (z.cps.toList.drop (i + a)) : Nat) : Int))) = V.str (Str.ofString "")) = true := by
      rw [c2, eb, n0]; exact decide_eq_true rfl
    walk_at "go"
    intro p fp
    exact hN _ _ rfl (same_new fp _) upd_same
    
  · rw [if_neg n0] at hN hS
    have t3 : decide (V.str (cutS z (some ((i : Int) + a)) (some ((i + a + RP.nmLen (z.cps.toList.drop (i + a)) : Nat) : Int))) = V.str (Str.ofString "")) = false := by
      rw [c2, eb]
      refine decide_eq_false fun h => ?_
      have h2 := congrArg List.length (tx_inj (V.str.inj h))
      have nl := RP.nm_le (z.cps.toList.drop (i + a))
      rw [hda] at nl n0 h2
      rw [List.length_take, List.length_nil] at h2
      omega
    by_cases e5 : ((l.drop a).drop (RP.nmLen (z.cps.toList.drop (i + a)))).take a = List.replicate a 125
    · rw [if_pos e5] at hS
      have t4 : (!decide (V.str (cutS z (some ((i + a + RP.nmLen (z.cps.toList.drop (i + a)) : Nat) : Int)) (some (((i + a + RP.nmLen (z.cps.toList.drop (i + a)) : Nat) : Int) + a))) = V.str (Txt.mul (Str.ofString "}") (a : Int)))) = false := by
        rw [c3, me, e5, decide_eq_true rfl]; rfl
      walk_at "go"
      intro q dx f1 f2 f3
      walk_at "go"
      rw [upd_upd, c2, hda] 
      intro p fp
      obtain ⟨fp1, fp2⟩ := upd_none fp
      obtain ⟨fp3, fp4⟩ := upd_none fp2
      have e7 : (((i + a + RP.nmLen (l.drop a) : Nat) : Int) + (a : Int)) = ((i + (RP.nmLen (l.drop a) + 2 * a) : Nat) : Int) := by omega
      rw [hda] at hS
      refine hS _ _ p q dx _ rfl (((same_new f2 _).trans (same_new (by rw [upd_ne (Ne.symm f3)]; exact f1) _)).trans (same_new fp _)) ?_ f1 ?_
      · rw [upd_same]
        show some (HO.tup [V.ref q, V.int (((i + a + RP.nmLen (l.drop a) : Nat) : Int) + (a : Int))]) = _
        rw [e7]
      · rw [upd_ne (Ne.symm fp1), upd_same]
    · rw [if_neg e5] at hN
      have t4 : (!decide (V.str (cutS z (some ((i + a + RP.nmLen (z.cps.toList.drop (i + a)) : Nat) : Int)) (some (((i + a + RP.nmLen (z.cps.toList.drop (i + a)) : Nat) : Int) + a))) = V.str (Txt.mul (Str.ofString "}") (a : Int)))) = true := by
        rw [c3, me, decide_eq_false fun h => e5 (tx_inj (V.str.inj h))]; rfl
      walk_at "go"
      intro p fp
      exact hN _ _ rfl (same_new fp _) upd_same
      
end
end K17

set_option Elab.async false
set_option linter.all false
set_option maxRecDepth 100000
set_option maxHeartbeats 0

namespace K17
open PySem PySem.Spec PyProof.Rows L2 RC
section
variable {P : Program} {w : World} {K : PySem.W.Frag} {mg : Str → Option Value} {base : Heap}
/-! ### the parts of a format with dollars -/
theorem fieldD_le {l n : List Nat} {k : Nat} (h : RP.fieldD l = some (n, k)) : k ≤ l.length := by
  rw [fieldD_a] at h
  split at h
  · cases h
  · split at h
    · rename_i h1 h2
      cases h
      have a1 : ahead l ≤ 1 := by unfold ahead; split <;> decide
      have e := congrArg List.length h2
      rw [List.length_take, List.length_replicate, List.length_drop, List.length_drop] at e
      have nl := RP.nm_le (l.drop (ahead l))
      rw [List.length_drop] at nl
      have al : ahead l ≤ l.length := by
        cases l with
        | nil => exact Nat.le_refl _
        | cons c r => rw [List.length_cons]; omega
      omega
    · cases h
def spPartsD (K : PySem.W.Frag) : Sp := fun vs H Q _ => ∃ (z : Str) (o : Option (List PtT)), vs = [.str z] ∧ z.length ≤ 1000 ∧ RP.PD z.cps.toList o ∧
  (∀ H' : Hp, o = none → Same H H' → Q .non H') ∧
  (∀ (ps : List PtT) (vs : List V) (p : Addr) (H' : Hp), o = some ps → Same H H' → H p = none → H' p = some (.lst vs) → vs.length ≤ 1000 → PtsV K (nw H H') ps vs → Q (.ref p) H')
theorem ok_partsD {f : Addr} (T : Txt P w K mg) (F : Stands K "parts_of_dollars" "parts_of_dollars" s_parts_of_dollars [] f) (c_field_behind : Callable P w K mg base 3 (He.ga K "field_behind") ["fmt", "start"] [] (spFieldBehind K)) : Callable P w K mg base 4 f ["fmt"] [] (spPartsD K) := by
  refine F.call0 sc_parts_of_dollars (fun vs H Q E h => ?_) (fun cdv A outer s H vs Q E hr h => ?_) (fun _ _ _ _ _ _ us hl => match us, hl with | [_], _ => rfl)
  · obtain ⟨z, o, rfl, _⟩ := h; rfl
  obtain ⟨z, o, rfl, hz, hP, hN, hS⟩ := h
  refine ⟨_, (pss_cons (ps_par (by rfl) sc_parts_of_dollars.nd (i := 1) (j := 2) rfl rfl (by decide) rfl rfl (pa_cons (pe_lst pa_nil) (pa_cons pe_int pa_nil)) (by rfl))
      (pss_cons (ps_while PassesOwn.never (pt_cmpR op_lt (pv 2) (pe_callB call_len_str (by rfl) T.b_len (by decide +kernel) (pa_cons (pv 0) pa_nil)) (nomark _)) (pss_cons (ps_par (by rfl) sc_parts_of_dollars.nd (i := 3) (j := 4) rfl rfl (by decide) rfl rfl (pa_cons (pe_op op_add (pv 2) pe_int) (pa_cons (pe_ix ix_str (pv 0) (pv 2) (fun _ _ => rfl)) pa_nil)) (by rfl))
      (pss_cons (ps_if (pt_cmpR op_eq (pe_slice sl_str (pv 0) (po_some (pv 2)) (po_some (pe_op op_add (pv 2) pe_int))) pe_str (nomark _)) (pss_one (ps_set (i := 3) sc_parts_of_dollars.nd rfl (by first | exact Or.inl rfl | exact Or.inr rfl) (pe_op op_add (pv 2) pe_int))) (pss_one (ps_if (pt_cmpR op_eq (pv 4) pe_str (nomark _)) (pss_one (ps_asg (pe_fn T.g_field_behind c_field_behind (hr.mono (by first | decide | exact Nat.le_refl _)) (by rfl) (pa_cons (pv 0) (pa_cons (pe_op op_add (pv 2) pe_int) pa_nil))) (RG.pg_tupK (K := K) (n := 2) (by rfl) (pgs_cons (pg_name (i := 4) sc_parts_of_dollars.nd rfl (by first | exact Or.inl rfl | exact Or.inr rfl)) (pgs_cons (pg_name (i := 3) sc_parts_of_dollars.nd rfl (by first | exact Or.inl rfl | exact Or.inr rfl)) pgs_nil))))) pss_nil)))
      (pss_cons (ps_if (pt_cmpR op_isN (pv 4) pe_non (nomark _)) (pss_one (ps_ret pe_non)) pss_nil)
      (pss_cons (ps_expr (pe_bm PySem.F.plainAttrs_list PySem.F.slot_list_append PySem.F.type_list_append mt_append (pv 1) (pa_cons (pv 4) pa_nil)))
      (pss_one (ps_set (i := 2) sc_parts_of_dollars.nd rfl (by first | exact Or.inl rfl | exact Or.inr rfl) (pv 3))))))))
      (pss_one (ps_ret (pv 1))))), ?_⟩
  walk_at "in"
  have hl : z.cps.toList.length = z.length := Array.length_toList ..
  have hz2 : z.length ≤ sizeLine := by rw [sizeLine_eq]; omega
  have eDD : Str.ofString "$$" = tx [36, 36] := by decide +kernel
  have eD : Str.ofString "$" = tx [36] := by decide +kernel
  walk_at "go"
  intro p fp
  walk_at "go"
  refine ⟨fun m σ H' => Same H H' ∧ ∃ (i : Nat) (ps : List PtT) (vs : List V) (o' : Option (List PtT)) (a b : Option V), m = z.length - i ∧ i ≤ z.length ∧ vs.length ≤ i ∧ H' p = some (.lst vs) ∧ PtsV K (nw H H') ps vs ∧ RP.PD (z.cps.toList.drop i) o' ∧ o = o'.map (ps ++ ·) ∧ σ = [some (.str z), some (.ref p), some (.int (i : Nat)), a, b], ⟨_, same_new fp _, 0, [], [], o, _, _, rfl, Nat.zero_le _, Nat.zero_le _, upd_same, .nil, hP, by cases o <;> rfl, rfl⟩, ?_⟩
  rintro m σ H1 ⟨s1, i, ps, vs, o', a, b, rfl, hi, hv, hp, hps, hd, ho, rfl⟩
  by_cases c : i < z.length
  · have t1 : decide (((i : Nat) : Int) < (z.length : Nat)) = true := decide_eq_true (by omega)
    have c2 := cut_two hi
    obtain ⟨ch, hc⟩ : ∃ ch, z.cps.toList[i]? = some ch := ⟨_, List.getElem?_eq_getElem (by rw [hl]; exact c)⟩
    have hat : atI z.cps.toList ((i : Nat) : Int) = some ch := atI_nat hc
    have hdr : z.cps.toList.drop i = ch :: z.cps.toList.drop (i + 1) := by
      obtain ⟨h1, h2⟩ := List.getElem?_eq_some_iff.mp hc
      rw [← h2]; exact List.drop_eq_getElem_cons h1
    rw [hdr] at hd c2
    have hsz : vs.length < sizeLine := by rw [sizeLine_eq]; omega
    generalize hr : z.cps.toList.drop (i + 1) = r at hd c2
    have hlr : r.length = z.length - (i + 1) := by rw [← hr, List.length_drop, hl]
    have next : ∀ (j : Nat) (e : Int) (x : PtT) (v a b : V) (H2 : Hp) (o2 : Option (List PtT)), e = (j : Int) → i < j → j ≤ z.length → Same H H2 → H2 p = some (.lst vs) → PtV K (nw H H2) x v → PtsV K (nw H H2) ps vs → RP.PD (z.cps.toList.drop j) o2 → o = o2.map ((ps ++ [x]) ++ ·) →
        ∃ m', m' < z.length - i ∧ (Same H (upd H2 p (.lst (vs ++ [v]))) ∧ ∃ (i : Nat) (ps : List PtT) (vs' : List V) (o' : Option (List PtT)) (a' b' : Option V), m' = z.length - i ∧ i ≤ z.length ∧ vs'.length ≤ i ∧ (upd H2 p (.lst (vs ++ [v]))) p = some (.lst vs') ∧ PtsV K (nw H (upd H2 p (.lst (vs ++ [v])))) ps vs' ∧ RP.PD (z.cps.toList.drop i) o' ∧ o = o'.map (ps ++ ·) ∧ [some (V.str z), some (V.ref p), some (V.int e), some a, some b] = [some (.str z), some (.ref p), some (.int (i : Nat)), a', b']) :=
      fun j e x v a b H2 o2 he h1 h2 h3 h4 h5 h6 h7 h8 => ⟨z.length - j, by omega, fun q u hq => by rw [upd_ne (ne_of_none hq fp)]; exact h3 _ _ hq, j, ps ++ [x], vs ++ [v], o2, some a, some b, rfl, h2, by rw [List.length_append]; show vs.length + 1 ≤ j; omega, upd_same, (by rw [nw_upd fp]; exact (h6.put (nw_at h4 fp)).snoc (h5.put (nw_at h4 fp))), h7, h8, by rw [he]⟩
    walk_at "go"
    refine ⟨_, fun _ _ h => h, ?_⟩
    cases hd with
    | ch h1 h2 =>
      rename_i o2
      have t2 : decide (V.str (cutS z (some (i : Int)) (some ((i : Int) + 2))) = V.str (Str.ofString "$$")) = false := by
        rw [c2, eDD]; exact decide_eq_false fun h => h1 (List.cons.inj (tx_inj (V.str.inj h))).1
      have t3 : decide (V.str ⟨#[ch]⟩ = V.str (Str.ofString "$")) = false := by
        rw [eD]; exact decide_eq_false fun h => h1 (List.cons.inj (tx_inj (a := [ch]) (V.str.inj h))).1
      walk_at "go"
      exact (next (i + 1) ((i : Int) + 1) (.inl ch) _ _ _ _ o2 (by omega) (by omega) (by omega) s1 hp rfl hps (by rw [hr]; exact h2) (by rw [ho]; cases o2 <;> simp)).choose_spec
    | dd h1 =>
      rename_i r2 o2
      have hr2 : z.cps.toList.drop (i + 2) = r2 := by rw [show i + 2 = (i + 1) + 1 by omega, ← List.drop_drop, hr]; rfl
      have h2l : r2.length = z.length - (i + 2) := by rw [← hr2, List.length_drop, hl]
      have t2 : decide (V.str (cutS z (some (i : Int)) (some ((i : Int) + 2))) = V.str (Str.ofString "$$")) = true := by
        rw [c2, eDD]; exact decide_eq_true rfl
      walk_at "go"
      exact (next (i + 2) ((i : Int) + 2) (.inl 36) (.str ⟨#[36]⟩) (.int ((i : Int) + 2)) (.str ⟨#[36]⟩) _ o2 (by omega) (by omega) (by rw [List.length_cons] at hlr; omega) s1 hp rfl hps (by rw [hr2]; exact h1) (by rw [ho]; cases o2 <;> simp)).choose_spec
    | bad h1 h2 =>
      have t2 : decide (V.str (cutS z (some (i : Int)) (some ((i : Int) + 2))) = V.str (Str.ofString "$$")) = false := by
        rw [c2, eDD]; refine decide_eq_false fun h => h1 ?_
        have := (List.cons.inj (tx_inj (V.str.inj h))).2
        cases r with
        | nil => cases this
        | cons a b => exact congrArg some (List.cons.inj this).1
      have t3 : decide (V.str ⟨#[36]⟩ = V.str (Str.ofString "$")) = true := decide_eq_true (by rw [eD])
      walk_at "go"
      refine ⟨fun t H2 e4 s2 e5 => ?_, fun n k t q dx H2 e4 => ?_⟩
      · walk_at "go"
        exact hN _ ho (s1.trans s2)
      · rw [hr, h2] at e4; cases e4
    | fld h1 h2 h3 =>
      rename_i n k o2
      have t2 : decide (V.str (cutS z (some (i : Int)) (some ((i : Int) + 2))) = V.str (Str.ofString "$$")) = false := by
        rw [c2, eDD]; refine decide_eq_false fun h => h1 ?_
        have := (List.cons.inj (tx_inj (V.str.inj h))).2
        cases r with
        | nil => cases this
        | cons a b => exact congrArg some (List.cons.inj this).1
      have t3 : decide (V.str ⟨#[36]⟩ = V.str (Str.ofString "$")) = true := decide_eq_true (by rw [eD])
      walk_at "go"
      refine ⟨fun t H2 e4 s2 e5 => ?_, fun n' k' t q dx H2 e4 s2 e5 f5 e6 => ?_⟩
      · rw [hr, h2] at e4; cases e4
      · have e4' := e4
        rw [hr, h2] at e4'
        cases e4'
        have kl := fieldD_le h2
        have hp2 := s2 _ _ hp
        have hps2 := hps.same (nw_same (H := H) s2)
        walk_at "go"
        exact (next (i + 1 + k) ((i + 1 + k : Nat) : Int) (.inr n) (.ref q) (.int ((i + 1 + k : Nat) : Int)) (.ref q) _ o2 rfl (by omega) (by omega) (s1.trans s2) hp2 ⟨q, dx, _, rfl, nw_at e6 (s1.free f5), rfl, rfl⟩ hps2 (by rw [← List.drop_drop, hr]; exact h3) (by rw [ho]; cases o2 <;> simp)).choose_spec
  · have t1 : decide (((i : Nat) : Int) < (z.length : Nat)) = false := decide_eq_false (by omega)
    have dn : z.cps.toList.drop i = [] := List.drop_eq_nil_of_le (by omega)
    rw [dn] at hd
    cases hd
    walk_at "go"
    exact hS ps vs p _ (by rw [ho]; exact congrArg some (List.append_nil _)) s1 fp hp (by omega) hps
end
end K17

set_option Elab.async false
set_option linter.all false
set_option maxRecDepth 100000
set_option maxHeartbeats 0

namespace K17
open PySem PySem.Spec PyProof.Rows L2 RC
section
variable {P : Program} {w : World} {K : PySem.W.Frag} {mg : Str → Option Value} {base : Heap}
/-! ### a formatter made -/
def tB : PtT → Bool
  | .inl _ => true
  | .inr _ => false
/-- how a format is read: in braces (false) or behind dollars -/
def FmtR (dl : Bool) (z : Str) (ps : List PtT) : Prop := if dl = true then RP.PD z.cps.toList (some ps) else PlB z.cps.toList ps
def styS (dl : Bool) : Str := if dl = true then "$" else "{"
def spFmInit (K : PySem.W.Frag) : Sp := fun vs H Q _ => ∃ (p dx : Addr) (dl firm : Bool) (z : Str) (ps : List PtT), vs = [.ref p, .str z, .str (styS dl), .bl firm, .non] ∧ H p = some (.ins (CFm K) dx []) ∧ z.length ≤ 1000 ∧ FmtR dl z ps ∧ (firm = true → ((ps.map tB).all id) = false) ∧ (∀ H' : Hp, (∀ b u, b ≠ p → H b = some u → H' b = some u) → FmAt K (rst (fun b => H b ≠ none ∧ b ≠ p) H') p (joinP ps) → Q .non H')
/-- behind the parts -/
theorem fm_tail {H H' H2 : Hp} {p dx q : Addr} {z : Str} {dl : Bool} {ps : List PtT} {vs : List V} {Q : VK} (hp : H p = some (.ins (CFm K) dx [])) (s1 : Same H H') (fq : H q = none) (hq : H' q = some (.lst vs)) (hv : vs.length ≤ 1000) (hps : PtsV K (nw H H') ps vs) (g1 : Same H' H2)
    (hQ : ∀ H' : Hp, (∀ b u, b ≠ p → H b = some u → H' b = some u) → FmAt K (rst (fun b => H b ≠ none ∧ b ≠ p) H') p (joinP ps) → Q .non H') :
    (∀ o, Same (nw H H') (upd H2 p o)) ∧ ∀ (t : Addr) (ws : List V) (H3 : Hp), Same (upd H2 p (.ins (CFm K) dx (putF "style" (.str (styS dl)) (putF "fmt" (.str z) [])))) H3 → upd H2 p (.ins (CFm K) dx (putF "style" (.str (styS dl)) (putF "fmt" (.str z) []))) t = none → H3 t = some (.tup ws) → PtsA K (nw H H') (joinP ps) ws →
      ∀ d, upd H3 p (.ins (CFm K) dx (putF "parts" (.ref t) (putF "style" (.str (styS dl)) (putF "fmt" (.str z) [])))) d = none →
        Q .non (upd (upd (upd H3 p (.ins (CFm K) dx (putF "parts" (.ref t) (putF "style" (.str (styS dl)) (putF "fmt" (.str z) []))))) d (.dK [])) p (.ins (CFm K) dx (putF "defaults" (.ref d) (putF "parts" (.ref t) (putF "style" (.str (styS dl)) (putF "fmt" (.str z) [])))))) := by
  have hGx : ∀ o, Same (nw H H') (upd H2 p o) := fun o b u e => by
    have n1 : H b = none := nw_free e
    rw [upd_ne (fun z => by rw [z, hp] at n1; cases n1)]; exact g1 _ _ (rst_same _ _ e)
  refine ⟨hGx, fun t ws H3 s3 ft ht hA d fd => ?_⟩
  obtain ⟨fd1, fd2⟩ := upd_none fd
  obtain ⟨ft1, ft2⟩ := upd_none ft
  have ntd : t ≠ d := fun e => by rw [e, fd2] at ht; cases ht
  have up : ∀ b u, b ≠ p → H' b = some u → upd (upd (upd H3 p (.ins (CFm K) dx (putF "parts" (.ref t) (putF "style" (.str (styS dl)) (putF "fmt" (.str z) []))))) d (.dK [])) p (.ins (CFm K) dx (putF "defaults" (.ref d) (putF "parts" (.ref t) (putF "style" (.str (styS dl)) (putF "fmt" (.str z) []))))) b = some u := fun b u h1 h2 => by
    have h3 : H3 b = some u := s3 _ _ (by rw [upd_ne h1]; exact g1 _ _ h2)
    rw [upd_ne h1, upd_ne (ne_of_none h3 fd2), upd_ne h1]; exact h3
  have fr : ∀ b, H2 b = none → ¬ (H b ≠ none ∧ b ≠ p) := fun b h z => z.1 ((s1.trans g1).free h)
  have fd0 : H2 d = none := by
    have e := s3.free fd2
    rw [upd_ne fd1] at e; exact e
  refine hQ _ (fun b u h1 h2 => up b u h1 (s1 _ _ h2)) ⟨dx, t, d, styS dl, z, ws, rst_at upd_same (fun z => z.2 rfl), rst_at ?_ (fr d fd0), rst_at ?_ (fr t ft2), hA.same fun b u e => ?_⟩
  · rw [upd_ne fd1]; exact upd_same
  · rw [upd_ne ft1, upd_ne ntd, upd_ne ft1]; exact ht
  · have n1 : H b = none := nw_free e
    exact rst_at (up b u (fun z => by rw [z, hp] at n1; cases n1) (rst_same _ _ e)) fun z => z.1 n1
theorem fm_body {f : Addr} {cdv : Value} {A : Around} {outer : List Env} {s : Shared} {H : Hp} {vs : List V} {Q : VK} {E : XK} (T : Txt P w K mg) (c_parts_of_braces : Callable P w K mg base 4 (He.ga K "parts_of_braces") ["fmt"] [] (spParts K)) (c_parts_of_dollars : Callable P w K mg base 4 (He.ga K "parts_of_dollars") ["fmt"] [] (spPartsD K)) (c_joined_texts : Callable P w K mg base 1 (He.ga K "joined_texts") ["parts"] [] (spJoined K)) (hr : Room 4 (A.deeper (envOfC "Formatter.__init__" (defScope s_Formatter_init) s.heap.objs.size f cdv))) (h : spFmInit K vs H Q E) :
    ∃ t, PSs (cxOf CX0 P w K mg base nm_Formatter_init "Formatter.__init__" (defScope s_Formatter_init) f cdv A outer s H E).nox (defBody s_Formatter_init) t ∧ t { nx := fun _ H' => Q .non H', rt := Q } (L2.start nm_Formatter_init vs) H := by
  obtain ⟨p, dx, dl, firm, z, ps, rfl, hp, hz, hP, hall, hQ⟩ := h
  refine ⟨_, (pss_cons (ps_if (PW.pt (pw_or (pt_not (pt_val (pe_callB call_isi (by rfl) T.b_isinstance (by decide +kernel) (pa_cons (pv 2) (pa_cons (pe_bltn (v := .ty "str") (u := .type "str") (by rfl) T.b_str (by decide +kernel) rfl) pa_nil))))) (pw_or1 (pt_cmpR (RT.op_notInKD T.t_MESSAGE_ALONE) (pv 2) (pe_glob (v := .ref _) (by rfl) T.g_MESSAGE_ALONE rfl) (by rfl))))) (pss_one ps_never) pss_nil)
      (pss_cons (ps_set (i := 5) sc_Formatter_init.nd rfl (by first | exact Or.inl rfl | exact Or.inr rfl) (pe_ifExp (pt_cmpR op_isN (pv 1) pe_non (nomark _)) pe_never (pv 1)))
      (pss_cons (ps_set (i := 6) sc_Formatter_init.nd rfl (by first | exact Or.inl rfl | exact Or.inr rfl) (pe_ifExp (pt_cmpR op_eq (pv 2) pe_str (nomark _)) (pe_fn T.g_parts_of_braces c_parts_of_braces (hr.mono (by first | decide | exact Nat.le_refl _)) (by rfl) (pa_cons (pv 5) pa_nil)) (pe_fn T.g_parts_of_dollars c_parts_of_dollars (hr.mono (by first | decide | exact Nat.le_refl _)) (by rfl) (pa_cons (pv 5) pa_nil))))
      (pss_cons (ps_if (PW.pt (pw_or (pt_cmpR op_isN (pv 6) pe_non (nomark _)) (pw_or1 (PW.pt (pw_and (pt_val (pv 3)) (pw_and1 (pt_val (pe_callB (cr_all rfl) (by rfl) T.b_all (by decide +kernel) (pa_cons (pe_lc (own := [("part", 7)]) (by rfl) sc_Formatter_init.nd (pi_list (pv 6)) (blkOk_by (own := [("part", 7)]) (N := nm_Formatter_init) (sc := defScope s_Formatter_init) (by decide +kernel)) (fun _ _ _ _ _ => (pg_name (i := 7) sc_Formatter_init.nd rfl (by first | exact Or.inl rfl | exact Or.inr rfl))) (fun _ _ _ _ _ => pts_nil) (fun _ _ _ _ _ => (pe_callB (callK (K := K) rIsi call_isi) (by rfl) T.b_isinstance (by decide +kernel) (pa_cons (pv 7) (pa_cons (pe_bltn (v := .ty "str") (u := .type "str") (by rfl) T.b_str (by decide +kernel) rfl) pa_nil))))) pa_nil))))))))) (pss_one ps_never) pss_nil)
      (pss_cons (ps_fld (pv 0) (pv 1) rfl)
      (pss_cons (ps_fld (pv 0) (pv 2) rfl)
      (pss_cons (ps_fld (pv 0) (pe_fn T.g_joined_texts c_joined_texts (hr.mono (by first | decide | exact Nat.le_refl _)) (by rfl) (pa_cons (pv 6) pa_nil)) rfl)
      (pss_one (ps_fld (pv 0) (pe_ifExp (pt_cmpR op_isN (pv 4) pe_non (nomark _)) pe_dnewK pe_never) rfl))))))))), ?_⟩
  walk_at "in"
  refine seq_of (fun σ' H' => H = H' ∧ σ' = L2.start nm_Formatter_init [.ref p, .str z, .str (styS dl), .bl firm, .non]) (fun b' kb => ?_) (fun σ' H' hm => ?_)
  · cases dl with
    | true => walk_at "go"; exact kb _ _ ⟨rfl, rfl⟩
    | false => walk_at "go"; exact kb _ _ ⟨rfl, rfl⟩
  obtain ⟨rfl, rfl⟩ := hm
  refine seq_of (fun σ' H' => H = H' ∧ σ' = [some (.ref p), some (.str z), some (.str (styS dl)), some (.bl firm), some .non, some (.str z), none, none]) (fun b' kb => ?_) (fun σ' H' hm => ?_)
  · walk_at "go"; exact kb _ _ ⟨rfl, rfl⟩
  obtain ⟨rfl, rfl⟩ := hm
  refine seq_of (fun σ' H' => ∃ vs q, Same H H' ∧ H q = none ∧ H' q = some (.lst vs) ∧ vs.length ≤ 1000 ∧ PtsV K (nw H H') ps vs ∧ σ' = [some (.ref p), some (.str z), some (.str (styS dl)), some (.bl firm), some .non, some (.str z), some (.ref q), none]) (fun b' kb => ?_) (fun σ' H' hm => ?_)
  · cases dl with
    | true =>
      have hP : RP.PD z.cps.toList (some ps) := hP
      walk_at "go"
      refine ⟨(fun H' e => nomatch e), fun ps2 vs q H' e s1 fq hq hv hps => ?_⟩
      cases e
      exact kb _ _ ⟨vs, q, s1, fq, hq, hv, hps, rfl⟩
    | false =>
      have hP : PlB z.cps.toList ps := hP
      walk_at "go"
      intro vs q H' s1 fq hq hv hps
      exact kb _ _ ⟨vs, q, s1, fq, hq, hv, hps, rfl⟩
  obtain ⟨vs, q, s1, fq, hq, hv, hps, rfl⟩ := hm
  have hp1 := s1 _ _ hp
  cases firm with
  | false =>
    obtain ⟨hGx, fin⟩ := fm_tail (dl := dl) (z := z) (Q := Q) hp s1 fq hq hv hps (fun _ _ e => e) hQ
    walk_at "go"
    simp only [upd_upd]
    refine ⟨hGx _, fun t ws H3 s3 ft ht hA => ?_⟩
    have hp3 := s3 _ _ upd_same
    walk_at "go"
    intro d fd
    walk_at "go"
    exact fin t ws H3 s3 ft ht hA d fd
  | true =>
  have hall := hall rfl
  walk_at "go"
  intro D hD
  refine lc_it (walk_list (xs := vs)) (fun i H2 => Same H' H2 ∧ H2 D = some (.lst (((ps.take i).map tB).map V.bl))) ⟨same_new hD _, upd_same⟩ (fun i H2 _ h => SqL.of (h.1 _ _ hq)) (fun i x H3 H2 hi hP hy => ?_) (fun H2 h2 => ?_)
  · obtain ⟨rfl, hx⟩ := hy
    obtain ⟨g1, g2⟩ := hP
    obtain ⟨y, gy, hpy⟩ := hps.get hx
    have hN : Same (nw H H') H' := rst_same
    have ky := T.kiy_Field_str
    have hll : (((ps.take i).map tB).map V.bl).length < sizeLine := by
      have h1 : (ps.take i).length ≤ ps.length := by rw [List.length_take]; exact Nat.min_le_right _ _
      rw [List.length_map, List.length_map, sizeLine_eq]
      have := hps.len
      omega
    cases y with
    | inl c =>
      obtain rfl : x = .str ⟨#[c]⟩ := hpy
      walk_at "go"
      rw [upd_same, take_snoc gy, List.map_append, List.map_append]; rfl
    | inr n =>
      obtain ⟨q3, dx3, fs3, rfl, g3, l3, _⟩ := hpy
      have g4 := g1 _ _ (hN _ _ g3)
      have ty4 := RB.TyC.tyx T.ty_Field T.c_Field g4
      walk_at "go"
      rw [upd_same, take_snoc gy, List.map_append, List.map_append]; rfl
  · obtain ⟨g1, g2⟩ := h2
    rw [List.take_of_length_le (by rw [hps.len]; exact Nat.le_refl _)] at g2
    have hp4 := g1 _ _ hp1
    have hq4 := g1 _ _ hq
    walk_at "go"
    simp only [upd_upd]
    obtain ⟨hGx, fin⟩ := fm_tail (dl := dl) (z := z) (Q := Q) hp s1 fq hq hv hps g1 hQ
    refine ⟨hGx _, fun t ws H3 s3 ft ht hA => ?_⟩
    have hp3 := s3 _ _ upd_same
    walk_at "go"
    intro d fd
    walk_at "go"
    exact fin t ws H3 s3 ft ht hA d fd
theorem ok_fm_init3 {f : Addr} (T : Txt P w K mg) (F : Stands K "__init__" "Formatter.__init__" s_Formatter_init [.non, .str "{", .bl true, .non] f) (c_parts_of_braces : Callable P w K mg base 4 (He.ga K "parts_of_braces") ["fmt"] [] (spParts K)) (c_parts_of_dollars : Callable P w K mg base 4 (He.ga K "parts_of_dollars") ["fmt"] [] (spPartsD K)) (c_joined_texts : Callable P w K mg base 1 (He.ga K "joined_texts") ["parts"] [] (spJoined K)) : Callable P w K mg base 5 f ["self", "fmt", "style", "validate", "defaults"] [.str "{", .bl true, .non] (spFmInit K) := by
  refine F.call sc_Formatter_init 2 1 (fun vs H Q E h => ?_) (fun cdv A outer s H vs Q E hr h => fm_body T c_parts_of_braces c_parts_of_dollars c_joined_texts hr h) (fun z => nomatch z) fun _ => ⟨rfl, fun _ _ _ _ _ _ _ us its hl hi => match us, hl, its, hi with | [_, _], _, [_, _, _, _], _ => ⟨_, rfl, rfl⟩⟩
  obtain ⟨p, dx, dl, firm, z, ps, rfl, _⟩ := h; rfl
theorem ok_fm_init2 {f : Addr} (T : Txt P w K mg) (F : Stands K "__init__" "Formatter.__init__" s_Formatter_init [.non, .str "{", .bl true, .non] f) (c_parts_of_braces : Callable P w K mg base 4 (He.ga K "parts_of_braces") ["fmt"] [] (spParts K)) (c_parts_of_dollars : Callable P w K mg base 4 (He.ga K "parts_of_dollars") ["fmt"] [] (spPartsD K)) (c_joined_texts : Callable P w K mg base 1 (He.ga K "joined_texts") ["parts"] [] (spJoined K)) : Callable P w K mg base 5 f ["self", "fmt", "style", "validate", "defaults"] [.bl true, .non] (spFmInit K) := by
  refine F.call sc_Formatter_init 3 2 (fun vs H Q E h => ?_) (fun cdv A outer s H vs Q E hr h => fm_body T c_parts_of_braces c_parts_of_dollars c_joined_texts hr h) (fun z => nomatch z) fun _ => ⟨rfl, fun _ _ _ _ _ _ _ us its hl hi => match us, hl, its, hi with | [_, _, _], _, [_, _, _, _], _ => ⟨_, rfl, rfl⟩⟩
  obtain ⟨p, dx, dl, firm, z, ps, rfl, _⟩ := h; rfl
theorem ok_fm_init1 {f : Addr} (T : Txt P w K mg) (F : Stands K "__init__" "Formatter.__init__" s_Formatter_init [.non, .str "{", .bl true, .non] f) (c_parts_of_braces : Callable P w K mg base 4 (He.ga K "parts_of_braces") ["fmt"] [] (spParts K)) (c_parts_of_dollars : Callable P w K mg base 4 (He.ga K "parts_of_dollars") ["fmt"] [] (spPartsD K)) (c_joined_texts : Callable P w K mg base 1 (He.ga K "joined_texts") ["parts"] [] (spJoined K)) : Callable P w K mg base 5 f ["self", "fmt", "style", "validate", "defaults"] [.non] (spFmInit K) := by
  refine F.call sc_Formatter_init 4 3 (fun vs H Q E h => ?_) (fun cdv A outer s H vs Q E hr h => fm_body T c_parts_of_braces c_parts_of_dollars c_joined_texts hr h) (fun z => nomatch z) fun _ => ⟨rfl, fun _ _ _ _ _ _ _ us its hl hi => match us, hl, its, hi with | [_, _, _, _], _, [_, _, _, _], _ => ⟨_, rfl, rfl⟩⟩
  obtain ⟨p, dx, dl, firm, z, ps, rfl, _⟩ := h; rfl
end
end K17

set_option Elab.async false
set_option linter.all false
set_option maxRecDepth 100000
set_option maxHeartbeats 0
namespace K17
open PySem PySem.Spec PyProof.Rows L2 RC
section
variable {P : Program} {w : World} {K : PySem.W.Frag} {mg : Str → Option Value} {base : Heap}
/-! ### a yard is made -/
/-- H came from H0; ns: what is still being changed; L: what was laid since -/
structure Fr (H0 : Hp) (p : Addr) (ns : List Addr) (L : List (Addr × HO)) (H : Hp) : Prop where
  kp : ∀ b o, b ≠ p → H0 b = some o → H b = some o
  has : ∀ x ∈ L, x.1 ∉ ns ∧ H0 x.1 = none ∧ H x.1 = some x.2
  live : ∀ n ∈ ns, ∃ o, H n = some o
  old : ∀ n ∈ ns, n = p ∨ H0 n = none
  mem : p ∈ ns
  nd : (L.map (·.1)).Nodup
section
variable {H0 H H2 : Hp} {p : Addr} {ns : List Addr} {L : List (Addr × HO)}
theorem Fr.none (F : Fr H0 p ns L H) {q : Addr} (h : H q = none) : H0 q = none := by
  cases e : H0 q with
  | none => rfl
  | some o =>
    by_cases c : q = p
    · subst c; obtain ⟨o', e'⟩ := F.live _ F.mem; rw [e'] at h; cases h
    · rw [F.kp q o c e] at h; cases h
theorem Fr.notin (F : Fr H0 p ns L H) {q : Addr} (h : H q = Option.none) : q ∉ ns := fun z => by obtain ⟨o, e⟩ := F.live q z; rw [e] at h; cases h
theorem Fr.to (F : Fr H0 p ns L H) (k : ∀ b o, b ∉ ns → H b = some o → H2 b = some o) (l : ∀ n ∈ ns, ∃ o, H2 n = some o) : Fr H0 p ns L H2 where
  kp := fun b o hb e => k b o (fun z => by rcases F.old b z with c | c; exact hb c; rw [c] at e; cases e) (F.kp b o hb e)
  has := fun x hx => ⟨(F.has x hx).1, (F.has x hx).2.1, k _ _ (F.has x hx).1 (F.has x hx).2.2⟩
  live := l
  old := F.old
  mem := F.mem
  nd := F.nd
theorem Fr.nin (F : Fr H0 p ns L H) {q : Addr} (h : H q = Option.none) : q ∉ L.map (·.1) := fun z => by
  obtain ⟨x, hx, e⟩ := List.mem_map.mp z
  have := (F.has x hx).2.2
  rw [e, h] at this; cases this
theorem nin_cons {a b : Addr} {o : HO} {L : List (Addr × HO)} (h : a ≠ b) (k : a ∉ L.map (·.1)) : a ∉ ((b, o) :: L).map (·.1) := fun z => by
  rcases List.mem_cons.mp z with z | z
  · exact h z
  · exact k z
theorem Fr.cons (F : Fr H0 p ns L H) {q : Addr} {o : HO} (h1 : q ∉ ns) (h2 : H0 q = Option.none) (h3 : H q = some o) (h4 : q ∉ L.map (·.1)) : Fr H0 p ns ((q, o) :: L) H where
  kp := F.kp
  has := fun x hx => by
    rcases List.mem_cons.mp hx with c | c
    · subst c; exact ⟨h1, h2, h3⟩
    · exact F.has x c
  live := F.live
  old := F.old
  mem := F.mem
  nd := List.nodup_cons.mpr ⟨h4, F.nd⟩
theorem Fr.set (F : Fr H0 p ns L H) {o : HO} {q : Addr} (hq : q ∈ ns) (e : upd H q o = H2) : Fr H0 p ns L H2 := by
  subst e
  refine F.to (fun b u h1 h2 => ?_) (fun n hn => ?_)
  · rw [upd_ne (fun z => h1 (by rw [z]; exact hq))]; exact h2
  · by_cases c : n = q
    · subst c; exact ⟨_, upd_same⟩
    · rw [upd_ne c]; exact F.live n hn
theorem Fr.new (F : Fr H0 p ns L H) {o : HO} {q : Addr} (hq : H q = Option.none) (e : upd H q o = H2) : Fr H0 p ns ((q, o) :: L) H2 := by
  subst e
  refine (F.to (H2 := upd H q o) (fun b u h1 h2 => same_new hq _ _ _ h2) (fun n hn => ?_)).cons (F.notin hq) (F.none hq) upd_same (F.nin hq)
  obtain ⟨u, hu⟩ := F.live n hn
  exact ⟨u, same_new hq _ _ _ hu⟩
/-- one more is being changed -/
theorem Fr.own (F : Fr H0 p ns L H) {o : HO} {q : Addr} (hq : H q = Option.none) (e : upd H q o = H2) : Fr H0 p (q :: ns) L H2 := by
  have G := F.new hq e
  subst e
  refine ⟨G.kp, fun x hx => ?_, fun n hn => ?_, fun n hn => ?_, List.mem_cons_of_mem _ F.mem, F.nd⟩
  · have g := F.has x hx
    refine ⟨fun z => ?_, g.2.1, (G.has x (List.mem_cons_of_mem _ hx)).2.2⟩
    rcases List.mem_cons.mp z with c | c
    · rw [c, hq] at g; cases g.2.2
    · exact g.1 c
  · rcases List.mem_cons.mp hn with c | c
    · subst c; exact ⟨_, upd_same⟩
    · exact G.live n c
  · rcases List.mem_cons.mp hn with c | c
    · subst c; exact .inr (F.none hq)
    · exact F.old n c
theorem Fr.get (F : Fr H0 p ns L H) {x : Addr × HO} (h : x ∈ L) : H x.1 = some x.2 := (F.has x h).2.2
theorem Fr.putf (F : Fr H0 p ns L H) {o o' : HO} {q : Addr} (hq : H q = Option.none) (e : upd (upd H q o) p o' = H2) : Fr H0 p ns ((q, o) :: L) H2 := (F.new hq rfl).set F.mem e
theorem Fr.ownf (F : Fr H0 p ns L H) {o o' : HO} {q : Addr} (hq : H q = Option.none) (e : upd (upd H q o) p o' = H2) : Fr H0 p (q :: ns) L H2 ∧ H2 q = some o := by
  have G := F.own hq (o := o) rfl
  refine ⟨G.set (List.mem_cons_of_mem _ F.mem) e, ?_⟩
  have n : q ≠ p := fun z => F.notin hq (by rw [z]; exact F.mem)
  rw [← e, upd_ne n]; exact upd_same
theorem Fr.same (F : Fr H0 p ns L H) (s : Same H H2) : Fr H0 p ns L H2 := F.to (fun b o _ e => s b o e) (fun n hn => let ⟨o, e⟩ := F.live n hn; ⟨o, s _ _ e⟩)
theorem Fr.start {o : HO} (h : H0 p = some o) : Fr H0 p [p] [] H0 where
  kp := fun _ _ _ e => e
  has := fun _ h => nomatch h
  live := fun n hn => by cases List.mem_singleton.mp hn; exact ⟨o, h⟩
  old := fun n hn => .inl (List.mem_singleton.mp hn)
  mem := List.mem_singleton.mpr rfl
  nd := List.nodup_nil
end
def yF (clk : Int) (st fi na nu lm md hn fr rt lr : Addr) : List (Str × V) := [("clock", .int clk), ("stream_texts", .ref st), ("file_rows", .ref fi), ("names_of", .ref na), ("numbers_of", .ref nu), ("bar_level", .int 0), ("logger_map", .ref lm), ("made", .ref md), ("handler_names", .ref hn), ("failure_rows", .ref fr), ("root", .ref rt), ("last_resort", .ref lr)]
/-- where the parts of a yard lie -/
structure YParts where
  (st fi na nu lm md hn fr rt lr rl rh ll : Addr)
def YParts.L (K : PySem.W.Frag) (y : Addr) (q : YParts) (rd ld : Addr) : List (Addr × HO) := [(q.ll, .lst []), (q.lr, .ins (He.ga K "StreamHandler") ld (hF q.ll y ++ ([("stream", .str "stderr")] : List (Str × V)))), (q.rh, .lst []), (q.rl, .lst []), (q.rt, .ins (CL K) rd (lF q.rl y "root" 30 q.rh .non)), (q.fr, .lst []), (q.hn, .dK []), (q.lm, .dK []), (q.nu, .dK (kv_FIRST_NUMBERS.map fun q => (q.1, q.2.v K))), (q.na, .dK (kv_FIRST_NAMES.map fun q => (q.1, q.2.v K))), (q.fi, .dK []), (q.st, .dK [])]
structure YNew (K : PySem.W.Frag) (H0 H : Hp) (y dy : Addr) (clk : Int) (q : YParts) : Prop where
  fr : ∃ rd ld, Fr H0 y [q.md, y] (q.L K y rd ld) H
  y : H y = some (.ins (CY K) dy (yF clk q.st q.fi q.na q.nu q.lm q.md q.hn q.fr q.rt q.lr))
  md : H q.md = some (.lst [])
def spYardInit (K : PySem.W.Frag) : Sp := fun vs H Q _ => ∃ (p dx : Addr) (clk : Int), vs = [.ref p, .int clk] ∧ H p = some (.ins (CY K) dx []) ∧ ∀ (H' : Hp) (q : YParts), YNew K H H' p dx clk q → Q .non H'
theorem body_yard_init {f : Addr} {cdv : Value} {A : Around} {outer : List Env} {s : Shared} {H : Hp} {vs : List V} {Q : VK} {E : XK} (T : Txt P w K mg) (hr : Room 4 (A.deeper (envOfC "Yard.__init__" (defScope s_Yard_init) s.heap.objs.size f cdv))) (h : spYardInit K vs H Q E)
    (c_Logger_init : Callable P w K mg base 2 (He.ma K (He.ga K "Logger") "__init__") ["self", "yard", "name", "level"] [] (spLoggerInit K))
    (c_StreamHandler_init_d1 : Callable P w K mg base 3 (He.ma K (He.ga K "StreamHandler") "__init__") ["self", "yard", "stream"] [.str "stderr"] (spStreamInit K)) :
    ∃ t, PSs (cxOf CX0 P w K mg base nm_Yard_init "Yard.__init__" (defScope s_Yard_init) f cdv A outer s H E).nox (defBody s_Yard_init) t ∧ t { nx := fun _ H' => Q .non H', rt := Q } (L2.start nm_Yard_init vs) H := by
  obtain ⟨p, dx, clk, rfl, hp, hQ⟩ := h
  refine ⟨_, (pss_cons (ps_fld (pv 0) (pv 1) rfl)
      (pss_cons (ps_fld (pv 0) pe_dnewK rfl)
      (pss_cons (ps_fld (pv 0) pe_dnewK rfl)
      (pss_cons (ps_fld (pv 0) (pe_callTy (RB.call_dictK T.t_FIRST_NAMES) (by rfl) T.b_dict (by decide +kernel) (pa_cons (pe_glob (v := .ref _) (by rfl) T.g_FIRST_NAMES rfl) pa_nil)) rfl)
      (pss_cons (ps_fld (pv 0) (pe_callTy (RB.call_dictK T.t_FIRST_NUMBERS) (by rfl) T.b_dict (by decide +kernel) (pa_cons (pe_glob (v := .ref _) (by rfl) T.g_FIRST_NUMBERS rfl) pa_nil)) rfl)
      (pss_cons (ps_fld (pv 0) pe_int rfl)
      (pss_cons (ps_fld (pv 0) pe_dnewK rfl)
      (pss_cons (ps_fld (pv 0) (pe_lst pa_nil) rfl)
      (pss_cons (ps_fld (pv 0) pe_dnewK rfl)
      (pss_cons (ps_fld (pv 0) (pe_lst pa_nil) rfl)
      (pss_cons (ps_fld (pv 0) (pe_mk T.k_Logger T.g_Logger c_Logger_init (hr.mono (by first | decide | exact Nat.le_refl _)) (by rfl) (pa_cons (pv 0) (pa_cons pe_str (pa_cons (pe_gi (by rfl) T.g_WARNING) pa_nil)))) rfl)
      (pss_cons (ps_fld (pv 0) (pe_mk T.k_StreamHandler T.g_StreamHandler c_StreamHandler_init_d1 (hr.mono (by first | decide | exact Nat.le_refl _)) (by rfl) (pa_cons (pv 0) pa_nil)) rfl)
      (pss_one (ps_expr (pe_bm0 PySem.F.plainAttrs_list PySem.F.slot_list_pop PySem.F.type_list_pop mt_pop (pe_fld (pv 0) rfl)))))))))))))))), ?_⟩
  have F0 := Fr.start hp
  refine ⟨_, rfl, _, rfl, p, _, dx, _, rfl, hp, T.c_Yard, T.n_Yard_clock, (by show 0 < 1000; decide), ?_⟩
  generalize e1 : upd H p _ = H1
  have F1 := F0.set List.mem_cons_self e1
  have p1 := congrFun e1.symm p; rw [upd_same] at p1
  clear e1
  intro st h_st
  refine ⟨_, rfl, p, _, dx, _, rfl, same_new h_st _ _ _ p1, T.c_Yard, T.n_Yard_stream_texts, (by show 1 < 1000; decide), ?_⟩
  generalize e : upd (upd H1 st _) p _ = H2
  have F2 := F1.putf h_st e
  have p2 := congrFun e.symm p; rw [upd_same] at p2
  clear e
  intro fi h_fi
  refine ⟨_, rfl, p, _, dx, _, rfl, same_new h_fi _ _ _ p2, T.c_Yard, T.n_Yard_file_rows, (by show 2 < 1000; decide), ?_⟩
  generalize e : upd (upd H2 fi _) p _ = H3
  have F3 := F2.putf h_fi e
  have p3 := congrFun e.symm p; rw [upd_same] at p3
  clear e
  refine ⟨rfl, fun na h_na => ?_⟩
  refine ⟨_, rfl, p, _, dx, _, rfl, same_new h_na _ _ _ p3, T.c_Yard, T.n_Yard_names_of, (by show 3 < 1000; decide), ?_⟩
  generalize e : upd (upd H3 na _) p _ = H4
  have F4 := F3.putf h_na e
  have p4 := congrFun e.symm p; rw [upd_same] at p4
  clear e
  refine ⟨rfl, fun nu h_nu => ?_⟩
  refine ⟨_, rfl, p, _, dx, _, rfl, same_new h_nu _ _ _ p4, T.c_Yard, T.n_Yard_numbers_of, (by show 4 < 1000; decide), ?_⟩
  generalize e : upd (upd H4 nu _) p _ = H5
  have F5 := F4.putf h_nu e
  have p5 := congrFun e.symm p; rw [upd_same] at p5
  clear e
  refine ⟨_, rfl, p, _, dx, _, rfl, p5, T.c_Yard, T.n_Yard_bar_level, (by show 5 < 1000; decide), ?_⟩
  generalize e : upd H5 p _ = H6
  have F6 := F5.set F5.mem e
  have p6 := congrFun e.symm p; rw [upd_same] at p6
  clear e
  intro lm h_lm
  refine ⟨_, rfl, p, _, dx, _, rfl, same_new h_lm _ _ _ p6, T.c_Yard, T.n_Yard_logger_map, (by show 6 < 1000; decide), ?_⟩
  generalize e : upd (upd H6 lm _) p _ = H7
  have F7 := F6.putf h_lm e
  have p7 := congrFun e.symm p; rw [upd_same] at p7
  clear e
  refine ⟨(by show 0 ≤ sizeLine; decide), fun md h_md => ?_⟩
  refine ⟨_, rfl, p, _, dx, _, rfl, same_new h_md _ _ _ p7, T.c_Yard, T.n_Yard_made, (by show 7 < 1000; decide), ?_⟩
  generalize e : upd (upd H7 md _) p _ = H8
  obtain ⟨F8, m8⟩ := F7.ownf h_md e
  have p8 := congrFun e.symm p; rw [upd_same] at p8
  have nmp : md ≠ p := fun z => F7.notin h_md (by rw [z]; exact F7.mem)
  clear e
  intro hn h_hn
  refine ⟨_, rfl, p, _, dx, _, rfl, same_new h_hn _ _ _ p8, T.c_Yard, T.n_Yard_handler_names, (by show 8 < 1000; decide), ?_⟩
  generalize e : upd (upd H8 hn _) p _ = H9
  have F9 := F8.putf h_hn e
  have p9 := congrFun e.symm p; rw [upd_same] at p9
  have m9 : H9 md = some (.lst []) := by rw [← e, upd_ne nmp]; exact same_new h_hn _ _ _ m8
  clear e
  refine ⟨(by show 0 ≤ sizeLine; decide), fun fr h_fr => ?_⟩
  refine ⟨_, rfl, p, _, dx, _, rfl, same_new h_fr _ _ _ p9, T.c_Yard, T.n_Yard_failure_rows, (by show 9 < 1000; decide), ?_⟩
  generalize e : upd (upd H9 fr _) p _ = H10
  have F10 := F9.putf h_fr e
  have p10 := congrFun e.symm p; rw [upd_same] at p10
  have m10 : H10 md = some (.lst []) := by rw [← e, upd_ne nmp]; exact same_new h_fr _ _ _ m9
  clear e
  -- root
  refine ⟨_, rfl, fun rt rd h_rt h_rd hne => ?_⟩
  refine ⟨rt, rd, p, "root", 30, rfl, upd_same, fun Hr rl rh k1 k2 k3 k4 k5 k6 k7 => ⟨rfl, ?_⟩⟩
  have sr : Same H10 Hr := made_same h_rt h_rd k1
  obtain ⟨k2a, k2⟩ := upd_none k2
  obtain ⟨k3a, k3⟩ := upd_none k3
  have k2 := (upd_none k2).2
  have k3 := (upd_none k3).2
  have j1 : rl ≠ rt := fun z => by rw [z, k5] at k6; cases k6
  have j2 : rh ≠ rt := fun z => by rw [z, k5] at k7; cases k7
  have Fr1 := (((F10.same sr).cons (F10.notin h_rt) (F10.none h_rt) k5 (F10.nin h_rt)).cons (F10.notin k2) (F10.none k2) k6 (nin_cons j1 (F10.nin k2))).cons (F10.notin k3) (F10.none k3) k7 (nin_cons (Ne.symm k4) (nin_cons j2 (F10.nin k3)))
  have pr := sr _ _ p10
  have mr := sr _ _ m10
  refine ⟨_, rfl, p, _, dx, _, rfl, pr, T.c_Yard, T.n_Yard_root, (by show 10 < 1000; decide), ?_⟩
  generalize e : upd Hr p _ = H11
  have F11 := Fr1.set Fr1.mem e
  have p11 := congrFun e.symm p; rw [upd_same] at p11
  have m11 : H11 md = some (.lst []) := by rw [← e, upd_ne nmp]; exact mr
  clear e
  -- last_resort
  refine ⟨_, rfl, fun lr ld h_lr h_ld hne2 => ?_⟩
  have npl : lr ≠ p := fun z => by rw [z, p11] at h_lr; cases h_lr
  have nml : lr ≠ md := fun z => by rw [z, m11] at h_lr; cases h_lr
  have t1 : ∀ C fs, Same H11 (upd (upd H11 ld (.own lr)) lr (.ins C ld fs)) := fun C fs => made_same h_lr h_ld (fun _ _ _ e => e)
  refine ⟨lr, ld, p, dx, md, "stderr", _, [], rfl, upd_same, npl, t1 _ _ _ _ p11, rfl, rfl, t1 _ _ _ _ m11, (by decide), fun Hl ll l1 l2 l3 l4 l5 => ⟨rfl, ?_⟩⟩
  have l2b : H11 ll = none := (upd_none (upd_none l2).2).2
  have f12 : ∀ b o, b ∉ [md, p] → H11 b = some o → Hl b = some o := fun b o hb e => l1 b o (ne_of_none e h_lr) (fun z => hb (by rw [z]; exact List.mem_cons_self)) (t1 _ _ _ _ e)
  have p12 := l1 p _ (Ne.symm npl) (Ne.symm nmp) (t1 _ _ _ _ p11)
  have F12 := ((F11.to f12 (fun n hn => by
    rcases List.mem_cons.mp hn with c | c
    · subst c; exact ⟨_, l5⟩
    · cases List.mem_singleton.mp c; exact ⟨_, p12⟩)).cons (F11.notin h_lr) (F11.none h_lr) l3 (F11.nin h_lr)).cons (F11.notin l2b) (F11.none l2b) l4 (nin_cons (fun z => (by rw [z, l3] at l4; cases l4)) (F11.nin l2b))
  refine ⟨_, rfl, p, _, dx, _, rfl, p12, T.c_Yard, T.n_Yard_last_resort, (by show 11 < 1000; decide), ?_⟩
  generalize e : upd Hl p _ = H13
  have F13 := F12.set F12.mem e
  have p13 := congrFun e.symm p; rw [upd_same] at p13
  have m13 : H13 md = some (.lst [.ref lr]) := by rw [← e, upd_ne nmp]; exact l5
  clear e
  refine ⟨_, rfl, p, _, dx, _, _, rfl, p13, T.c_Yard, T.n_Yard_made, rfl, .inl ⟨rfl, _, SqL.of m13⟩, md, _, _, rfl, rfl, m13, rfl, ?_⟩
  have F14 := F13.set (o := .lst []) List.mem_cons_self rfl
  refine hQ _ ⟨st, fi, na, nu, lm, md, hn, fr, rt, lr, rl, rh, ll⟩ ⟨⟨rd, ld, F14⟩, ?_, upd_same⟩
  rw [upd_ne (Ne.symm nmp)]; exact p13
theorem len_yard_init : ∀ vs H Q E, spYardInit K vs H Q E → vs.length = 2 := fun vs H Q E h => by
  obtain ⟨p, dx, clk, rfl, _⟩ := h; rfl
theorem ok_yard_init {f : Addr} (T : Txt P w K mg) (F : Stands K "__init__" "Yard.__init__" s_Yard_init [.int 0] f)
    (c_Logger_init : Callable P w K mg base 2 (He.ma K (He.ga K "Logger") "__init__") ["self", "yard", "name", "level"] [] (spLoggerInit K))
    (c_StreamHandler_init_d1 : Callable P w K mg base 3 (He.ma K (He.ga K "StreamHandler") "__init__") ["self", "yard", "stream"] [.str "stderr"] (spStreamInit K)) : Callable P w K mg base 5 f ["self", "now"] [.int 0] (spYardInit K) :=
  F.call sc_Yard_init 1 0 len_yard_init (fun cdv A outer s H vs Q E hr h => body_yard_init T hr h c_Logger_init c_StreamHandler_init_d1) (fun z => nomatch z) fun _ => ⟨rfl, fun _ _ _ _ _ _ _ us its hl hi => match us, hl, its, hi with | [_], _, [_], _ => ⟨_, rfl, rfl⟩⟩
end
end K17

set_option Elab.async false
set_option linter.all false
set_option maxRecDepth 100000
set_option maxHeartbeats 4000000
/-! A model M of what stands at the places ad: what is changed at one model leaves the others. -/
namespace RR
open PySem PySem.Spec PyProof.Rows L2 RC
section
variable {R S : Type} {M M' M'' : R → Option HO} {N N' : S → Option HO} {ad ad' ad'' : R → Addr} {bd bd' : S → Addr} {H H' H'' : Hp} {b p s l : Addr} {o o0 o1 : HO}
structure Rep (M : R → Option HO) (ad : R → Addr) (H : Hp) : Prop where
  at_ : ∀ r o, M r = some o → H (ad r) = some o
  inj : ∀ r r' o o', M r = some o → M r' = some o' → ad r = ad r' → r = r'
def Out (M : R → Option HO) (ad : R → Addr) (b : Addr) : Prop := ∀ r u, M r = some u → ad r ≠ b
structure Mv {R S : Type} (M : R → Option HO) (ad : R → Addr) (H : Hp) (M' : S → Option HO) (ad' : S → Addr) (H' : Hp) : Prop where
  keep : ∀ b o, Out M ad b → H b = some o → H' b = some o
  img : ∀ r u, M' r = some u → (∃ r' u', M r' = some u' ∧ ad r' = ad' r) ∨ H (ad' r) = none
theorem Rep.out (h : Rep M ad H) (hp : H p = none) : Out M ad p := fun r u e z => by rw [← z, h.at_ _ _ e] at hp; cases hp
theorem Mv.refl (H : Hp) : Mv M ad H M ad H := ⟨fun _ _ _ e => e, fun r u e => .inl ⟨r, u, e, rfl⟩⟩
theorem Mv.out {R S : Type} {M : R → Option HO} {ad : R → Addr} {M' : S → Option HO} {ad' : S → Addr} (m : Mv M ad H M' ad' H') (h : Out M ad b) (e : H b = some o) : Out M' ad' b := fun r u er z => by
  rcases m.img r u er with ⟨r', u', e', z'⟩ | hn
  · exact h r' u' e' (z'.trans z)
  · rw [z, e] at hn; cases hn
theorem Mv.trans {R S U : Type} {M : R → Option HO} {ad : R → Addr} {M' : S → Option HO} {ad' : S → Addr} {M'' : U → Option HO} {ad'' : U → Addr} (a : Mv M ad H M' ad' H') (c : Mv M' ad' H' M'' ad'' H'') : Mv M ad H M'' ad'' H'' where
  keep := fun b o h e => c.keep b o (a.out h e) (a.keep b o h e)
  img := fun r u e => by
    rcases c.img r u e with ⟨r', u', e', z⟩ | hn
    · rcases a.img r' u' e' with ⟨r2, u2, e2, z2⟩ | h
      · exact .inl ⟨r2, u2, e2, z2.trans z⟩
      · exact .inr (by rw [← z]; exact h)
    · cases hH : H (ad'' r) with
      | none => exact .inr rfl
      | some o =>
        by_cases ho : Out M ad (ad'' r)
        · rw [a.keep _ _ ho hH] at hn; cases hn
        · refine .inl ?_
          apply Classical.byContradiction
          intro z
          exact ho fun r' u' e' q => z ⟨r', u', e', q⟩
theorem Rep.same (h : Rep M ad H) (e : Same H H') : Rep M ad H' := ⟨fun r o q => e _ _ (h.at_ r o q), h.inj⟩
theorem Mv.same (e : Same H H') : Mv M ad H M ad H' := ⟨fun b o _ q => e b o q, fun r u q => .inl ⟨r, u, q, rfl⟩⟩
theorem Mv.sameR {R S : Type} {M : R → Option HO} {ad : R → Addr} {M' : S → Option HO} {ad' : S → Addr} (a : Mv M ad H M' ad' H') (e : Same H' H'') : Mv M ad H M' ad' H'' := a.trans (Mv.same e)
theorem Mv.sameL {R S : Type} {M : R → Option HO} {ad : R → Addr} {M' : S → Option HO} {ad' : S → Addr} (a : Mv M ad H' M' ad' H'') (e : Same H H') : Mv M ad H M' ad' H'' := (Mv.same e).trans a
def Dj (M : R → Option HO) (ad : R → Addr) (N : S → Option HO) (bd : S → Addr) : Prop := ∀ r u, N r = some u → Out M ad (bd r)
theorem Dj.symm (d : Dj M ad N bd) : Dj N bd M ad := fun r u e r' u' e' z => d r' u' e' r u e z.symm
theorem Mv.rep {R S U : Type} {M : R → Option HO} {ad : R → Addr} {M' : S → Option HO} {ad' : S → Addr} {N : U → Option HO} {bd : U → Addr} (a : Mv M ad H M' ad' H') (d : Dj M ad N bd) (n : Rep N bd H) : Rep N bd H' := ⟨fun r o q => a.keep _ _ (d r o q) (n.at_ r o q), n.inj⟩
theorem Mv.dj {R S U : Type} {M : R → Option HO} {ad : R → Addr} {M' : S → Option HO} {ad' : S → Addr} {N : U → Option HO} {bd : U → Addr} (a : Mv M ad H M' ad' H') (d : Dj M ad N bd) (n : Rep N bd H) : Dj M' ad' N bd := fun r u q => a.out (d r u q) (n.at_ r u q)
theorem Rep.set (h : Rep M ad H) (r : R) (h0 : M r = some o0) (h1 : M' r = some o) (h2 : ∀ r', r' ≠ r → M' r' = M r') : Rep M' ad (upd H (ad r) o) ∧ Mv M ad H M' ad (upd H (ad r) o) := by
  have k : ∀ r' u, M' r' = some u → ∃ u', M r' = some u' := fun r' u e => by
    by_cases c : r' = r
    · rw [c]; exact ⟨_, h0⟩
    · rw [h2 r' c] at e; exact ⟨_, e⟩
  refine ⟨⟨fun r' u e => ?_, fun r1 r2 u1 u2 e1 e2 z => ?_⟩, fun b u hb e => ?_, fun r' u e => ?_⟩
  · by_cases c : r' = r
    · rw [c, upd_same]; rw [c, h1] at e; exact e
    · rw [h2 r' c] at e
      rw [upd_ne (fun z => c (h.inj _ _ _ _ e h0 z))]; exact h.at_ _ _ e
  · obtain ⟨v1, q1⟩ := k _ _ e1
    obtain ⟨v2, q2⟩ := k _ _ e2
    exact h.inj _ _ _ _ q1 q2 z
  · rw [upd_ne (fun z => hb r _ h0 z.symm)]; exact e
  · obtain ⟨u', q⟩ := k _ _ e
    exact .inl ⟨r', u', q, rfl⟩
theorem Rep.new (h : Rep M ad H) (hp : H p = none) (r : R) (h1 : M' r = some o) (h2 : ∀ r', r' ≠ r → M' r' = M r') (a1 : ad' r = p) (a2 : ∀ r', r' ≠ r → ad' r' = ad r') : Rep M' ad' (upd H p o) ∧ Mv M ad H M' ad' (upd H p o) := by
  refine ⟨⟨fun r' u e => ?_, fun r1 r2 u1 u2 e1 e2 z => ?_⟩, fun b u hb e => ?_, fun r' u e => ?_⟩
  · by_cases c : r' = r
    · rw [c, a1, upd_same]; rw [c, h1] at e; exact e
    · rw [h2 r' c] at e
      have g := h.at_ _ _ e
      rw [a2 r' c, upd_ne (fun z => by rw [z, hp] at g; cases g)]; exact g
  · by_cases c1 : r1 = r
    · by_cases c2 : r2 = r
      · rw [c1, c2]
      · rw [h2 r2 c2] at e2
        have g := h.at_ _ _ e2
        rw [c1, a1, a2 r2 c2] at z
        rw [← z, hp] at g; cases g
    · by_cases c2 : r2 = r
      · rw [h2 r1 c1] at e1
        have g := h.at_ _ _ e1
        rw [c2, a1, a2 r1 c1] at z
        rw [z, hp] at g; cases g
      · rw [h2 r1 c1] at e1
        rw [h2 r2 c2] at e2
        rw [a2 r1 c1, a2 r2 c2] at z
        exact h.inj _ _ _ _ e1 e2 z
  · rw [upd_ne (fun z => by rw [z, hp] at e; cases e)]; exact e
  · by_cases c : r' = r
    · rw [c, a1]; exact .inr hp
    · rw [h2 r' c] at e
      exact .inl ⟨r', u, e, (a2 r' c).symm⟩
/-- a new thing at one place, and a place that tells of it -/
theorem Rep.newset (h : Rep M ad H) (hp : H p = none) (r r0 : R) (hr : r0 ≠ r) (h0 : M r0 = some o0) (h1 : M' r = some o) (h3 : M' r0 = some o1) (h2 : ∀ r', r' ≠ r → r' ≠ r0 → M' r' = M r') (a1 : ad' r = p) (a2 : ∀ r', r' ≠ r → ad' r' = ad r') :
    Rep M' ad' (upd (upd H p o) (ad r0) o1) ∧ Mv M ad H M' ad' (upd (upd H p o) (ad r0) o1) := by
  classical
  obtain ⟨g1, g2⟩ := h.new (M' := fun r' => if r' = r then some o else M r') hp r (if_pos rfl) (fun r' c => if_neg c) a1 a2
  have e0 : (fun r' => if r' = r then some o else M r') r0 = some o0 := (if_neg hr).trans h0
  obtain ⟨g3, g4⟩ := g1.set (M' := M') r0 e0 h3 (fun r' c => by
    by_cases d : r' = r
    · rw [d, h1]; exact (if_pos rfl).symm
    · rw [h2 r' d c]; exact (if_neg d).symm)
  rw [a2 r0 hr] at g3 g4
  exact ⟨g3, g2.trans g4⟩
theorem Rep.old (h : Rep M ad H) (e : Old s l H H') (hs : Out M ad s) (hl : Out M ad l) : Rep M ad H' := ⟨fun r o q => e _ _ (fun z => hs r o q z) (fun z => hl r o q z) (h.at_ r o q), h.inj⟩
theorem Stm.mv {R S : Type} {M : R → Option HO} {ad : R → Addr} {M' : S → Option HO} {ad' : S → Addr} {n : Nat} (st : Stm H s l n) (a : Mv M ad H M' ad' H') (hs : Out M ad s) (hl : Out M ad l) : Stm H' s l n := by
  obtain ⟨ne, ns, x, c, d, g1, g2, g3⟩ := st
  exact ⟨ne, ns, x, c, d, a.keep _ _ hs g1, a.keep _ _ hl g2, g3⟩
end
end RR

set_option Elab.async false
set_option linter.all false
set_option maxRecDepth 100000
set_option maxHeartbeats 0
namespace K17
open PySem PySem.Spec PyProof.Rows L2 RC
section
variable {P : Program} {w : World} {K : PySem.W.Frag} {mg : Str → Option Value} {base : Heap}
/-! ### the model: two yards, what the law keeps of them -/
def strK (ts : List (Str × Str)) : List (Key × V) := ts.map fun e => ((Sum.inr e.1 : Key), V.str e.2)
def txt (ts : List (Str × Str)) (s : Str) : Str := (ts.lookup s).getD ""
def putS (ts : List (Str × Str)) (s t : Str) : List (Str × Str) := if ts.any (fun e => decide (e.1 = s)) = true then ts.map (fun e => if e.1 = s then (e.1, t) else e) else ts ++ [(s, t)]
theorem valV_strK (s : Str) : ∀ ts : List (Str × Str), valV (strK ts) (Sum.inr s) = (ts.lookup s).map V.str
  | [] => rfl
  | e :: es => by
    by_cases h : e.1 = s
    · have h1 : valV (strK (e :: es)) (Sum.inr s) = some (V.str e.2) := valV_pos (p := ((Sum.inr e.1 : Key), V.str e.2)) (r := strK es) (congrArg Sum.inr h)
      rw [h1, List.lookup_cons, beq_iff_eq.mpr h.symm]; rfl
    · have h1 : valV (strK (e :: es)) (Sum.inr s) = valV (strK es) (Sum.inr s) := by
        show valV (((Sum.inr e.1 : Key), V.str e.2) :: strK es) (Sum.inr s) = _
        unfold valV
        rw [List.find?_cons, show decide ((Sum.inr e.1 : Key) = Sum.inr s) = false from decide_eq_false fun z => h (Sum.inr.inj z)]
      rw [h1, List.lookup_cons, show (s == e.1) = false from by simpa using fun z : s = e.1 => h z.symm, valV_strK s es]
theorem putK_strK (ts : List (Str × Str)) (s t : Str) : putK (strK ts) (Sum.inr s) (.str t) = strK (putS ts s t) := by
  unfold putK putS
  have e : (strK ts).any (fun p => decide (p.1 = (Sum.inr s : Key))) = ts.any (fun e => decide (e.1 = s)) := by
    unfold strK
    rw [List.any_map]
    congr 1
    funext e
    exact decide_eq_decide.mpr ⟨fun z => Sum.inr.inj z, fun z => congrArg Sum.inr z⟩
  rw [e]
  split
  · unfold strK
    rw [List.map_map, List.map_map]
    refine List.map_congr_left fun e _ => ?_
    show (if (Sum.inr e.1 : Key) = Sum.inr s then _ else _) = _
    by_cases c : e.1 = s
    · rw [if_pos (congrArg Sum.inr c)]
      show _ = ((Sum.inr (if e.1 = s then (e.1, t) else e).1 : Key), V.str (if e.1 = s then (e.1, t) else e).2)
      rw [if_pos c]
    · rw [if_neg (fun z => c (Sum.inr.inj z))]
      show _ = ((Sum.inr (if e.1 = s then (e.1, t) else e).1 : Key), V.str (if e.1 = s then (e.1, t) else e).2)
      rw [if_neg c]
  · unfold strK; rw [List.map_append]; rfl
theorem putS_length (ts : List (Str × Str)) (s t : Str) : (putS ts s t).length ≤ ts.length + 1 := by
  unfold putS
  split
  · rw [List.length_map]; omega
  · rw [List.length_append]; exact Nat.le_refl _
/-- no text is longer than n, nor are there more of them -/
def Cap (ts : List (Str × Str)) (n : Nat) : Prop := ts.length ≤ n ∧ ∀ e ∈ ts, e.2.length ≤ n
theorem txt_cap {ts : List (Str × Str)} {n : Nat} (c : Cap ts n) (s : Str) : (txt ts s).length ≤ n := by
  unfold txt
  cases e : ts.lookup s with
  | none => exact Nat.zero_le _
  | some t =>
    have hm : ∃ k, (k, t) ∈ ts := by
      clear c
      induction ts with
      | nil => cases e
      | cons a r ih =>
        rw [List.lookup_cons] at e
        split at e
        · cases e; exact ⟨a.1, List.mem_cons_self⟩
        · obtain ⟨k, hk⟩ := ih e; exact ⟨k, List.mem_cons_of_mem _ hk⟩
    obtain ⟨k, hk⟩ := hm
    exact c.2 _ hk
theorem len_app (x y : Str) : (x ++ y).length = x.length + y.length := by
  rw [TL.len_tl, TL.tl_append, List.length_append, ← TL.len_tl, ← TL.len_tl]
theorem app_assoc (x y z : Str) : x ++ y ++ z = x ++ (y ++ z) := by
  refine TL.ext_tl ?_
  rw [TL.tl_append, TL.tl_append, TL.tl_append, TL.tl_append, List.append_assoc]
theorem putS_cap {ts : List (Str × Str)} {n k : Nat} (c : Cap ts n) (s : Str) {t : Str} (ht : t.length ≤ n + k) (hk : 1 ≤ k) : Cap (putS ts s t) (n + k) := by
  refine ⟨Nat.le_trans (putS_length _ _ _) (by have := c.1; omega), fun e he => ?_⟩
  unfold putS at he
  split at he
  · obtain ⟨e', h1, rfl⟩ := List.mem_map.mp he
    split
    · exact ht
    · exact Nat.le_trans (c.2 _ h1) (by omega)
  · rcases List.mem_append.mp he with h | h
    · exact Nat.le_trans (c.2 _ h) (by omega)
    · cases List.mem_singleton.mp h; exact ht
/-- what a handler has: a stream's name, or it emits nothing -/
structure Hd where
  fv : V
  tm : Str
  kd : Option Str
def kdF : Option Str → List (Str × V)
  | some z => [("stream", .str z)]
  | none => []
def kdC (K : PySem.W.Frag) : Option Str → Addr
  | some _ => CRo K
  | none => CNu K
def Hd.F (d : Hd) (fl y : Addr) : List (Str × V) := ([("filters", .ref fl), ("yard", .ref y), ("level", .int 0), ("formatter", d.fv), ("name", .non), ("terminator", .str d.tm), ("closed", .bl false)] : List (Str × V)) ++ kdF d.kd
/-- a yard with streams, handlers of it, what could not be formatted -/
structure FS where
  now : Int
  st : List (Str × Str)
  md : List V
  hs : List Hd
  fr : List (Str × Str)
inductive Ro
  | y | fi | na | nu | md | fr | st
  | h (i : Nat)
  | hl (i : Nat)
  | ft (i : Nat)
  | row (k : Str)
  | x (j : Nat)
def yFs (s : FS) (ad : Ro → Addr) : List (Str × V) := yF s.now (ad .st) (ad .fi) (ad .na) (ad .nu) (ad (.x 2)) (ad .md) (ad (.x 3)) (ad .fr) (ad (.x 4)) (ad (.x 5))
def nms0 (K : PySem.W.Frag) : List (Key × V) := kv_FIRST_NAMES.map fun q => (q.1, q.2.v K)
def nums0 (K : PySem.W.Frag) : List (Key × V) := kv_FIRST_NUMBERS.map fun q => (q.1, q.2.v K)
def frL (n : Nat) (ad : Ro → Addr) : List V := (List.range n).map fun i => V.ref (ad (.ft i))
def Y1 (K : PySem.W.Frag) (s : FS) (ad : Ro → Addr) : Ro → Option HO
  | .y => some (.ins (CY K) (ad (.x 0)) (yFs s ad))
  | .fi => some (.dK [])
  | .na => some (.dK (nms0 K))
  | .nu => some (.dK (nums0 K))
  | .st => some (.dK (strK s.st))
  | .md => some (.lst s.md)
  | .fr => some (.lst (frL s.fr.length ad))
  | .h i => (s.hs[i]?).map fun d => .ins (kdC K d.kd) (ad (.x (9 + i))) (d.F (ad (.hl i)) (ad .y))
  | .hl i => if i < s.hs.length then some (.lst []) else none
  | .ft i => (s.fr[i]?).map fun f => .tup [.str f.1, .str f.2]
  | _ => none
abbrev YR (K : PySem.W.Frag) (s : FS) (ad : Ro → Addr) (H : Hp) : Prop := RR.Rep (Y1 K s ad) ad H
abbrev YM (K : PySem.W.Frag) (s : FS) (ad : Ro → Addr) (H : Hp) (s' : FS) (ad' : Ro → Addr) (H' : Hp) : Prop := RR.Mv (Y1 K s ad) ad H (Y1 K s' ad') ad' H'
section
variable {s : FS} {ad : Ro → Addr} {H : Hp}
theorem _root_.RR.Rep.y_ (R : YR K s ad H) : H (ad .y) = some (.ins (CY K) (ad (.x 0)) (yFs s ad)) := R.at_ .y _ rfl
theorem _root_.RR.Rep.fi_ (R : YR K s ad H) : H (ad .fi) = some (.dK []) := R.at_ .fi _ rfl
theorem _root_.RR.Rep.na_ (R : YR K s ad H) : H (ad .na) = some (.dK (nms0 K)) := R.at_ .na _ rfl
theorem _root_.RR.Rep.nu_ (R : YR K s ad H) : H (ad .nu) = some (.dK (nums0 K)) := R.at_ .nu _ rfl
theorem _root_.RR.Rep.st_ (R : YR K s ad H) : H (ad .st) = some (.dK (strK s.st)) := R.at_ .st _ rfl
theorem _root_.RR.Rep.md_ (R : YR K s ad H) : H (ad .md) = some (.lst s.md) := R.at_ .md _ rfl
theorem _root_.RR.Rep.fr_ (R : YR K s ad H) : H (ad .fr) = some (.lst (frL s.fr.length ad)) := R.at_ .fr _ rfl
theorem _root_.RR.Rep.hS_ (R : YR K s ad H) {i : Nat} {fv : V} {tm z : Str} (h : s.hs[i]? = some ⟨fv, tm, some z⟩) : H (ad (.h i)) = some (.ins (CRo K) (ad (.x (9 + i))) (Hd.F ⟨fv, tm, some z⟩ (ad (.hl i)) (ad .y))) := R.at_ (.h i) _ (by show (s.hs[i]?).map _ = _; rw [h]; rfl)
theorem _root_.RR.Rep.hN_ (R : YR K s ad H) {i : Nat} {fv : V} {tm : Str} (h : s.hs[i]? = some ⟨fv, tm, none⟩) : H (ad (.h i)) = some (.ins (CNu K) (ad (.x (9 + i))) (Hd.F ⟨fv, tm, none⟩ (ad (.hl i)) (ad .y))) := R.at_ (.h i) _ (by show (s.hs[i]?).map _ = _; rw [h]; rfl)
theorem _root_.RR.Rep.h_ (R : YR K s ad H) {i : Nat} {d : Hd} (h : s.hs[i]? = some d) : H (ad (.h i)) = some (.ins (kdC K d.kd) (ad (.x (9 + i))) (d.F (ad (.hl i)) (ad .y))) := R.at_ (.h i) _ (by show (s.hs[i]?).map _ = _; rw [h]; rfl)
theorem _root_.RR.Rep.hl_ (R : YR K s ad H) {i : Nat} (h : i < s.hs.length) : H (ad (.hl i)) = some (.lst []) := R.at_ (.hl i) _ (if_pos h)
theorem _root_.RR.Rep.ft_ (R : YR K s ad H) {i : Nat} {f : Str × Str} (h : s.fr[i]? = some f) : H (ad (.ft i)) = some (.tup [.str f.1, .str f.2]) := R.at_ (.ft i) _ (by show (s.fr[i]?).map _ = _; rw [h]; rfl)
end
/-- all places but those of failures -/
def Fx (ad ad' : Ro → Addr) : Prop := ∀ r, (∀ k, r ≠ .row k) → (∀ k, r ≠ .ft k) → ad' r = ad r
theorem Fx.refl (ad : Ro → Addr) : Fx ad ad := fun _ _ _ => rfl
theorem Fx.trans {a b c : Ro → Addr} (h : Fx a b) (k : Fx b c) : Fx a c := fun r hr hf => (k r hr hf).trans (h r hr hf)
def FS.wr (s : FS) (k t : Str) : FS := { s with st := putS s.st k t }
def FS.setD (s : FS) (i : Nat) (d : Hd) : FS := { s with hs := s.hs.set i d }
def FS.fail (s : FS) (n w : Str) : FS := { s with fr := s.fr ++ [(n, w)] }
theorem lkc (x : Str) (e : Str × Str) (r : List (Str × Str)) : (e :: r).lookup x = if x = e.1 then some e.2 else r.lookup x := by
  rw [List.lookup_cons]
  by_cases d : x = e.1
  · rw [show (x == e.1) = true from beq_iff_eq.mpr d, if_pos d]
  · rw [show (x == e.1) = false from beq_eq_false_iff_ne.mpr d, if_neg d]
theorem lk_map (k t x : Str) : ∀ ts : List (Str × Str), (ts.map fun e => if e.1 = k then (e.1, t) else e).lookup x = if x = k then (ts.lookup x).map (fun _ => t) else ts.lookup x
  | [] => by split <;> rfl
  | e :: r => by
    have ih := lk_map k t x r
    rw [List.map_cons, lkc, lkc, ih]
    by_cases c : e.1 = k
    · rw [if_pos c]
      by_cases d : x = k
      · have d2 : x = e.1 := d.trans c.symm
        rw [if_pos d2, if_pos d, if_pos d2]; rfl
      · have d2 : ¬ x = e.1 := fun z => d (z.trans c)
        rw [if_neg d2, if_neg d, if_neg d, if_neg d2]
    · rw [if_neg c]
      by_cases d : x = k
      · have d2 : ¬ x = e.1 := fun z => c (z.symm.trans d)
        rw [if_neg d2, if_pos d, if_pos d, if_neg d2]
      · rw [if_neg d, if_neg d]
theorem lk_any (k : Str) : ∀ ts : List (Str × Str), ts.any (fun e => decide (e.1 = k)) = (ts.lookup k).isSome
  | [] => rfl
  | e :: r => by
    rw [List.any_cons, lkc, lk_any k r]
    by_cases c : e.1 = k
    · rw [decide_eq_true c, if_pos c.symm]; rfl
    · rw [decide_eq_false c, if_neg (fun z => c z.symm)]; rfl
theorem lk_app (x : Str) (b : Str × Str) : ∀ ts : List (Str × Str), (ts ++ [b]).lookup x = (ts.lookup x).or (if x = b.1 then some b.2 else none)
  | [] => by
    rw [List.nil_append, lkc]; rfl
  | e :: r => by
    rw [List.cons_append, lkc, lkc, lk_app x b r]
    by_cases d : x = e.1
    · rw [if_pos d, if_pos d]; rfl
    · rw [if_neg d, if_neg d]
theorem lookup_putS (ts : List (Str × Str)) (k t x : Str) : (putS ts k t).lookup x = if x = k then some t else ts.lookup x := by
  unfold putS
  rw [lk_any]
  cases e : ts.lookup k with
  | some u =>
    rw [if_pos (show (some u).isSome = true from rfl), lk_map]
    by_cases d : x = k
    · rw [if_pos d, if_pos d, d, e]; rfl
    · rw [if_neg d, if_neg d]
  | none =>
    rw [if_neg (show ¬ (none : Option Str).isSome = true by decide), lk_app]
    by_cases d : x = k
    · rw [if_pos d, if_pos d, d, e]; rfl
    · rw [if_neg d, if_neg d]; cases ts.lookup x <;> rfl
theorem rep_sub {R : Type} {M M' : R → Option HO} {ad : R → Addr} {H : Hp} (h : RR.Rep M ad H) (k : ∀ r o, M' r = some o → M r = some o) : RR.Rep M' ad H ∧ RR.Mv M ad H M' ad H :=
  ⟨⟨fun r o e => h.at_ r o (k r o e), fun r r' o o' e e' z => h.inj r r' o o' (k _ _ e) (k _ _ e') z⟩, ⟨fun _ _ _ e => e, fun r u e => .inl ⟨r, u, k r u e, rfl⟩⟩⟩
theorem _root_.RR.Rep.wr {s : FS} {ad : Ro → Addr} {H : Hp} (R : YR K s ad H) (k t : Str) : YR K (s.wr k t) ad (upd H (ad .st) (.dK (putK (strK s.st) (Sum.inr k) (.str t)))) ∧ YM K s ad H (s.wr k t) ad (upd H (ad .st) (.dK (putK (strK s.st) (Sum.inr k) (.str t)))) :=
  RR.Rep.set (M' := Y1 K (s.wr k t) ad) (o := .dK (putK (strK s.st) (Sum.inr k) (.str t))) R .st rfl (congrArg (fun z => some (HO.dK z)) (putK_strK s.st k t).symm) (fun r hr => by cases r <;> first | rfl | exact absurd rfl hr)
section
variable {s : FS} {ad : Ro → Addr} {H : Hp}
theorem _root_.RR.Rep.setD (R : YR K s ad H) {i : Nat} {d0 : Hd} (h : s.hs[i]? = some d0) (d : Hd) : YR K (s.setD i d) ad (upd H (ad (.h i)) (.ins (kdC K d.kd) (ad (.x (9 + i))) (d.F (ad (.hl i)) (ad .y)))) ∧ YM K s ad H (s.setD i d) ad (upd H (ad (.h i)) (.ins (kdC K d.kd) (ad (.x (9 + i))) (d.F (ad (.hl i)) (ad .y)))) := by
  have hl : i < s.hs.length := (List.getElem?_eq_some_iff.mp h).1
  refine RR.Rep.set R (.h i) (show (s.hs[i]?).map _ = _ by rw [h]; rfl) ?_ fun r hr => ?_
  · show ((s.hs.set i d)[i]?).map _ = _
    rw [List.getElem?_set_self hl]; rfl
  · cases r with
    | h j =>
      have c : j ≠ i := fun z => hr (by rw [z])
      show ((s.hs.set i d)[j]?).map _ = _
      rw [List.getElem?_set_ne (Ne.symm c)]; rfl
    | hl j => show (if j < (s.hs.set i d).length then _ else _) = _; rw [List.length_set]; rfl
    | _ => rfl
/-- a failure is kept: its tuple at p -/
def adT (ad : Ro → Addr) (n : Nat) (p : Addr) : Ro → Addr
  | .ft i => if i = n then p else ad (.ft i)
  | r => ad r
theorem fx_adT (ad : Ro → Addr) (n : Nat) (p : Addr) : Fx ad (adT ad n p) := fun r _ hr => by
  cases r with
  | ft x => exact absurd rfl (hr x)
  | _ => rfl
theorem frL_snoc (n : Nat) (ad : Ro → Addr) (p : Addr) : frL (n + 1) (adT ad n p) = frL n ad ++ [.ref p] := by
  unfold frL
  rw [List.range_succ, List.map_append]
  congr 1
  · refine List.map_congr_left fun i hi => ?_
    have := List.mem_range.mp hi
    show V.ref (if i = n then p else ad (.ft i)) = _
    rw [if_neg (by omega)]
  · show [V.ref (if n = n then p else ad (.ft n))] = _
    rw [if_pos rfl]
theorem _root_.RR.Rep.fail {p : Addr} (R : YR K s ad H) (n w : Str) (hp : H p = none) : YR K (s.fail n w) (adT ad s.fr.length p) (upd (upd H p (.tup [.str n, .str w])) (ad .fr) (.lst (frL s.fr.length ad ++ [.ref p]))) ∧
    YM K s ad H (s.fail n w) (adT ad s.fr.length p) (upd (upd H p (.tup [.str n, .str w])) (ad .fr) (.lst (frL s.fr.length ad ++ [.ref p]))) := by
  refine RR.Rep.newset (M' := Y1 K (s.fail n w) (adT ad s.fr.length p)) (ad' := adT ad s.fr.length p) R hp (.ft s.fr.length) .fr (fun h => nomatch h) rfl ?_ ?_ (fun r h1 h2 => ?_) (if_pos rfl) (fun r hr => ?_)
  · show ((s.fr ++ [(n, w)])[s.fr.length]?).map _ = _
    rw [List.getElem?_append_right (Nat.le_refl _), Nat.sub_self]; rfl
  · show some (HO.lst (frL (s.fr ++ [(n, w)]).length _)) = _
    rw [List.length_append]
    exact congrArg (fun z => some (HO.lst z)) (frL_snoc s.fr.length ad p)
  · cases r with
    | ft x =>
      have c : x ≠ s.fr.length := fun z => h1 (by rw [z])
      show ((s.fr ++ [(n, w)])[x]?).map _ = (s.fr[x]?).map _
      by_cases l : x < s.fr.length
      · rw [List.getElem?_append_left l]
      · rw [List.getElem?_append_right (by omega), List.getElem?_eq_none (l := [(n, w)]) (by show 1 ≤ _; omega), List.getElem?_eq_none (l := s.fr) (by omega)]
    | fr => exact absurd rfl h2
    | _ => rfl
  · cases r with
    | ft x => exact if_neg fun z => hr (by rw [z])
    | _ => rfl
end
theorem yes_if {σ : L2.St} {H : Hp} {A B : Hp → Prop} (h : A H) : tYes σ H (fun b H3 => if b = true then A H3 else B H3) := by
  show if true = true then A H else B H
  rw [if_pos rfl]; exact h
end
end K17

set_option Elab.async false
set_option linter.all false
set_option maxRecDepth 100000
set_option maxHeartbeats 0

namespace K17
open PySem PySem.Spec PyProof.Rows L2 RC
section
variable {P : Program} {w : World} {K : PySem.W.Frag} {mg : Str → Option Value} {base : Heap}
/-! ### streams of a yard, its files (none), its failures -/
theorem upd_self {H : Hp} {a : Addr} {o : HO} (h : H a = some o) : upd H a o = H := by
  funext b
  by_cases c : b = a
  · rw [c, upd_same]; exact h.symm
  · rw [upd_ne c]
theorem merge_nil : ∀ (more kvs : List (Key × V)), (∀ e ∈ more, ∀ g ∈ kvs, g.1 ≠ e.1) → (more.map (·.1)).Nodup → mergeK kvs more = kvs ++ more
  | [], kvs, _, _ => (List.append_nil _).symm
  | e :: r, kvs, h, nd => by
    have hp : putK kvs e.1 e.2 = kvs ++ [e] := by
      unfold putK
      have : kvs.any (fun p => decide (p.1 = e.1)) = false := by
        rw [List.any_eq_false]
        intro g hg
        rw [decide_eq_false (h e List.mem_cons_self g hg)]
        decide
      rw [this]; rfl
    show mergeK (putK kvs e.1 e.2) r = _
    obtain ⟨n1, n2⟩ := List.nodup_cons.mp nd
    rw [hp, merge_nil r (kvs ++ [e]) (fun g hg f hf => ?_) n2, List.append_assoc]; · rfl
    rcases List.mem_append.mp hf with k | k
    · exact h g (List.mem_cons_of_mem _ hg) f k
    · rw [List.mem_singleton.mp k]
      exact fun z => n1 (by show e.1 ∈ _; rw [z]; exact List.mem_map_of_mem hg)
theorem lk_nd : ∀ {ts : List (Str × Str)}, (ts.map (·.1)).Nodup → ∀ {e : Str × Str}, e ∈ ts → ts.lookup e.1 = some e.2
  | [], _, _, h => by cases h
  | a :: r, nd, e, h => by
    obtain ⟨n1, n2⟩ := List.nodup_cons.mp nd
    rw [lkc]
    rcases List.mem_cons.mp h with rfl | h
    · rw [if_pos rfl]
    · rw [if_neg (fun z => n1 (by show a.1 ∈ _; rw [← z]; exact List.mem_map_of_mem h))]; exact lk_nd n2 h
theorem pr_snoc {α β : Type} {F : α → β → Prop} {a : α} {b : β} (h : F a b) : ∀ {xs : List α} {ys : List β}, Paired F xs ys → Paired F (xs ++ [a]) (ys ++ [b])
  | _, _, .nil => .cons h .nil
  | _, _, .cons r t => .cons r (pr_snoc h t)
theorem strK_keys (ts : List (Str × Str)) (nd : (ts.map (·.1)).Nodup) : ((strK ts).map (·.1)).Nodup := by
  have e : (strK ts).map (·.1) = (ts.map (·.1)).map (Sum.inr : Str → Key) := by unfold strK; rw [List.map_map, List.map_map]; rfl
  rw [e]
  exact List.Pairwise.map _ (fun a b h z => h (Sum.inr.inj z)) nd
def spFiles (K : PySem.W.Frag) : Sp := fun vs H Q _ => ∃ (s : FS) (ad : Ro → Addr), vs = [.ref (ad .y)] ∧ YR K s ad H ∧ ∀ (p : Addr) (H' : Hp), Same H H' → H p = none → H' p = some (.dK []) → Q (.ref p) H'
theorem ok_files {f : Addr} (T : Txt P w K mg) (F : Stands K "files" "Yard.files" s_Yard_files [] f) : Callable P w K mg base 2 f ["self"] [] (spFiles K) := by
  refine F.call0 sc_Yard_files (fun vs H Q E h => ?_) (fun cdv A outer s0 H vs Q E hr h => ?_) (fun _ _ _ _ _ _ us hl => match us, hl with | [_], _ => rfl)
  · obtain ⟨s, ad, rfl, _⟩ := h; rfl
  obtain ⟨s, ad, rfl, R, hQ⟩ := h
  refine ⟨_, (pss_one (ps_ret (pe_callTy (call_dictP rfl) (by rfl) T.b_dict (by decide +kernel) (pa_cons (pe_lock (pe_lc (own := [("name", 1)]) (by rfl) sc_Yard_files.nd (pi_keys (pe_fld (pv 0) rfl)) (blkOk_by (own := [("name", 1)]) (N := nm_Yard_files) (sc := defScope s_Yard_files) (by decide +kernel)) (fun _ _ _ _ _ => (pg_name (i := 1) sc_Yard_files.nd rfl (by first | exact Or.inl rfl | exact Or.inr rfl))) (fun _ _ _ _ _ => pts_nil) (fun _ _ _ _ _ => (pe_tup (pa_cons (pv 1) (pa_cons pe_never pa_nil)))))) pa_nil)))), ?_⟩
  walk_at "in"
  have hy := R.y_
  have hst := R.fi_
  refine ⟨ad .fi, _, hst, trivial, fun od => ?_⟩
  have k0 : upd H (ad .fi) (.frz od (.dK [])) (ad .fi) = some (.frz od (.dK [])) := upd_same
  have hy0 : upd H (ad .fi) (.frz od (.dK [])) (ad .y) = some (.ins (CY K) (ad (.x 0)) (yFs s ad)) := by rw [upd_ne (RW.ne_kind hy hst (fun z => nomatch z))]; exact hy
  walk_at "go"
  refine .inl ⟨_, k0, fun D hD => ?_⟩
  refine lc_it walk_keys (fun i H' => H' = upd (upd H (ad .fi) (.frz od (.dK []))) D (.lst [])) rfl (fun i H' _ h => ?_) (fun i x H' H'' hi => nomatch hi) (fun H' h => ?_)
  · subst h; rw [upd_ne (Ne.symm (upd_none hD).1)]; exact upd_same
  · subst h
    refine ⟨by rw [upd_ne (Ne.symm (upd_none hD).1)]; exact upd_same, ?_⟩
    rw [unlock hst hD]
    have hD3 := (upd_none hD).2
    refine ⟨D, [], [], rfl, SqL.of upd_same, .nil, fun p fp => ?_⟩
    exact hQ p _ ((same_new hD3 _).trans (same_new fp _)) (upd_none fp).2 upd_same
def spText (K : PySem.W.Frag) : Sp := fun vs H Q _ => ∃ (s : FS) (ad : Ro → Addr) (k : Str), vs = [.ref (ad .y), .str k] ∧ YR K s ad H ∧ Q (.str (txt s.st k)) H
theorem ok_text {f : Addr} (T : Txt P w K mg) (F : Stands K "text" "Yard.text" s_Yard_text [] f) : Callable P w K mg base 1 f ["self", "stream"] [] (spText K) := by
  refine F.call0 sc_Yard_text (fun vs H Q E h => ?_) (fun cdv A outer s0 H vs Q E hr h => ?_) (fun _ _ _ _ _ _ us hl => match us, hl with | [_, _], _ => rfl)
  · obtain ⟨s, ad, k, rfl, _⟩ := h; rfl
  obtain ⟨s, ad, k, rfl, R, hQ⟩ := h
  refine ⟨_, (pss_one (ps_ret (pe_dget2 (hu_of hr) (pe_fld (pv 0) rfl) (pv 1) pe_str ⟨rfl, rfl, rfl, rfl⟩))), ?_⟩
  walk_at "in"
  have hy := R.y_
  have hf := R.st_
  unfold txt at hQ
  cases e : s.st.lookup k with
  | none =>
    rw [e] at hQ
    have hv : valV (strK s.st) (Sum.inr k) = none := by rw [valV_strK, e]; rfl
    walk_at "go"
    exact hQ
  | some t =>
    rw [e] at hQ
    have hv : valV (strK s.st) (Sum.inr k) = some (.str t) := by rw [valV_strK, e]; rfl
    walk_at "go"
    exact hQ
def spWrite (K : PySem.W.Frag) : Sp := fun vs H Q _ => ∃ (s : FS) (ad : Ro → Addr) (k t : Str), vs = [.ref (ad .y), .str k, .str t] ∧ YR K s ad H ∧ s.st.length ≤ 1000 ∧ (txt s.st k).length ≤ 8000000 ∧ t.length ≤ 1000000 ∧ ∀ H', YR K (s.wr k (txt s.st k ++ t)) ad H' → YM K s ad H (s.wr k (txt s.st k ++ t)) ad H' → Q .non H'
theorem ok_write {f : Addr} (T : Txt P w K mg) (F : Stands K "write_stream" "Yard.write_stream" s_Yard_write_stream [] f) (c_Yard_text : Callable P w K mg base 1 (He.ma K (He.ga K "Yard") "text") ["self", "stream"] [] (spText K)) : Callable P w K mg base 2 f ["self", "name", "text"] [] (spWrite K) := by
  refine F.call0 sc_Yard_write_stream (fun vs H Q E h => ?_) (fun cdv A outer s0 H vs Q E hr h => ?_) (fun _ _ _ _ _ _ us hl => match us, hl with | [_, _, _], _ => rfl)
  · obtain ⟨s, ad, k, t, rfl, _⟩ := h; rfl
  obtain ⟨s, ad, k, t, rfl, R, hl, hc, ht, hQ⟩ := h
  refine ⟨_, (pss_one (ps_dput (hu_of hr) (pe_fld (pv 0) rfl) (pv 1) (pe_op op_add_str (pe_mt T.c_Yard T.m_Yard_text c_Yard_text (hr.mono (by first | decide | exact Nat.le_refl _)) (pv 0) (pa_cons (pv 1) pa_nil)) (pv 2)) rfl)), ?_⟩
  walk_at "in"
  have hy := R.y_
  have hf := R.st_
  have l1 : (txt s.st k).length + t.length ≤ sizeLine := by rw [sizeLine_eq]; omega
  have hsz : (strK s.st).length < sizeLine := by unfold strK; rw [List.length_map, sizeLine_eq]; omega
  obtain ⟨R1, M1⟩ := R.wr k (txt s.st k ++ t)
  walk_at "go"
  exact hQ _ R1 M1
/-! ### the names of the streams -/
def liveS (ts : List (Str × Str)) : List Str := (ts.filter fun e => !decide (e.2 = ("" : Str))).map (·.1)
def spStreams (K : PySem.W.Frag) : Sp := fun vs H Q _ => ∃ (m : FS) (ad : Ro → Addr), vs = [.ref (ad .y)] ∧ YR K m ad H ∧ m.st.length < 64 ∧ (m.st.map (·.1)).Nodup ∧ ∀ (H' : Hp) (p : Addr) (ys : List Str), Same H H' → H p = none → H' p = some (.lst (ys.map V.str)) → ys.Perm (liveS m.st) → sortedS ys = true → Q (.ref p) H'
theorem ok_streams {f : Addr} (T : Txt P w K mg) (F : Stands K "streams" "Yard.streams" s_Yard_streams [] f) : Callable P w K mg base 1 f ["self"] [] (spStreams K) := by
  refine F.call0 sc_Yard_streams (fun vs H Q E h => ?_) (fun cdv A outer s H vs Q E hr h => ?_) (fun _ _ _ _ _ _ us hl => match us, hl with | [_], _ => rfl)
  · obtain ⟨m, ad, rfl, _⟩ := h; rfl
  obtain ⟨m, ad, rfl, R, h64, nd, hQ⟩ := h
  refine ⟨_, (pss_one (ps_ret (pe_callB cr_sortedS (by rfl) T.b_sorted (by decide +kernel) (pa_cons (pe_lock (pe_lc (own := [("name", 1)]) (by rfl) sc_Yard_streams.nd (pi_keys (pe_fld (pv 0) rfl)) (blkOk_by (own := [("name", 1)]) (N := nm_Yard_streams) (sc := defScope s_Yard_streams) (by decide +kernel)) (fun _ _ _ _ _ => (pg_name (i := 1) sc_Yard_streams.nd rfl (by first | exact Or.inl rfl | exact Or.inr rfl))) (fun _ _ _ _ _ => (pts_one (pt_cmpR op_ne (pe_dget (hu_of hr) (pe_fldK (K := K) (pv 0) rfl) (pv 1) (fun _ _ => rfl)) pe_str (nomark _)))) (fun _ _ _ _ _ => (pv 1)))) pa_nil)))), ?_⟩
  walk_at "in"
  have hy := R.y_
  have hst := R.st_
  walk_at "go"
  refine ⟨hst, trivial, fun od => ?_⟩
  have k0 : upd H (ad .st) (.frz od (.dK (strK m.st))) (ad .st) = some (.frz od (.dK (strK m.st))) := upd_same
  have nys : ad .y ≠ ad .st := RW.ne_kind hy hst (fun z => nomatch z)
  have hy0 : upd H (ad .st) (.frz od (.dK (strK m.st))) (ad .y) = some (.ins (CY K) (ad (.x 0)) (yFs m ad)) := by rw [upd_ne nys]; exact hy
  have fr0 : ∀ b, upd H (ad .st) (.frz od (.dK (strK m.st))) b = none → H b = none := fun b h => (upd_none h).2
  have back : ∀ H', Same (upd H (ad .st) (.frz od (.dK (strK m.st)))) H' → Same H (upd H' (ad .st) (.dK (strK m.st))) := fun H' s b o e => by
    by_cases c : b = ad .st
    · rw [c, upd_same]; rw [c, hst] at e; exact e
    · rw [upd_ne c]; exact s _ _ (by rw [upd_ne c]; exact e)
  generalize upd H (ad .st) (.frz od (.dK (strK m.st))) = H0 at k0 hy0 fr0 back
  walk_at "go"
  refine .inl ⟨_, k0, fun D hD => ?_⟩
  have hD0 : H0 D = none := hD
  have nD : D ≠ ad .st := fun z => by rw [z, k0] at hD0; cases hD0
  refine lc_it walk_keys (fun i H' => Same H0 H' ∧ H' D = some (.lst ((liveS (m.st.take i)).map V.str))) ⟨same_new hD _, upd_same⟩ (fun i H' _ h => h.1 _ _ k0) (fun i x H9 H2 hi hP hx => ?_) (fun H2 hP => ?_)
  · obtain ⟨rfl, kx, vx, hx, rfl⟩ := hx
    obtain ⟨s2, d2⟩ := hP
    unfold strK at hx
    rw [List.getElem?_map] at hx
    obtain ⟨e, he0, hee⟩ := Option.map_eq_some_iff.mp hx
    cases hee
    have he : e ∈ m.st := List.mem_of_getElem? he0
    have hy2 := s2 _ _ hy0
    have k2 := s2 _ _ k0
    have rd2 : Rd H2 (ad .st) (.dK (strK m.st)) := .inr ⟨od, k2⟩
    have vv : valV (strK m.st) (Sum.inr e.1) = some (.str e.2) := (valV_strK e.1 m.st).trans (congrArg (Option.map V.str) (lk_nd nd he))
    have etk := List.take_add_one (l := m.st) (i := i)
    rw [he0] at etk
    have ln : ((liveS (m.st.take i)).map V.str).length < sizeLine := by
      have h1 := List.length_filter_le (fun e => !decide (e.2 = ("" : Str))) (m.st.take i)
      have h2 : (m.st.take i).length ≤ m.st.length := by rw [List.length_take]; exact Nat.min_le_right _ _
      unfold liveS
      rw [List.length_map, List.length_map, sizeLine_eq]; omega
    have el : liveS (m.st.take (i + 1)) = liveS (m.st.take i) ++ if e.2 = "" then [] else [e.1] := by
      unfold liveS
      rw [etk, List.filter_append, List.map_append]
      congr 1
      by_cases c : e.2 = ""
      · simp [c]
      · rw [if_neg c]; simp [c]
    by_cases c : e.2 = ""
    · rw [if_pos c, List.append_nil] at el
      rw [el]
      walk_at "go"
      exact d2
    · rw [if_neg c] at el
      rw [el]
      walk_at "go"
      rw [upd_same, List.map_append]; rfl
  · obtain ⟨s2, d2⟩ := hP
    refine ⟨s2 _ _ k0, ?_⟩
    have b2 := back _ s2
    have d3 : upd H2 (ad .st) (.dK (strK m.st)) D = some (.lst ((liveS (m.st.take (strK m.st).length)).map V.str)) := by rw [upd_ne nD]; exact d2
    rw [show (strK m.st).length = m.st.length from List.length_map _, List.take_length] at d3
    refine ⟨D, liveS m.st, rfl, SqL.of d3, ?_, fun ys p hp hs hn => ?_⟩
    · have h1 := List.length_filter_le (fun e => !decide (e.2 = ("" : Str))) m.st
      unfold liveS
      rw [List.length_map]; omega
    · exact hQ _ p ys (b2.trans (same_new hn _)) (b2.free hn) upd_same hp hs

def spFails (K : PySem.W.Frag) : Sp := fun vs H Q _ => ∃ (s : FS) (ad : Ro → Addr), vs = [.ref (ad .y)] ∧ YR K s ad H ∧ ∀ (p : Addr), H p = none → Q (.ref p) (upd H p (.lst (frL s.fr.length ad)))
theorem ok_fails {f : Addr} (T : Txt P w K mg) (F : Stands K "failures" "Yard.failures" s_Yard_failures [] f) : Callable P w K mg base 1 f ["self"] [] (spFails K) := by
  refine F.call0 sc_Yard_failures (fun vs H Q E h => ?_) (fun cdv A outer s0 H vs Q E hr h => ?_) (fun _ _ _ _ _ _ us hl => match us, hl with | [_], _ => rfl)
  · obtain ⟨s, ad, rfl, _⟩ := h; rfl
  obtain ⟨s, ad, rfl, R, hQ⟩ := h
  refine ⟨_, (pss_one (ps_ret (pe_callTy call_list_of (by rfl) T.b_list (by decide +kernel) (pa_cons (pe_fld (pv 0) rfl) pa_nil)))), ?_⟩
  walk_at "in"
  have hy := R.y_
  have hf := R.fr_
  refine ⟨_, rfl, ad .y, _, _, _, _, rfl, hy, T.c_Yard, T.n_Yard_failure_rows, rfl, ?_⟩
  exact ⟨ad .fr, _, rfl, .inl (SqL.of hf), fun p fp => hQ p fp⟩
def spKeep (K : PySem.W.Frag) : Sp := fun vs H Q _ => ∃ (s : FS) (ad : Ro → Addr) (n w : Str), vs = [.ref (ad .y), .str n, .str w] ∧ YR K s ad H ∧ s.fr.length ≤ 1000000 ∧ ∀ ad' H', YR K (s.fail n w) ad' H' → YM K s ad H (s.fail n w) ad' H' → Fx ad ad' → Q .non H'
theorem ok_keep {f : Addr} (T : Txt P w K mg) (F : Stands K "keep_failure" "Yard.keep_failure" s_Yard_keep_failure [] f) : RI.CallI P w K mg base 1 f ["self", "name", "word"] (spKeep K) := by
  refine RI.stands_callI F sc_Yard_keep_failure (fun vs H Q E h => ?_) (fun cdv A outer s0 H vs Q p0 hr h => ?_) (fun _ _ _ _ _ _ us hl => match us, hl with | [_, _, _], _ => rfl)
  · obtain ⟨s, ad, n, w, rfl, _⟩ := h; rfl
  obtain ⟨s, ad, n, w, rfl, R, hl, hQ⟩ := h
  refine ⟨_, (pss_one (ps_expr (pe_bm PySem.F.plainAttrs_list PySem.F.slot_list_append PySem.F.type_list_append mt_append (pe_fld (pv 0) rfl) (pa_cons (pe_tup (pa_cons (pv 1) (pa_cons (pv 2) pa_nil))) pa_nil)))), ?_⟩
  dsimp only [cxK3]
  have hy := R.y_
  have hf := R.fr_
  have hll : (frL s.fr.length ad).length < sizeLine := by unfold frL; rw [List.length_map, List.length_range, sizeLine_eq]; omega
  walk_at "go"
  intro p fp
  obtain ⟨R1, M1⟩ := R.fail n w fp
  have hf1 := same_new fp (.tup [.str n, .str w]) _ _ hf
  have hy1 := same_new fp (.tup [.str n, .str w]) _ _ hy
  walk_at "go"
  exact hQ _ _ R1 M1 (fx_adT ad s.fr.length p)
end
end K17

set_option Elab.async false
set_option linter.all false
set_option maxRecDepth 100000
set_option maxHeartbeats 0
namespace K17
open PySem PySem.Spec PyProof.Rows L2 RC
section
variable {P : Program} {w : World} {K : PySem.W.Frag} {mg : Str → Option Value} {base : Heap}
/-- what never changes, apart from a yard -/
structure Ap (K : PySem.W.Frag) (s : FS) (ad : Ro → Addr) (G H : Hp) : Prop where
  sm : Same G H
  out : ∀ b o, G b = some o → RR.Out (Y1 K s ad) ad b
theorem Ap.mv {s s' : FS} {ad ad' : Ro → Addr} {G H H' : Hp} (a : Ap K s ad G H) (M : YM K s ad H s' ad' H') : Ap K s' ad' G H' := ⟨fun b o e => M.keep _ _ (a.out b o e) (a.sm b o e), fun b o e => M.out (a.out b o e) (a.sm b o e)⟩
theorem Ap.same {s : FS} {ad : Ro → Addr} {G H H' : Hp} (a : Ap K s ad G H) (e : Same H H') : Ap K s ad G H' := ⟨a.sm.trans e, a.out⟩
end
end K17

set_option Elab.async false
set_option linter.all false
set_option maxRecDepth 100000
set_option maxHeartbeats 0

namespace K17
open PySem PySem.Spec PyProof.Rows L2 RC
section
variable {P : Program} {w : World} {K : PySem.W.Frag} {mg : Str → Option Value} {base : Heap}
/-! ### the text of a record for a handler -/
def FormV (K : PySem.W.Frag) (H : Hp) : Option (List (Str ⊕ Str)) → V → Prop
  | none, v => v = .non
  | some ps, v => ∃ m, v = .ref m ∧ FmAt K H m ps ∧ PsOk ps
theorem FormV.same {H H' : Hp} (s : Same H H') : ∀ {fo : Option (List (Str ⊕ Str))} {v : V}, FormV K H fo v → FormV K H' fo v
  | none, _, h => h
  | some _, _, ⟨m, h1, h2, h3⟩ => ⟨m, h1, h2.same s, h3⟩
inductive HfO (d : Rc) : Option (List (Str ⊕ Str)) → TxO → Prop
  | msgT {t : SS} : MsgO d (some t) → HfO d none (.tx t)
  | msgE : MsgO d none → HfO d none .msg
  | fm {ps : List (Str ⊕ Str)} {o : TxO} : FmO d ps o → HfO d (some ps) o
def spFormatted (K : PySem.W.Frag) : Sp := fun vs H Q E => ∃ (h dh r : Addr) (fs : List (Str × V)) (d : Rc) (fo : Option (List (Str ⊕ Str))) (fv : V) (o : TxO), vs = [.ref h, .ref r] ∧ H h = some (.ins (CRo K) dh fs) ∧ fs.lookup ("formatter" : Str) = some fv ∧ FormV K H fo fv ∧ RcAt K H r d ∧ d.Ok ∧ HfO d fo o ∧ TxtO K H Q E d o
theorem ok_formatted {f : Addr} (T : Txt P w K mg) (F : Stands K "formatted" "Handler.formatted" s_Handler_formatted [] f) (c_LogRecord_message : RH.CallN P w K mg base 5 (He.ma K (He.ga K "LogRecord") "message") ["self"] [] (spMessage K))
    (c_Formatter_formatted : RQ.CallX P w K mg base 8 (He.ma K (He.ga K "Formatter") "formatted") ["self", "record"] [] (spFmFormatted K)) : RQ.CallX P w K mg base 9 f ["self", "record"] [] (spFormatted K) := by
  refine RQ.stands_callX0 F sc_Handler_formatted (fun vs H Q E h => ?_) (fun cdv A outer s H vs Q E hr h => ?_) (fun _ _ _ _ _ _ us hl => match us, hl with | [_, _], _ => rfl)
  · obtain ⟨h, dh, r, fs, d, fo, fv, o, rfl, _⟩ := h; rfl
  obtain ⟨h, dh, r, fs, d, fo, fv, o, rfl, hh, hf, hF, hR, hok, hO, hQ, hEm, hEf⟩ := h
  obtain ⟨dx, g, e, hr1, hg, he⟩ := id hR
  refine ⟨_, (pss_one (ps_ret (pe_ifExp (pt_cmpR op_isN (pe_fld (pv 0) rfl) pe_non (nomark _)) (RH.pe_mtX0 (takes_of rfl rfl rfl rfl) T.c_LogRecord T.m_LogRecord_message c_LogRecord_message.toX (hr.mono (by first | decide | exact Nat.le_refl _)) (pv 1)) (RQ.pe_mtX (takes_of rfl rfl rfl rfl) T.c_Formatter T.m_Formatter_formatted c_Formatter_formatted (hr.mono (by first | decide | exact Nat.le_refl _)) (pe_fld (pv 0) rfl) (pa_cons (pv 1) pa_nil))))), ?_⟩
  dsimp only [cxK2]
  cases fo with
  | none =>
    cases hF
    obtain ⟨oM, hMo, h1, h2⟩ : ∃ oM, MsgO d oM ∧ (∀ t, oM = some t → o = .tx t) ∧ (oM = none → o = .msg) := by
      cases hO with
      | @msgT t h => exact ⟨some t, h, fun _ e => by cases e; rfl, fun e => nomatch e⟩
      | msgE h => exact ⟨none, h, (fun _ e => nomatch e), fun _ => rfl⟩
    walk_at "go"
    refine ⟨fun t H' ho s => ?_, fun ho => hEm (h2 ho)⟩
    subst ho
    have := msgO_len hMo hok
    exact hQ t H' (h1 t rfl) (by omega) s
  | some ps =>
    obtain ⟨m, rfl, hFm, hps⟩ := hF
    cases hO with
    | fm hO =>
      obtain ⟨dm, t, df, sy, z, vs, hm, _⟩ := id hFm
      walk_at "go"
      first | exact ⟨hQ, hEm, hEf⟩ | exact hEf
/-- what becomes of a yard behind a record without a text -/
def FS.fl (s : FS) (o : TxO) (nm : Str) : FS := match o with
  | .tx _ => s
  | .msg => s.fail nm "message"
  | .fld _ => s.fail nm "field"
theorem fl_hs (s : FS) (o : TxO) (nm : Str) : (s.fl o nm).hs = s.hs := by cases o <;> rfl
theorem fl_st (s : FS) (o : TxO) (nm : Str) : (s.fl o nm).st = s.st := by cases o <;> rfl
def spTextOf (K : PySem.W.Frag) : Sp := fun vs H Q _ => ∃ (s : FS) (ad : Ro → Addr) (i : Nat) (d : Hd) (G : Hp) (r : Addr) (rc : Rc) (fo : Option (List (Str ⊕ Str))) (o : TxO), vs = [.ref (ad (.h i)), .ref r] ∧ YR K s ad H ∧ s.hs[i]? = some d ∧ (∃ z, d.kd = some z) ∧ Ap K s ad G H ∧
  FormV K G fo d.fv ∧ RcAt K G r rc ∧ rc.Ok ∧ HfO rc fo o ∧ s.fr.length ≤ 1000000 ∧ (∀ (t : SS) (H' : Hp), o = .tx t → t.length ≤ 12000000 → Same H H' → Q (.str (tx t)) H') ∧ (∀ ad' H', (∀ t, o ≠ .tx t) → YR K (s.fl o rc.name) ad' H' → YM K s ad H (s.fl o rc.name) ad' H' → Fx ad ad' → Q .non H')
theorem ok_text_of {f : Addr} (T : Txt P w K mg) (F : Stands K "text_of" "Handler.text_of" s_Handler_text_of [] f) (c_StreamHandler_formatted : RQ.CallX P w K mg base 9 (He.ma K (He.ga K "StreamHandler") "formatted") ["self", "record"] [] (spFormatted K))
    (i_Yard_keep_failure : RI.CallI P w K mg base 1 (He.ma K (He.ga K "Yard") "keep_failure") ["self", "name", "word"] (spKeep K)) : Callable P w K mg base 10 f ["self", "record"] [] (spTextOf K) := by
  refine F.call0 sc_Handler_text_of (fun vs H Q E h => ?_) (fun cdv A outer s0 H vs Q E hr h => ?_) (fun _ _ _ _ _ _ us hl => match us, hl with | [_, _], _ => rfl)
  · obtain ⟨s, ad, i, d, G, r, rc, fo, o, rfl, _⟩ := h; rfl
  obtain ⟨s, ad, i, ⟨fv, tm, kd⟩, G, r, rc, fo, o, rfl, R, hd, ⟨z, hkd⟩, Aq, hF, hR, hok, hO, hfl, hQ, hE⟩ := h
  obtain rfl : kd = some z := hkd
  have hF1 := hF.same Aq.sm
  have hR1 := hR.same Aq.sm
  have hh := R.hS_ hd
  have hy := R.y_
  obtain ⟨dx, g, e, hr1, hg, he⟩ := id hR1
  refine ⟨_, (pss_cons (ps_set (i := 2) sc_Handler_text_of.nd rfl (by first | exact Or.inl rfl | exact Or.inr rfl) pe_non)
      (pss_cons (ps_try_many rfl rfl takes_none5 (fun W pn xe tk _ => (pss_one (ps_set (i := 2) sc_Handler_text_of.nd rfl (by first | exact Or.inl rfl | exact Or.inr rfl) (RQ.pe_mtX tk T.c_StreamHandler T.m_StreamHandler_formatted c_StreamHandler_formatted (hr.mono (by first | decide | exact Nat.le_refl _)) (pv 0) (pa_cons (pv 1) pa_nil))))) (HdsOk.cons ⟨by rfl, by decide, .inl T.g_BadMessage⟩ (fun a oe cls d pn _ _ => (pss_one (ps_expr (RI.pe_mtI (pe_fldK (K := K) (pv 0) rfl) T.c_Yard T.m_Yard_keep_failure i_Yard_keep_failure (RI.room_suite (hr.mono (by first | decide | exact Nat.le_refl _))) RI.held_of (pa_cons (pe_fldK (K := K) (pv 1) rfl) (pa_cons pe_str pa_nil)))))) (HdsOk.cons ⟨by rfl, by decide, .inl T.g_BadField⟩ (fun a oe cls d pn _ _ => (pss_one (ps_expr (RI.pe_mtI (pe_fldK (K := K) (pv 0) rfl) T.c_Yard T.m_Yard_keep_failure i_Yard_keep_failure (RI.room_suite (hr.mono (by first | decide | exact Nat.le_refl _))) RI.held_of (pa_cons (pe_fldK (K := K) (pv 1) rfl) (pa_cons pe_str pa_nil)))))) HdsOk.nil)))
      (pss_one (ps_ret (pv 2))))), ?_⟩
  walk_at "in"
  refine ⟨_, rfl, ?_⟩
  refine ⟨ad (.h i), _, _, rfl, hh, rfl, _, rfl, ?_⟩
  refine ⟨ad (.h i), _, r, _, rc, fo, fv, o, rfl, hh, rfl, hF1, hR1, hok, hO, fun t H' ho hl s2 => ?_, fun ho d2 H1 s1 fd => ?_, fun n2 ho d2 H1 s1 fd => ?_⟩
  · walk_at "go"
    exact hQ t H' ho hl s2
  · refine ⟨true, T.e_BadMessage_BadMessage, fun _ a fa => ?_, fun h => nomatch h⟩
    have s2 : Same H (upd H1 d2 (.xd [("msg", .str rc.msg)])) := s1.trans (same_new fd _)
    generalize upd H1 d2 (.xd [("msg", .str rc.msg)]) = H2 at s2 fa ⊢
    have hh2 := s2 _ _ hh
    have hr2 := s2 _ _ hr1
    have R2 := R.same s2
    have hy2 := R2.y_
    clear R hy hh
    subst ho
    walk_at "go"
    intro ad' H3 R3 M3 X3
    walk_at "go"
    exact hE ad' H3 (fun _ h => nomatch h) R3 (M3.sameL s2) X3
  · refine ⟨false, T.e_BadField_BadMessage, (fun h => nomatch h), fun _ => ⟨true, T.e_BadField_BadField, fun _ a fa => ?_, fun h => nomatch h⟩⟩
    have s2 : Same H (upd H1 d2 (.xd [("name", .str n2)])) := s1.trans (same_new fd _)
    generalize upd H1 d2 (.xd [("name", .str n2)]) = H2 at s2 fa ⊢
    have hh2 := s2 _ _ hh
    have hr2 := s2 _ _ hr1
    have R2 := R.same s2
    have hy2 := R2.y_
    clear R hy hh
    subst ho
    walk_at "go"
    intro ad' H3 R3 M3 X3
    walk_at "go"
    exact hE ad' H3 (fun _ h => nomatch h) R3 (M3.sameL s2) X3
end
end K17

set_option Elab.async false
set_option linter.all false
set_option maxRecDepth 100000
set_option maxHeartbeats 0

namespace K17
open PySem PySem.Spec PyProof.Rows L2 RC
section
variable {P : Program} {w : World} {K : PySem.W.Frag} {mg : Str → Option Value} {base : Heap}
/-! ### a record written to the stream, or to nothing -/
/-- what is written, or kept as a failure -/
def FS.em (s : FS) (d : Hd) (nm : Str) (o : TxO) : FS := match d.kd with
  | none => s
  | some z => match o with
    | .tx t => s.wr z (txt s.st z ++ (tx t ++ d.tm))
    | .msg => s.fl .msg nm
    | .fld n => s.fl (.fld n) nm
/-- texts are short enough for one more -/
structure SzOk (s : FS) (d : Hd) (o : TxO) : Prop where
  st : s.st.length ≤ 900
  fr : s.fr.length ≤ 1000000
  tm : d.tm.length ≤ 1000
  tx : ∀ z, (txt s.st z).length ≤ 8000000
  ot : ∀ t, o = .tx t → t.length ≤ 900000
def spEmitS (K : PySem.W.Frag) (b : Bool) : Sp := fun vs H Q _ => ∃ (s : FS) (ad : Ro → Addr) (i : Nat) (d : Hd) (G : Hp) (r : Addr) (rc : Rc) (fo : Option (List (Str ⊕ Str))) (o : TxO), vs = [.ref (ad (.h i)), .ref r] ∧ YR K s ad H ∧ s.hs[i]? = some d ∧ d.kd.isSome = b ∧ Ap K s ad G H ∧ FormV K G fo d.fv ∧ RcAt K G r rc ∧ rc.Ok ∧ HfO rc fo o ∧
  SzOk s d o ∧ (∀ ad' H' s', YR K s' ad' H' → YM K s ad H s' ad' H' → Fx ad ad' → s' = s.em d rc.name o → Q .non H')
theorem ok_emitS {f : Addr} (T : Txt P w K mg) (F : Stands K "emit" "StreamHandler.emit" s_StreamHandler_emit [] f) (c_StreamHandler_text_of : Callable P w K mg base 10 (He.ma K (He.ga K "StreamHandler") "text_of") ["self", "record"] [] (spTextOf K))
    (c_Yard_write_stream : Callable P w K mg base 2 (He.ma K (He.ga K "Yard") "write_stream") ["self", "name", "text"] [] (spWrite K)) : Callable P w K mg base 11 f ["self", "record"] [] (spEmitS K true) := by
  refine F.call0 sc_StreamHandler_emit (fun vs H Q E h => ?_) (fun cdv A outer s0 H vs Q E hr h => ?_) (fun _ _ _ _ _ _ us hl => match us, hl with | [_, _], _ => rfl)
  · obtain ⟨s, ad, i, d, G, r, rc, fo, o, rfl, _⟩ := h; rfl
  obtain ⟨s, ad, i, ⟨fv, tm, kd⟩, G, r, rc, fo, o, rfl, R, hd, hb, Aq, hF, hR, hok, hO, ⟨hfl, hfr, htm, hsz, ht⟩, hQ⟩ := h
  cases kd with
  | none => cases hb
  | some z =>
  refine ⟨_, (pss_cons (ps_set (i := 2) sc_StreamHandler_emit.nd rfl (by first | exact Or.inl rfl | exact Or.inr rfl) (pe_mt T.c_StreamHandler T.m_StreamHandler_text_of c_StreamHandler_text_of (hr.mono (by first | decide | exact Nat.le_refl _)) (pv 0) (pa_cons (pv 1) pa_nil)))
      (pss_one (ps_if (pt_cmpR op_notN (pv 2) pe_non (nomark _)) (pss_one (ps_expr (pe_mt T.c_Yard T.m_Yard_write_stream c_Yard_write_stream (hr.mono (by first | decide | exact Nat.le_refl _)) (pe_fld (pv 0) rfl) (pa_cons (pe_fld (pv 0) rfl) (pa_cons (pe_op op_add_str (pv 2) (pe_fld (pv 0) rfl)) pa_nil))))) pss_nil))), ?_⟩
  walk_at "in"
  have ha := R.hS_ hd
  have hsz := hsz z
  have htm : tm.length ≤ 1000 := htm
  refine ⟨_, rfl, ?_⟩
  refine ⟨ad (.h i), _, _, rfl, ha, rfl, _, rfl, ?_⟩
  refine ⟨s, ad, i, _, G, r, rc, fo, o, rfl, R, hd, ⟨z, rfl⟩, Aq, hF, hR, hok, hO, hfr, fun t H2 ho hl s2 => ?_, fun ad2 H2 ho R2 M2 X2 => ?_⟩
  · subst ho
    have ht := ht t rfl
    have R2 := R.same s2
    have l1 : (tx t).length = t.length := tx_len t
    have l2 : (tx t ++ tm).length ≤ 1000000 := by rw [len_app, l1]; omega
    have l3 : (tx t).length + tm.length ≤ sizeLine := by rw [l1, sizeLine_eq]; omega
    have l4 : s.st.length ≤ 1000 := by omega
    have hy2 := R2.y_
    have ha2 := s2 _ _ ha
    clear ha
    walk_at "go"
    intro H3 R3 M3
    exact hQ ad H3 _ R3 (M3.sameL s2) (Fx.refl _) rfl
  · walk_at "go"
    refine hQ ad2 H2 _ R2 M2 X2 ?_
    cases o with
    | tx t => exact absurd rfl (ho t)
    | msg => rfl
    | fld n => rfl
theorem ok_emitN {f : Addr} (T : Txt P w K mg) (F : Stands K "emit" "Handler.emit" s_Handler_emit [] f) : Callable P w K mg base 11 f ["self", "record"] [] (spEmitS K false) := by
  refine F.call0 sc_Handler_emit (fun vs H Q E h => ?_) (fun cdv A outer s0 H vs Q E hr h => ?_) (fun _ _ _ _ _ _ us hl => match us, hl with | [_, _], _ => rfl)
  · obtain ⟨s, ad, i, d, G, r, rc, fo, o, rfl, _⟩ := h; rfl
  obtain ⟨s, ad, i, ⟨fv, tm, kd⟩, G, r, rc, fo, o, rfl, R, hd, hb, Aq, hF, hR, hok, hO, hz, hQ⟩ := h
  cases kd with
  | some z => cases hb
  | none =>
  refine ⟨_, (pss_one ps_pass), ?_⟩
  walk_at "in"
  walk_at "go"
  exact hQ ad H s R (RR.Mv.refl _) (Fx.refl _) rfl
end
end K17

set_option Elab.async false
set_option linter.all false
set_option maxRecDepth 100000
set_option maxHeartbeats 0

namespace K17
open PySem PySem.Spec PyProof.Rows L2 RC
section
variable {P : Program} {w : World} {K : PySem.W.Frag} {mg : Str → Option Value} {base : Heap}
/-! ### handle, a formatter, an end or a stream set -/
def spFiltered0 (K : PySem.W.Frag) : Sp := fun vs H Q _ => ∃ (p C dx l r : Addr) (fs : List (Str × V)), vs = [.ref p, .ref r] ∧ H p = some (.ins C dx fs) ∧ Cls K C ∧ NoAttr K C "filters" ∧ fs.lookup ("filters" : Str) = some (.ref l) ∧ H l = some (.lst []) ∧ Q (.ref r) H
theorem ok_filtered0 {f : Addr} (T : Txt P w K mg) (F : Stands K "filtered" "Filterer.filtered" s_Filterer_filtered [] f) : Callable P w K mg base 1 f ["self", "record"] [] (spFiltered0 K) := by
  refine F.call0 sc_Filterer_filtered (fun vs H Q E h => ?_) (fun cdv A outer s0 H vs Q E hr h => ?_) (fun _ _ _ _ _ _ us hl => match us, hl with | [_, _], _ => rfl)
  · obtain ⟨p, C, dx, l, r, fs, rfl, _⟩ := h; rfl
  obtain ⟨p, C, dx, l, r, fs, rfl, hp, c, n, hf, hl, hQ⟩ := h
  refine ⟨_, (pss_cons (ps_set (i := 2) sc_Filterer_filtered.nd rfl (by first | exact Or.inl rfl | exact Or.inr rfl) (pv 1))
      (pss_cons (ps_for PassesOwn.never rfl (pi_list (pe_fld (pv 0) rfl)) (pg_name (i := 3) sc_Filterer_filtered.nd rfl (by first | exact Or.inl rfl | exact Or.inr rfl)) (pss_cons (ps_set (i := 2) sc_Filterer_filtered.nd rfl (by first | exact Or.inl rfl | exact Or.inr rfl) pe_never)
      (pss_one (ps_if (pt_cmpR op_isN (pv 2) pe_non (nomark _)) (pss_one (ps_ret pe_non)) pss_nil))))
      (pss_one (ps_ret (pv 2))))), ?_⟩
  walk_at "in"
  walk_at "go"
  refine for_list (xs := []) (fun i σ H' => H' = H ∧ σ = [some (.ref p), some (.ref r), some (.ref r), none]) ⟨rfl, rfl⟩ (fun i σ H' _ h => by rw [h.1]; exact SqL.of hl) (fun i x σ H' hx h => nomatch hx) (fun σ H' h => ?_)
  obtain ⟨rfl, rfl⟩ := h
  walk_at "go"
  exact hQ
def spHandle (K : PySem.W.Frag) (b : Bool) : Sp := fun vs H Q _ => ∃ (s : FS) (ad : Ro → Addr) (i : Nat) (d : Hd) (G : Hp) (r : Addr) (rc : Rc) (fo : Option (List (Str ⊕ Str))) (o : TxO), vs = [.ref (ad (.h i)), .ref r] ∧ YR K s ad H ∧ s.hs[i]? = some d ∧ d.kd.isSome = b ∧ Ap K s ad G H ∧ FormV K G fo d.fv ∧ RcAt K G r rc ∧ rc.Ok ∧ HfO rc fo o ∧
  SzOk s d o ∧ (∀ ad' H' s', YR K s' ad' H' → YM K s ad H s' ad' H' → Fx ad ad' → s' = s.em d rc.name o → Q (.bl true) H')
theorem ok_handleS {f : Addr} (T : Txt P w K mg) (F : Stands K "handle" "Handler.handle" s_Handler_handle [] f) (c_StreamHandler_filtered : Callable P w K mg base 1 (He.ma K (He.ga K "StreamHandler") "filtered") ["self", "record"] [] (spFiltered0 K))
    (c_StreamHandler_emit : Callable P w K mg base 11 (He.ma K (He.ga K "StreamHandler") "emit") ["self", "record"] [] (spEmitS K true)) : Callable P w K mg base 12 f ["self", "record"] [] (spHandle K true) := by
  refine F.call0 sc_Handler_handle (fun vs H Q E h => ?_) (fun cdv A outer s0 H vs Q E hr h => ?_) (fun _ _ _ _ _ _ us hl => match us, hl with | [_, _], _ => rfl)
  · obtain ⟨s, ad, i, d, G, r, rc, fo, o, rfl, _⟩ := h; rfl
  obtain ⟨s, ad, i, ⟨fv, tm, kd⟩, G, r, rc, fo, o, rfl, R, hd, hb, Aq, hF, hR, hok, hO, hsz, hQ⟩ := h
  cases kd with
  | none => cases hb
  | some z =>
  refine ⟨_, (pss_cons (ps_set (i := 2) sc_Handler_handle.nd rfl (by first | exact Or.inl rfl | exact Or.inr rfl) (pe_mt T.c_StreamHandler T.m_StreamHandler_filtered c_StreamHandler_filtered (hr.mono (by first | decide | exact Nat.le_refl _)) (pv 0) (pa_cons (pv 1) pa_nil)))
      (pss_cons (ps_if (pt_cmpR op_isN (pv 2) pe_non (nomark _)) (pss_one (ps_ret pe_bl)) pss_nil)
      (pss_cons (ps_expr (pe_mt T.c_StreamHandler T.m_StreamHandler_emit c_StreamHandler_emit (hr.mono (by first | decide | exact Nat.le_refl _)) (pv 0) (pa_cons (pv 2) pa_nil)))
      (pss_one (ps_ret pe_bl))))), ?_⟩
  walk_at "in"
  have ha := R.hS_ hd
  have hfl0 := R.hl_ (List.getElem?_eq_some_iff.mp hd).1
  refine ⟨_, rfl, _, _, _, rfl, ha, rfl, _, rfl, ?_⟩
  refine ⟨_, _, _, _, r, _, rfl, ha, T.c_StreamHandler, T.n_StreamHandler_filters, rfl, hfl0, ?_⟩
  walk_at "go"
  intro ad' H' s' R' M' X' e
  walk_at "go"
  exact hQ ad' H' s' R' M' X' e
theorem ok_handleN {f : Addr} (T : Txt P w K mg) (F : Stands K "handle" "Handler.handle" s_Handler_handle [] f) (c_NullHandler_filtered : Callable P w K mg base 1 (He.ma K (He.ga K "NullHandler") "filtered") ["self", "record"] [] (spFiltered0 K))
    (c_NullHandler_emit : Callable P w K mg base 11 (He.ma K (He.ga K "NullHandler") "emit") ["self", "record"] [] (spEmitS K false)) : Callable P w K mg base 12 f ["self", "record"] [] (spHandle K false) := by
  refine F.call0 sc_Handler_handle (fun vs H Q E h => ?_) (fun cdv A outer s0 H vs Q E hr h => ?_) (fun _ _ _ _ _ _ us hl => match us, hl with | [_, _], _ => rfl)
  · obtain ⟨s, ad, i, d, G, r, rc, fo, o, rfl, _⟩ := h; rfl
  obtain ⟨s, ad, i, ⟨fv, tm, kd⟩, G, r, rc, fo, o, rfl, R, hd, hb, Aq, hF, hR, hok, hO, hsz, hQ⟩ := h
  cases kd with
  | some z => cases hb
  | none =>
  refine ⟨_, (pss_cons (ps_set (i := 2) sc_Handler_handle.nd rfl (by first | exact Or.inl rfl | exact Or.inr rfl) (pe_mt T.c_NullHandler T.m_NullHandler_filtered c_NullHandler_filtered (hr.mono (by first | decide | exact Nat.le_refl _)) (pv 0) (pa_cons (pv 1) pa_nil)))
      (pss_cons (ps_if (pt_cmpR op_isN (pv 2) pe_non (nomark _)) (pss_one (ps_ret pe_bl)) pss_nil)
      (pss_cons (ps_expr (pe_mt T.c_NullHandler T.m_NullHandler_emit c_NullHandler_emit (hr.mono (by first | decide | exact Nat.le_refl _)) (pv 0) (pa_cons (pv 2) pa_nil)))
      (pss_one (ps_ret pe_bl))))), ?_⟩
  walk_at "in"
  have ha := R.hN_ hd
  have hfl0 := R.hl_ (List.getElem?_eq_some_iff.mp hd).1
  refine ⟨_, rfl, _, _, _, rfl, ha, rfl, _, rfl, ?_⟩
  refine ⟨_, _, _, _, r, _, rfl, ha, T.c_NullHandler, T.n_NullHandler_filters, rfl, hfl0, ?_⟩
  walk_at "go"
  intro ad' H' s' R' M' X' e
  walk_at "go"
  exact hQ ad' H' s' R' M' X' e
theorem setD_setD (s : FS) (i : Nat) (a b : Hd) : (s.setD i a).setD i b = s.setD i b := by unfold FS.setD; simp
def spSetV (K : PySem.W.Frag) (b : Bool) (g : Hd → V → Option Hd) : Sp := fun vs H Q _ => ∃ (s : FS) (ad : Ro → Addr) (i : Nat) (d e : Hd) (v : V), vs = [.ref (ad (.h i)), v] ∧ YR K s ad H ∧ s.hs[i]? = some d ∧ d.kd.isSome = b ∧ g d v = some e ∧ (∀ H' s', YR K s' ad H' → YM K s ad H s' ad H' → s' = s.setD i e → Q .non H')
theorem ok_setFmS {f : Addr} (T : Txt P w K mg) (F : Stands K "setFormatter" "Handler.setFormatter" s_Handler_setFormatter [] f) : Callable P w K mg base 1 f ["self", "formatter"] [] (spSetV K true fun d v => some { d with fv := v }) := by
  refine F.call0 sc_Handler_setFormatter (fun vs H Q E h => ?_) (fun cdv A outer s0 H vs Q E hr h => ?_) (fun _ _ _ _ _ _ us hl => match us, hl with | [_, _], _ => rfl)
  · obtain ⟨s, ad, i, d, e, v, rfl, _⟩ := h; rfl
  obtain ⟨s, ad, i, ⟨fv, tm, kd⟩, e, v, rfl, R, hd, hb, he, hQ⟩ := h
  cases he
  cases kd with
  | none => cases hb
  | some z =>
  refine ⟨_, (pss_one (ps_fld (pv 0) (pv 1) rfl)), ?_⟩
  walk_at "in"
  have ha := R.hS_ hd
  obtain ⟨R1, M1⟩ := R.setD hd ⟨v, tm, some z⟩
  walk_at "go"
  exact hQ _ _ R1 M1 rfl
theorem ok_setTmS {f : Addr} (T : Txt P w K mg) (F : Stands K "setTerminator" "Handler.setTerminator" s_Handler_setTerminator [] f) : Callable P w K mg base 1 f ["self", "text"] [] (spSetV K true fun d v => match v with | .str z => some { d with tm := z } | _ => none) := by
  refine F.call0 sc_Handler_setTerminator (fun vs H Q E h => ?_) (fun cdv A outer s0 H vs Q E hr h => ?_) (fun _ _ _ _ _ _ us hl => match us, hl with | [_, _], _ => rfl)
  · obtain ⟨s, ad, i, d, e, v, rfl, _⟩ := h; rfl
  obtain ⟨s, ad, i, ⟨fv, tm, kd⟩, e, v, rfl, R, hd, hb, he, hQ⟩ := h
  cases v with
  | str t9 =>
    cases he
    cases kd with
    | none => cases hb
    | some z =>
    refine ⟨_, (pss_one (ps_fld (pv 0) (pv 1) rfl)), ?_⟩
    walk_at "in"
    have ha := R.hS_ hd
    obtain ⟨R1, M1⟩ := R.setD hd ⟨fv, t9, some z⟩
    walk_at "go"
    exact hQ _ _ R1 M1 rfl
  | _ => cases he
theorem ok_setFmN {f : Addr} (T : Txt P w K mg) (F : Stands K "setFormatter" "Handler.setFormatter" s_Handler_setFormatter [] f) : Callable P w K mg base 1 f ["self", "formatter"] [] (spSetV K false fun d v => some { d with fv := v }) := by
  refine F.call0 sc_Handler_setFormatter (fun vs H Q E h => ?_) (fun cdv A outer s0 H vs Q E hr h => ?_) (fun _ _ _ _ _ _ us hl => match us, hl with | [_, _], _ => rfl)
  · obtain ⟨s, ad, i, d, e, v, rfl, _⟩ := h; rfl
  obtain ⟨s, ad, i, ⟨fv, tm, kd⟩, e, v, rfl, R, hd, hb, he, hQ⟩ := h
  cases he
  cases kd with
  | some z => cases hb
  | none =>
  refine ⟨_, (pss_one (ps_fld (pv 0) (pv 1) rfl)), ?_⟩
  walk_at "in"
  have ha := R.hN_ hd
  obtain ⟨R1, M1⟩ := R.setD hd ⟨v, tm, none⟩
  walk_at "go"
  exact hQ _ _ R1 M1 rfl
theorem ok_setTmN {f : Addr} (T : Txt P w K mg) (F : Stands K "setTerminator" "Handler.setTerminator" s_Handler_setTerminator [] f) : Callable P w K mg base 1 f ["self", "text"] [] (spSetV K false fun d v => match v with | .str z => some { d with tm := z } | _ => none) := by
  refine F.call0 sc_Handler_setTerminator (fun vs H Q E h => ?_) (fun cdv A outer s0 H vs Q E hr h => ?_) (fun _ _ _ _ _ _ us hl => match us, hl with | [_, _], _ => rfl)
  · obtain ⟨s, ad, i, d, e, v, rfl, _⟩ := h; rfl
  obtain ⟨s, ad, i, ⟨fv, tm, kd⟩, e, v, rfl, R, hd, hb, he, hQ⟩ := h
  cases v with
  | str t9 =>
    cases he
    cases kd with
    | some z => cases hb
    | none =>
    refine ⟨_, (pss_one (ps_fld (pv 0) (pv 1) rfl)), ?_⟩
    walk_at "in"
    have ha := R.hN_ hd
    obtain ⟨R1, M1⟩ := R.setD hd ⟨fv, t9, none⟩
    walk_at "go"
    exact hQ _ _ R1 M1 rfl
  | _ => cases he
def spSetS (K : PySem.W.Frag) : Sp := fun vs H Q _ => ∃ (s : FS) (ad : Ro → Addr) (i : Nat) (fv : V) (tm z t : Str), vs = [.ref (ad (.h i)), .str t] ∧ YR K s ad H ∧ s.hs[i]? = some ⟨fv, tm, some z⟩ ∧ (∀ H' s', YR K s' ad H' → YM K s ad H s' ad H' → s' = s.setD i ⟨fv, tm, some t⟩ → Q (if t = z then .non else .str z) H')
theorem ok_setS {f : Addr} (T : Txt P w K mg) (F : Stands K "setStream" "StreamHandler.setStream" s_StreamHandler_setStream [] f) : Callable P w K mg base 1 f ["self", "stream"] [] (spSetS K) := by
  refine F.call0 sc_StreamHandler_setStream (fun vs H Q E h => ?_) (fun cdv A outer s0 H vs Q E hr h => ?_) (fun _ _ _ _ _ _ us hl => match us, hl with | [_, _], _ => rfl)
  · obtain ⟨s, ad, i, fv, tm, z, t, rfl, _⟩ := h; rfl
  obtain ⟨s, ad, i, fv, tm, z, t, rfl, R, hd, hQ⟩ := h
  refine ⟨_, (pss_cons (ps_set (i := 2) sc_StreamHandler_setStream.nd rfl (by first | exact Or.inl rfl | exact Or.inr rfl) (pe_ifExp (pt_cmpR op_eq (pv 1) (pe_fld (pv 0) rfl) (nomark _)) pe_non (pe_fld (pv 0) rfl)))
      (pss_cons (ps_fld (pv 0) (pv 1) rfl)
      (pss_one (ps_ret (pv 2))))), ?_⟩
  walk_at "in"
  have ha := R.hS_ hd
  obtain ⟨R1, M1⟩ := R.setD hd ⟨fv, tm, some t⟩
  have hq := hQ _ _ R1 M1 rfl
  by_cases c : t = z
  · rw [if_pos c] at hq
    have e0 : decide (V.str t = V.str z) = true := decide_eq_true (by rw [c])
    walk_at "go"
    exact hq
  · rw [if_neg c] at hq
    have e0 : decide (V.str t = V.str z) = false := decide_eq_false fun q => c (V.str.inj q)
    walk_at "go"
    exact hq
end
end K17

set_option Elab.async false
set_option linter.all false
set_option maxRecDepth 100000
set_option maxHeartbeats 0
namespace K17
open PySem PySem.Spec PyProof.Rows L2 RC
section
variable {P : Program} {w : World} {K : PySem.W.Frag} {mg : Str → Option Value} {base : Heap}
/-! ### a handler is made -/
def adM (ad : Ro → Addr) (n : Nat) (p l dx : Addr) : Ro → Addr
  | .h i => if i = n then p else ad (.h i)
  | .hl i => if i = n then l else ad (.hl i)
  | .x j => if j = 9 + n then dx else ad (.x j)
  | r => ad r
/-- a handler at p stands -/
def FS.mk1 (s : FS) (p : Addr) (d : Hd) : FS := { s with md := s.md ++ [.ref p], hs := s.hs ++ [d] }
theorem _root_.RR.Rep.mk1 {s : FS} {ad : Ro → Addr} {H0 H1 : Hp} {p dx l : Addr} (R : YR K s ad H0) (hp : H0 p = none) (hdx : H0 dx = none) (npd : p ≠ dx) (d : Hd)
    (k : ∀ b o, b ≠ p → b ≠ ad .md → upd (upd H0 dx (.own p)) p (.ins (kdC K d.kd) dx []) b = some o → H1 b = some o) (hl : upd (upd H0 dx (.own p)) p (.ins (kdC K d.kd) dx []) l = none) (h4 : H1 l = some (.lst [])) (h5 : H1 (ad .md) = some (.lst (s.md ++ [.ref p]))) :
    YR K (s.mk1 p d) (adM ad s.hs.length p l dx) (upd H1 p (.ins (kdC K d.kd) dx (d.F l (ad .y)))) ∧ YM K s ad H0 (s.mk1 p d) (adM ad s.hs.length p l dx) (upd H1 p (.ins (kdC K d.kd) dx (d.F l (ad .y)))) := by
  have hl1 := upd_none hl
  have hl2 := upd_none hl1.2
  have Rm : Y1 K s ad .md = some (.lst s.md) := rfl
  have old : ∀ b o, H0 b = some o → b ≠ ad .md → upd H1 p (.ins (kdC K d.kd) dx (d.F l (ad .y))) b = some o := fun b o e n => by
    have n1 : b ≠ p := fun z => by rw [z, hp] at e; cases e
    have n2 : b ≠ dx := fun z => by rw [z, hdx] at e; cases e
    rw [upd_ne n1]
    exact k b o n1 n (by rw [upd_ne n1, upd_ne n2]; exact e)
  have nmp : ad .md ≠ p := fun z => by have := R.at_ .md _ Rm; rw [z, hp] at this; cases this
  have x0 : ∀ j, j < 9 → adM ad s.hs.length p l dx (.x j) = ad (.x j) := fun j h => if_neg (by omega)
  have ey : Y1 K (s.mk1 p d) (adM ad s.hs.length p l dx) .y = Y1 K s ad .y := by
    show some (HO.ins (CY K) (adM ad s.hs.length p l dx (.x 0)) (yF s.now (ad .st) (ad .fi) (ad .na) (ad .nu) (adM ad s.hs.length p l dx (.x 2)) (ad .md) (adM ad s.hs.length p l dx (.x 3)) (ad .fr) (adM ad s.hs.length p l dx (.x 4)) (adM ad s.hs.length p l dx (.x 5)))) = _
    rw [x0 0 (by decide), x0 2 (by decide), x0 3 (by decide), x0 4 (by decide), x0 5 (by decide)]
    rfl
  -- the places
  have cs : ∀ r u, Y1 K (s.mk1 p d) (adM ad s.hs.length p l dx) r = some u → (r = .h s.hs.length ∧ u = .ins (kdC K d.kd) dx (d.F l (ad .y))) ∨ (r = .hl s.hs.length ∧ u = .lst []) ∨ (r = .md ∧ u = .lst (s.md ++ [.ref p])) ∨ (r ≠ .h s.hs.length ∧ r ≠ .hl s.hs.length ∧ r ≠ .md ∧ adM ad s.hs.length p l dx r = ad r ∧ Y1 K s ad r = some u) := fun r u e => by
    cases r with
    | h i =>
      have e : ((s.hs ++ [d])[i]?).map (fun d => HO.ins (kdC K d.kd) (if 9 + i = 9 + s.hs.length then dx else ad (.x (9 + i))) (d.F (if i = s.hs.length then l else ad (.hl i)) (ad .y))) = some u := e
      by_cases c : i = s.hs.length
      · subst c
        rw [List.getElem?_append_right (Nat.le_refl _), Nat.sub_self, if_pos rfl, if_pos rfl] at e
        exact .inl ⟨rfl, (Option.some.inj e).symm⟩
      · rw [if_neg c, if_neg (by omega)] at e
        have hlt : i < s.hs.length := by
          have hh : ∃ v, (s.hs ++ [d])[i]? = some v := by
            cases q : (s.hs ++ [d])[i]? with
            | none => rw [q] at e; cases e
            | some v => exact ⟨v, rfl⟩
          obtain ⟨v, hh⟩ := hh
          have := (List.getElem?_eq_some_iff.mp hh).1
          rw [List.length_append] at this
          have : i < s.hs.length + 1 := this
          omega
        rw [List.getElem?_append_left hlt] at e
        exact .inr (.inr (.inr ⟨(fun z => c (Ro.h.inj z)), (fun z => nomatch z), (fun z => nomatch z), if_neg c, e⟩))
    | hl i =>
      have e : (if i < (s.hs ++ [d]).length then some (HO.lst []) else none) = some u := e
      rw [List.length_append, List.length_singleton] at e
      by_cases c : i = s.hs.length
      · subst c
        rw [if_pos (Nat.lt_succ_self _)] at e
        exact .inr (.inl ⟨rfl, (Option.some.inj e).symm⟩)
      · refine .inr (.inr (.inr ⟨(fun z => nomatch z), (fun z => c (Ro.hl.inj z)), (fun z => nomatch z), if_neg c, ?_⟩))
        show (if i < s.hs.length then some (HO.lst []) else none) = some u
        by_cases l2 : i < s.hs.length
        · rw [if_pos l2]
          rw [if_pos (Nat.lt_succ_of_lt l2)] at e
          exact e
        · rw [if_neg (by show ¬ i < s.hs.length + 1; omega)] at e
          cases e
    | md => exact .inr (.inr (.inl ⟨rfl, (Option.some.inj e).symm⟩))
    | y => exact .inr (.inr (.inr ⟨(fun z => nomatch z), (fun z => nomatch z), (fun z => nomatch z), rfl, ey ▸ e⟩))
    | fi => exact .inr (.inr (.inr ⟨(fun z => nomatch z), (fun z => nomatch z), (fun z => nomatch z), rfl, e⟩))
    | na => exact .inr (.inr (.inr ⟨(fun z => nomatch z), (fun z => nomatch z), (fun z => nomatch z), rfl, e⟩))
    | nu => exact .inr (.inr (.inr ⟨(fun z => nomatch z), (fun z => nomatch z), (fun z => nomatch z), rfl, e⟩))
    | fr => exact .inr (.inr (.inr ⟨(fun z => nomatch z), (fun z => nomatch z), (fun z => nomatch z), rfl, e⟩))
    | st => exact .inr (.inr (.inr ⟨(fun z => nomatch z), (fun z => nomatch z), (fun z => nomatch z), rfl, e⟩))
    | ft x => exact .inr (.inr (.inr ⟨(fun z => nomatch z), (fun z => nomatch z), (fun z => nomatch z), rfl, e⟩))
    | row x => exact .inr (.inr (.inr ⟨(fun z => nomatch z), (fun z => nomatch z), (fun z => nomatch z), rfl, e⟩))
    | x j => cases e
  have aP : adM ad s.hs.length p l dx (.h s.hs.length) = p := if_pos rfl
  have aL : adM ad s.hs.length p l dx (.hl s.hs.length) = l := if_pos rfl
  have lp : l ≠ p := hl1.1
  have om : ∀ r u, Y1 K s ad r = some u → r ≠ .md → ad r ≠ ad .md := fun r u e n z => n (R.inj _ _ _ _ e Rm z)
  have op : ∀ r u, Y1 K s ad r = some u → ad r ≠ p := fun r u e z => by have := R.at_ _ _ e; rw [z, hp] at this; cases this
  have ol : ∀ r u, Y1 K s ad r = some u → ad r ≠ l := fun r u e z => by have := R.at_ _ _ e; rw [z, hl2.2] at this; cases this
  refine ⟨⟨fun r u e => ?_, fun r1 r2 u1 u2 q1 q2 z => ?_⟩, fun b o hb e => old b o e (fun z => hb .md _ Rm z.symm), fun r u e => ?_⟩
  · rcases cs r u e with ⟨rfl, rfl⟩ | ⟨rfl, rfl⟩ | ⟨rfl, rfl⟩ | ⟨_, _, n, ea, e'⟩
    · rw [aP]; exact upd_same
    · rw [aL, upd_ne lp]; exact h4
    · show upd H1 p _ (ad .md) = _
      rw [upd_ne nmp]; exact h5
    · rw [ea]; exact old _ _ (R.at_ _ _ e') (om r u e' n)
  · have om2 : adM ad s.hs.length p l dx .md = ad .md := rfl
    have aM : adM ad s.hs.length p l dx .md = ad .md := rfl
    rcases cs r1 u1 q1 with ⟨rfl, _⟩ | ⟨rfl, _⟩ | ⟨rfl, _⟩ | ⟨_, _, n1, ea1, e1'⟩ <;> rcases cs r2 u2 q2 with ⟨rfl, _⟩ | ⟨rfl, _⟩ | ⟨rfl, _⟩ | ⟨_, _, n2, ea2, e2'⟩
    · rfl
    · rw [aP, aL] at z; exact absurd z.symm lp
    · rw [aP, aM] at z; exact absurd z.symm nmp
    · rw [aP, ea2] at z; exact absurd z.symm (op _ _ e2')
    · rw [aP, aL] at z; exact absurd z lp
    · rfl
    · rw [aL, aM] at z; exact absurd z.symm (ol _ _ Rm)
    · rw [aL, ea2] at z; exact absurd z.symm (ol _ _ e2')
    · rw [aP, aM] at z; exact absurd z nmp
    · rw [aL, aM] at z; exact absurd z (ol _ _ Rm)
    · rfl
    · rw [aM, ea2] at z; exact absurd z.symm (om _ _ e2' n2)
    · rw [aP, ea1] at z; exact absurd z (op _ _ e1')
    · rw [aL, ea1] at z; exact absurd z (ol _ _ e1')
    · rw [aM, ea1] at z; exact absurd z (om _ _ e1' n1)
    · rw [ea1, ea2] at z; exact R.inj _ _ _ _ e1' e2' z
  · rcases cs r u e with ⟨rfl, rfl⟩ | ⟨rfl, rfl⟩ | ⟨rfl, rfl⟩ | ⟨_, _, n, ea, e'⟩
    · rw [aP]; exact .inr hp
    · rw [aL]; exact .inr hl2.2
    · exact .inl ⟨.md, _, Rm, rfl⟩
    · exact .inl ⟨r, u, e', ea.symm⟩
end
end K17

set_option Elab.async false
set_option linter.all false
set_option maxRecDepth 100000
set_option maxHeartbeats 4000000
/-! A world: a stream of draws and several models apart from one another; what is done at one leaves the others. -/
namespace RS
open PySem PySem.Spec PyProof.Rows L2 RC RR
structure Comp where
  R : Type
  M : R → Option HO
  ad : R → Addr
def cell (p : Addr) (o : HO) : Comp := ⟨Unit, fun _ => some o, fun _ => p⟩
abbrev Comp.rep (c : Comp) (H : Hp) : Prop := Rep c.M c.ad H
abbrev Comp.out (c : Comp) (b : Addr) : Prop := Out c.M c.ad b
abbrev Comp.dj (a b : Comp) : Prop := Dj a.M a.ad b.M b.ad
abbrev CMv (c : Comp) (H : Hp) (c' : Comp) (H' : Hp) : Prop := Mv c.M c.ad H c'.M c'.ad H'
structure Wd (H : Hp) (s l : Addr) (n : Nat) (cs : List Comp) : Prop where
  stm : Stm H s l n
  rep : ∀ c ∈ cs, c.rep H
  pw : cs.Pairwise Comp.dj
  os : ∀ c ∈ cs, c.out s ∧ c.out l
section
variable {H H' : Hp} {s l p b : Addr} {n k : Nat} {cs ds : List Comp} {c c' d e f g : Comp} {o o' : HO}
theorem Wd.same (W : Wd H s l n cs) (e : Same H H') : Wd H' s l n cs := ⟨W.stm.same e, fun c h => (W.rep c h).same e, W.pw, W.os⟩
theorem Wd.old (W : Wd H s l n cs) (e : Old s l H H') (st : Stm H' s l k) : Wd H' s l k cs := ⟨st, fun c h => (W.rep c h).old e (W.os c h).1 (W.os c h).2, W.pw, W.os⟩
theorem Wd.mono (W : Wd H s l n cs) (h : n ≤ k) : Wd H s l k cs := ⟨W.stm.mono h, W.rep, W.pw, W.os⟩
theorem Wd.perm (W : Wd H s l n cs) (h : ds.Perm cs) : Wd H s l n ds :=
  ⟨W.stm, fun c hc => W.rep c (h.mem_iff.mp hc), (h.pairwise_iff (fun {a b} hab => Dj.symm hab)).mpr W.pw, fun c hc => W.os c (h.mem_iff.mp hc)⟩
theorem Wd.hd (W : Wd H s l n (c :: cs)) : c.rep H := W.rep c List.mem_cons_self
theorem Wd.tl (W : Wd H s l n (c :: cs)) : Wd H s l n cs := ⟨W.stm, fun d h => W.rep d (List.mem_cons_of_mem _ h), (List.pairwise_cons.mp W.pw).2, fun d h => W.os d (List.mem_cons_of_mem _ h)⟩
theorem Wd.mv (W : Wd H s l n (c :: cs)) (R : c'.rep H') (m : CMv c H c' H') : Wd H' s l n (c' :: cs) := by
  have hp := List.pairwise_cons.mp W.pw
  have hs := W.os c List.mem_cons_self
  obtain ⟨ne, ns, x, cc, dd, g1, g2, g3⟩ := id W.stm
  refine ⟨Stm.mv W.stm m hs.1 hs.2, fun d hd => ?_, List.pairwise_cons.mpr ⟨fun d hd => ?_, hp.2⟩, fun d hd => ?_⟩
  · rcases List.mem_cons.mp hd with rfl | hd
    · exact R
    · exact m.rep (hp.1 d hd) (W.rep d (List.mem_cons_of_mem _ hd))
  · exact m.dj (hp.1 d hd) (W.rep d (List.mem_cons_of_mem _ hd))
  · rcases List.mem_cons.mp hd with rfl | hd
    · exact ⟨m.out hs.1 g1, m.out hs.2 g2⟩
    · exact W.os d (List.mem_cons_of_mem _ hd)
theorem cell_rep (h : H p = some o) : (cell p o).rep H := ⟨fun _ u e => by cases e; exact h, fun _ _ _ _ _ _ _ => rfl⟩
theorem cell_out (h : b ≠ p) : (cell p o).out b := fun _ _ _ z => h z.symm
theorem Wd.new (W : Wd H s l n cs) (hp : H p = none) : Wd (upd H p o) s l n (cell p o :: cs) := by
  have W' := W.same (same_new hp o)
  obtain ⟨ne, ns, x, cc, dd, g1, g2, g3⟩ := W.stm
  refine ⟨W'.stm, fun d hd => ?_, List.pairwise_cons.mpr ⟨fun d hd => ?_, W'.pw⟩, fun d hd => ?_⟩
  · rcases List.mem_cons.mp hd with rfl | hd
    · exact cell_rep upd_same
    · exact W'.rep d hd
  · intro r u er _ _ _ z
    have z : p = d.ad r := z
    exact (W.rep d hd).out hp r u er z.symm
  · rcases List.mem_cons.mp hd with rfl | hd
    · exact ⟨cell_out (fun z => (by rw [← z, g1] at hp; cases hp)), cell_out (fun z => (by rw [← z, g2] at hp; cases hp))⟩
    · exact W'.os d hd
/-- what was laid since -/
theorem Wd.fresh (W : Wd H s l n cs) (e : Same H H') (hp : H p = none) (h : H' p = some o) : Wd H' s l n (cell p o :: cs) := by
  have W' := W.same e
  obtain ⟨ne, ns, x, cc, dd, g1, g2, g3⟩ := W.stm
  refine ⟨W'.stm, fun d hd => ?_, List.pairwise_cons.mpr ⟨fun d hd => ?_, W'.pw⟩, fun d hd => ?_⟩
  · rcases List.mem_cons.mp hd with rfl | hd
    · exact cell_rep h
    · exact W'.rep d hd
  · intro r u er _ _ _ z
    have z : p = d.ad r := z
    exact (W.rep d hd).out hp r u er z.symm
  · rcases List.mem_cons.mp hd with rfl | hd
    · exact ⟨cell_out (fun z => (by rw [← z, g1] at hp; cases hp)), cell_out (fun z => (by rw [← z, g2] at hp; cases hp))⟩
    · exact W'.os d hd
/-- a model was laid since, at places that were free -/
theorem Wd.add (W : Wd H s l n cs) (e : Same H H') (R : c.rep H') (hf : ∀ r u, c.M r = some u → H (c.ad r) = none) : Wd H' s l n (c :: cs) := by
  have W' := W.same e
  obtain ⟨ne, ns, x, cc, dd, g1, g2, g3⟩ := W.stm
  refine ⟨W'.stm, fun d hd => ?_, List.pairwise_cons.mpr ⟨fun d hd => ?_, W'.pw⟩, fun d hd => ?_⟩
  · rcases List.mem_cons.mp hd with rfl | hd
    · exact R
    · exact W'.rep d hd
  · intro r u er r' u' er' z
    have h := (W.rep d hd).at_ r u er
    rw [← z, hf r' u' er'] at h; cases h
  · rcases List.mem_cons.mp hd with rfl | hd
    · exact ⟨fun r u er z => (by rw [← z, hf r u er] at g1; cases g1), fun r u er z => (by rw [← z, hf r u er] at g2; cases g2)⟩
    · exact W'.os d hd
theorem Wd.c0 (W : Wd H s l n (cell p o :: cs)) : H p = some o := W.hd.at_ () o rfl
theorem cell_mv : CMv (cell p o) H (cell p o') (upd H p o') := ⟨fun b u hb e => (upd_ne (show b ≠ p from fun z => hb () o rfl z.symm)).trans e, fun _ _ _ => .inl ⟨(), _, rfl, rfl⟩⟩
theorem Wd.set (W : Wd H s l n (cell p o :: cs)) : Wd (upd H p o') s l n (cell p o' :: cs) := W.mv (cell_rep upd_same) cell_mv
theorem Wd.up1 (W : Wd H s l n (c :: d :: cs)) : Wd H s l n (d :: c :: cs) := W.perm (.swap _ _ _)
theorem Wd.up2 (W : Wd H s l n (c :: d :: e :: cs)) : Wd H s l n (e :: c :: d :: cs) := W.perm ((List.Perm.swap _ _ _).trans (.cons _ (.swap _ _ _)))
theorem Wd.dn2 (W : Wd H s l n (e :: c :: d :: cs)) : Wd H s l n (c :: d :: e :: cs) := W.perm (((List.Perm.swap _ _ _).trans (.cons _ (.swap _ _ _))).symm)
theorem Wd.up3 (W : Wd H s l n (c :: d :: e :: f :: cs)) : Wd H s l n (f :: c :: d :: e :: cs) := W.perm ((List.Perm.swap _ _ _).trans (.cons _ ((List.Perm.swap _ _ _).trans (.cons _ (.swap _ _ _)))))
theorem Wd.dn3 (W : Wd H s l n (f :: c :: d :: e :: cs)) : Wd H s l n (c :: d :: e :: f :: cs) := W.perm (((List.Perm.swap _ _ _).trans (.cons _ ((List.Perm.swap _ _ _).trans (.cons _ (.swap _ _ _))))).symm)
theorem Wd.up4 (W : Wd H s l n (c :: d :: e :: f :: g :: cs)) : Wd H s l n (g :: c :: d :: e :: f :: cs) := W.perm ((List.Perm.swap _ _ _).trans (.cons _ ((List.Perm.swap _ _ _).trans (.cons _ ((List.Perm.swap _ _ _).trans (.cons _ (.swap _ _ _)))))))
theorem Wd.dn4 (W : Wd H s l n (g :: c :: d :: e :: f :: cs)) : Wd H s l n (c :: d :: e :: f :: g :: cs) := W.perm (((List.Perm.swap _ _ _).trans (.cons _ ((List.Perm.swap _ _ _).trans (.cons _ ((List.Perm.swap _ _ _).trans (.cons _ (.swap _ _ _))))))).symm)
theorem Wd.sw1 (W : Wd H s l n (c :: d :: e :: cs)) : Wd H s l n (c :: e :: d :: cs) := W.perm (.cons _ (.swap _ _ _))
theorem Wd.dj (W : Wd H s l n (c :: d :: cs)) : c.dj d := (List.pairwise_cons.mp W.pw).1 d List.mem_cons_self
theorem Wd.stmNe (W : Wd H s l n (cell p o :: cs)) : p ≠ s ∧ p ≠ l := ⟨fun z => (W.os _ List.mem_cons_self).1 () o rfl z, fun z => (W.os _ List.mem_cons_self).2 () o rfl z⟩
/-- a place outside of a model -/
theorem rep_out {R : Type} {M : R → Option HO} {ad : R → Addr} (h : Rep M ad H) (ho : Out M ad b) : Rep M ad (upd H b o) := ⟨fun r u e => by rw [upd_ne (ho r u e)]; exact h.at_ r u e, h.inj⟩
end
theorem mv_put {R S : Type} {M : R → Option HO} {M' : S → Option HO} {ad : R → Addr} {ad' : S → Addr} {H H' : Hp} {p : Addr} {o : HO} (a : Mv M ad H M' ad' H') (hp : H p = none) : Mv M ad H M' ad' (upd H' p o) :=
  ⟨fun b u hb e => by rw [upd_ne (ne_of_none e hp)]; exact a.keep b u hb e, a.img⟩
/-- a model becomes another one: what is new lies at places that were free -/
theorem rep_extS {R S : Type} {M : R → Option HO} {M' : S → Option HO} {ad : R → Addr} {ad' : S → Addr} {H H' : Hp} (φ : S → R) (φi : ∀ r r', φ r = φ r' → r = r') (N : List S) (h : Rep M ad H) (at' : ∀ r o, M' r = some o → H' (ad' r) = some o)
    (cls : ∀ r o, M' r = some o → ((∃ o', M (φ r) = some o') ∧ ad' r = ad (φ r)) ∨ (r ∈ N ∧ H (ad' r) = none)) (nj : ∀ r ∈ N, ∀ r' ∈ N, ad' r = ad' r' → r = r') (keep : ∀ b o, Out M ad b → H b = some o → H' b = some o) : Rep M' ad' H' ∧ Mv M ad H M' ad' H' := by
  refine ⟨⟨at', fun r r' o o' e e' z => ?_⟩, keep, fun r u e => ?_⟩
  · rcases cls r o e with ⟨⟨u, g⟩, a⟩ | ⟨n, a⟩
    · rcases cls r' o' e' with ⟨⟨u', g'⟩, a'⟩ | ⟨n', a'⟩
      · rw [a, a'] at z; exact φi _ _ (h.inj _ _ _ _ g g' z)
      · rw [← z, a, h.at_ _ _ g] at a'; cases a'
    · rcases cls r' o' e' with ⟨⟨u', g'⟩, a'⟩ | ⟨n', a'⟩
      · rw [z, a', h.at_ _ _ g'] at a; cases a
      · exact nj r n r' n' z
  · rcases cls r u e with ⟨⟨u', g⟩, a⟩ | ⟨n, a⟩
    · exact .inl ⟨φ r, u', g, a.symm⟩
    · exact .inr a
theorem rep_ext {R : Type} {M M' : R → Option HO} {ad ad' : R → Addr} {H H' : Hp} (N : List R) (h : Rep M ad H) (at' : ∀ r o, M' r = some o → H' (ad' r) = some o)
    (cls : ∀ r o, M' r = some o → ((∃ o', M r = some o') ∧ ad' r = ad r) ∨ (r ∈ N ∧ H (ad' r) = none)) (nj : ∀ r ∈ N, ∀ r' ∈ N, ad' r = ad' r' → r = r') (keep : ∀ b o, Out M ad b → H b = some o → H' b = some o) : Rep M' ad' H' ∧ Mv M ad H M' ad' H' :=
  rep_extS id (fun _ _ z => z) N h at' cls nj keep
/-- two models as one -/
def Comp.sum (c d : Comp) : Comp := ⟨Sum c.R d.R, Sum.elim c.M d.M, Sum.elim c.ad d.ad⟩
theorem rep_sum {c d : Comp} {H : Hp} (hc : c.rep H) (hd : d.rep H) (dj : c.dj d) : (c.sum d).rep H := by
  refine ⟨fun r o e => ?_, fun r r' o o' e e' z => ?_⟩
  · cases r with
    | inl r => exact hc.at_ r o e
    | inr r => exact hd.at_ r o e
  · cases r with
    | inl r =>
      cases r' with
      | inl r' => exact congrArg Sum.inl (hc.inj _ _ _ _ e e' z)
      | inr r' => exact absurd z (dj r' o' e' r o e)
    | inr r =>
      cases r' with
      | inl r' => exact absurd z.symm (dj r o e r' o' e')
      | inr r' => exact congrArg Sum.inr (hd.inj _ _ _ _ e e' z)
theorem sum_out {c d : Comp} {b : Addr} (h : c.out b) (k : d.out b) : (c.sum d).out b := fun r u e => by
  cases r with
  | inl r => exact h r u e
  | inr r => exact k r u e
theorem Wd.join {H : Hp} {s l : Addr} {n : Nat} {c d : Comp} {cs : List Comp} (W : Wd H s l n (c :: d :: cs)) : Wd H s l n (c.sum d :: cs) := by
  have h1 := List.pairwise_cons.mp W.pw
  have h2 := List.pairwise_cons.mp h1.2
  refine ⟨W.stm, fun e he => ?_, List.pairwise_cons.mpr ⟨fun e he => ?_, h2.2⟩, fun e he => ?_⟩
  · rcases List.mem_cons.mp he with rfl | he
    · exact rep_sum W.hd W.tl.hd W.dj
    · exact W.rep e (List.mem_cons_of_mem _ (List.mem_cons_of_mem _ he))
  · intro r u er
    exact sum_out (h1.1 e (List.mem_cons_of_mem _ he) r u er) (h2.1 e he r u er)
  · rcases List.mem_cons.mp he with rfl | he
    · have a := W.os c List.mem_cons_self
      have b := W.os d (List.mem_cons_of_mem _ List.mem_cons_self)
      exact ⟨sum_out a.1 b.1, sum_out a.2 b.2⟩
    · exact W.os e (List.mem_cons_of_mem _ (List.mem_cons_of_mem _ he))
/-- a model out of a list of what lies where -/
theorem rep_list {R : Type} {M : R → Option HO} {ad : R → Addr} {H0 H : Hp} (L : List (R × Addr × HO)) (hM : ∀ r o, M r = some o → (r, ad r, o) ∈ L) (nd : (L.map (·.2.1)).Nodup) (hh : ∀ x ∈ L, H0 x.2.1 = none ∧ H x.2.1 = some x.2.2) :
    Rep M ad H ∧ ∀ r u, M r = some u → H0 (ad r) = none := by
  refine ⟨⟨fun r o e => (hh _ (hM r o e)).2, fun r r' o o' e e' z => ?_⟩, fun r u e => (hh _ (hM r u e)).1⟩
  obtain ⟨i, hi⟩ := List.getElem?_of_mem (hM r o e)
  obtain ⟨j, hj⟩ := List.getElem?_of_mem (hM r' o' e')
  have n1 : (L.map (·.2.1))[i]? = some (ad r) := by rw [List.getElem?_map, hi]; rfl
  have n2 : (L.map (·.2.1))[j]? = some (ad r) := by rw [List.getElem?_map, hj, z]; rfl
  have l := (List.getElem?_eq_some_iff.mp n1).1
  have ij := (List.getElem?_inj l nd).mp (n1.trans n2.symm)
  rw [ij, hj] at hi
  exact (congrArg Prod.fst (Option.some.inj hi)).symm
end RS

set_option Elab.async false
set_option linter.all false
set_option maxRecDepth 100000
set_option linter.all false
set_option maxRecDepth 100000
set_option maxHeartbeats 4000000
/-! Worlds of single cells: cells laid, cells set, a model gathered out of cells. -/
namespace RS
open PySem PySem.Spec PyProof.Rows L2 RC RR
section
variable {H H' : Hp} {s l p m q b : Addr} {n k : Nat} {cs xs ys : List Comp} {c : Comp} {o o' o1 o1' o2 : HO}
abbrev cl (x : Addr × HO) : Comp := cell x.1 x.2
theorem cell_dj (h : p ≠ q) : (cell p o).dj (cell q o1) := fun _ _ _ _ _ _ z => h z
theorem Wd.addL (W : Wd H s l n cs) (e : Same H H') : ∀ L : List (Addr × HO), (L.map (·.1)).Nodup → (∀ x ∈ L, H x.1 = none ∧ H' x.1 = some x.2) → Wd H' s l n (L.map cl ++ cs)
  | [], _, _ => W.same e
  | x :: L, nd, h => by
    obtain ⟨n1, n2⟩ := List.nodup_cons.mp nd
    have W' := Wd.addL W e L n2 fun y hy => h y (List.mem_cons_of_mem _ hy)
    obtain ⟨h1, h2⟩ := h x List.mem_cons_self
    obtain ⟨ne, ns, y, cc, dd, g1, g2, g3⟩ := W.stm
    refine ⟨W'.stm, fun d hd => ?_, List.pairwise_cons.mpr ⟨fun d hd => ?_, W'.pw⟩, fun d hd => ?_⟩
    · rcases List.mem_cons.mp hd with rfl | hd
      · exact cell_rep h2
      · exact W'.rep d hd
    · rcases List.mem_append.mp hd with hd | hd
      · obtain ⟨y, hy, rfl⟩ := List.mem_map.mp hd
        exact cell_dj fun z => n1 (by show x.1 ∈ _; rw [z]; exact List.mem_map_of_mem hy)
      · intro r u er _ _ _ z
        have z : x.1 = d.ad r := z
        exact (W.rep d hd).out h1 r u er z.symm
    · rcases List.mem_cons.mp hd with rfl | hd
      · exact ⟨cell_out (fun z => (by rw [← z, g1] at h1; cases h1)), cell_out (fun z => (by rw [← z, g2] at h1; cases h1))⟩
      · exact W'.os d hd
theorem Wd.mid (W : Wd H s l n (xs ++ c :: ys)) : Wd H s l n (c :: (xs ++ ys)) := W.perm List.perm_middle.symm
theorem Wd.unmid (W : Wd H s l n (c :: (xs ++ ys))) : Wd H s l n (xs ++ c :: ys) := W.perm List.perm_middle
theorem Wd.at_ (W : Wd H s l n (xs ++ cell p o :: ys)) : H p = some o := W.mid.c0
theorem Wd.setM (W : Wd H s l n (xs ++ cell p o :: ys)) : Wd (upd H p o') s l n (xs ++ cell p o' :: ys) := Wd.unmid (Wd.set W.mid)
theorem Wd.neM (W : Wd H s l n (cell p o :: (xs ++ cell m o1 :: ys))) : p ≠ m := fun z => by
  have h := (List.pairwise_cons.mp W.pw).1 (cell m o1) (by simp)
  exact h () o1 rfl () o rfl z
/-- a call that writes the cells p and m and lays q -/
theorem Wd.hand (W : Wd H s l n (cell p o :: (xs ++ cell m o1 :: ys))) (kp : ∀ b u, b ≠ p → b ≠ m → H b = some u → H' b = some u) (hq : H q = none) (hp : H' p = some o') (hm : H' m = some o1') (hq' : H' q = some o2) : Wd H' s l n (cell q o2 :: cell p o' :: (xs ++ cell m o1' :: ys)) := by
  have npm : p ≠ m := W.neM
  have W1 : Wd (upd H p o') s l n (cell p o' :: (xs ++ cell m o1 :: ys)) := W.set
  have W2 : Wd (upd (upd H p o') m o1') s l n ((cell p o' :: xs) ++ cell m o1' :: ys) := Wd.setM (xs := cell p o' :: xs) W1
  have hp0 : H p = some o := W.c0
  have hm0 : H m = some o1 := Wd.at_ (xs := cell p o :: xs) W
  have nqp : q ≠ p := fun z => by rw [z, hp0] at hq; cases hq
  have nqm : q ≠ m := fun z => by rw [z, hm0] at hq; cases hq
  refine Wd.fresh W2 (fun b u e => ?_) (by rw [upd_ne nqm, upd_ne nqp]; exact hq) hq'
  by_cases c1 : b = m
  · subst c1; rw [upd_same] at e; cases e; exact hm
  · rw [upd_ne c1] at e
    by_cases c2 : b = p
    · subst c2; rw [upd_same] at e; cases e; exact hp
    · rw [upd_ne c2] at e; exact kp b u c2 c1 e
/-- a model out of cells -/
theorem Wd.gather {R : Type} {M : R → Option HO} {ad : R → Addr} (L : List (R × Addr × HO)) (W : Wd H s l n (L.map (fun x => cell x.2.1 x.2.2) ++ cs)) (hM : ∀ r o, M r = some o → (r, ad r, o) ∈ L) : Wd H s l n (⟨R, M, ad⟩ :: cs) := by
  have mem : ∀ x ∈ L, cell x.2.1 x.2.2 ∈ L.map (fun x => cell x.2.1 x.2.2) ++ cs := fun x hx => List.mem_append_left _ (List.mem_map_of_mem hx)
  have pw := List.pairwise_append.mp W.pw
  have nd : (L.map (·.2.1)).Nodup := by
    have h1 := List.pairwise_map.mp pw.1
    refine List.pairwise_map.mpr (h1.imp fun {a b} h z => ?_)
    exact h () b.2.2 rfl () a.2.2 rfl z
  have hh : ∀ x ∈ L, (fun _ : Addr => (none : Option HO)) x.2.1 = none ∧ H x.2.1 = some x.2.2 := fun x hx => ⟨rfl, (W.rep _ (mem x hx)).at_ () _ rfl⟩
  have rp := (RS.rep_list (H0 := fun _ => none) L hM nd hh).1
  refine ⟨W.stm, fun d hd => ?_, List.pairwise_cons.mpr ⟨fun d hd => ?_, pw.2.1⟩, fun d hd => ?_⟩
  · rcases List.mem_cons.mp hd with rfl | hd
    · exact rp
    · exact W.rep d (List.mem_append_right _ hd)
  · intro r u er r' u' er' z
    exact pw.2.2 _ (List.mem_map_of_mem (hM r' u' er')) d hd r u er () u' rfl z
  · rcases List.mem_cons.mp hd with rfl | hd
    · exact ⟨fun r u er z => (W.os _ (mem _ (hM r u er))).1 () u rfl z, fun r u er z => (W.os _ (mem _ (hM r u er))).2 () u rfl z⟩
    · exact W.os d (List.mem_append_right _ hd)
theorem pw_at {ds : List Comp} (pw : ds.Pairwise Comp.dj) {i j : Nat} {a b : Comp} (hij : i ≠ j) (ha : ds[i]? = some a) (hb : ds[j]? = some b) : a.dj b := by
  obtain ⟨li, rfl⟩ := List.getElem?_eq_some_iff.mp ha
  obtain ⟨lj, rfl⟩ := List.getElem?_eq_some_iff.mp hb
  rcases Nat.lt_or_ge i j with h | h
  · exact List.pairwise_iff_getElem.mp pw i j li lj h
  · exact Dj.symm (List.pairwise_iff_getElem.mp pw j i lj li (by omega))
/-- some of the models, in another order -/
theorem Wd.pickL (is : List Nat) {ds : List Comp} (W : Wd H s l n (ds ++ cs)) (nd : is.Nodup) : Wd H s l n (is.filterMap (fun i => ds[i]?) ++ cs) := by
  have pw := List.pairwise_append.mp W.pw
  have mem : ∀ c ∈ is.filterMap (fun i => ds[i]?), c ∈ ds := fun c hc => by
    obtain ⟨i, _, hi⟩ := List.mem_filterMap.mp hc
    exact List.mem_of_getElem? hi
  have mm : ∀ c ∈ is.filterMap (fun i => ds[i]?) ++ cs, c ∈ ds ++ cs := fun c hc => by
    rcases List.mem_append.mp hc with h | h
    · exact List.mem_append_left _ (mem c h)
    · exact List.mem_append_right _ h
  refine ⟨W.stm, fun c hc => W.rep c (mm c hc), List.pairwise_append.mpr ⟨?_, pw.2.1, fun a ha b hb => pw.2.2 a (mem a ha) b hb⟩, fun c hc => W.os c (mm c hc)⟩
  refine List.pairwise_filterMap.mpr (nd.imp fun {i j} hij a ha b hb => ?_)
  exact pw_at pw.1 hij ha hb
end
end RS

set_option Elab.async false
set_option linter.all false
set_option maxRecDepth 100000
set_option maxHeartbeats 4000000
/-! What never changes, as one component of a world. -/
namespace RS
open PySem PySem.Spec PyProof.Rows L2 RC RR
def cG (G : Hp) : Comp := ⟨Addr, G, id⟩
section
variable {G H H' : Hp} {s l p : Addr} {n k : Nat} {cs ds : List Comp} {c d : Comp} {o u : HO}
theorem Wd.st (W : Wd H s l n cs) (m : cG G ∈ cs) : Same G H := fun b u e => (W.rep _ m).at_ b u e
theorem Wd.g0 (W : Wd H s l n (cG G :: cs)) : Same G H := W.st List.mem_cons_self
theorem Wd.g1 (W : Wd H s l n (c :: cG G :: cs)) : Same G H := W.st (by simp)
theorem Wd.g2 (W : Wd H s l n (c :: d :: cG G :: cs)) : Same G H := W.st (by simp)
/-- a cell that will not change any more -/
theorem Wd.take (W : Wd H s l n (cG G :: cell p o :: cs)) : Wd H s l n (cG (upd G p o) :: cs) ∧ G p = none := by
  have h1 := List.pairwise_cons.mp W.pw
  have h2 := List.pairwise_cons.mp h1.2
  have key : ∀ (r : Addr) (u : HO), upd G p o r = some u → (r = p ∧ u = o) ∨ (r ≠ p ∧ G r = some u) := fun r u e => by
    by_cases z : r = p
    · subst z; rw [upd_same] at e; exact .inl ⟨rfl, (Option.some.inj e).symm⟩
    · rw [upd_ne z] at e; exact .inr ⟨z, e⟩
  refine ⟨⟨W.stm, fun e he => ?_, List.pairwise_cons.mpr ⟨fun e he => ?_, h2.2⟩, fun e he => ?_⟩, ?_⟩
  · rcases List.mem_cons.mp he with he | he
    · rw [he]
      refine ⟨fun r u e => ?_, fun _ _ _ _ _ _ z => z⟩
      rcases key r u e with ⟨e1, e2⟩ | ⟨_, e⟩
      · rw [e2]
        show H r = _
        rw [e1]; exact W.tl.c0
      · exact W.g0 r u e
    · exact W.rep e (List.mem_cons_of_mem _ (List.mem_cons_of_mem _ he))
  · intro r u er r' u' er' z
    rcases key r' u' er' with ⟨e1, e2⟩ | ⟨_, e'⟩
    · exact h2.1 e he r u er () _ rfl (e1.symm.trans z)
    · exact h1.1 e (List.mem_cons_of_mem _ he) r u er r' u' e' z
  · rcases List.mem_cons.mp he with he | he
    · rw [he]
      have a := W.os _ List.mem_cons_self
      have b := W.os _ (List.mem_cons_of_mem _ List.mem_cons_self)
      refine ⟨fun r u e z => ?_, fun r u e z => ?_⟩
      · rcases key r u e with ⟨e1, e2⟩ | ⟨_, e⟩
        · exact b.1 () _ rfl (e1.symm.trans z)
        · exact a.1 r u e z
      · rcases key r u e with ⟨e1, e2⟩ | ⟨_, e⟩
        · exact b.2 () _ rfl (e1.symm.trans z)
        · exact a.2 r u e z
    · exact W.os e (List.mem_cons_of_mem _ (List.mem_cons_of_mem _ he))
  · cases e : G p with
    | none => rfl
    | some u => exact absurd rfl (h1.1 (cell p o) List.mem_cons_self () o rfl p u e)
/-- a new thing that will not change -/
theorem Wd.lay (W : Wd H s l n (cG G :: cs)) (hp : H p = none) : Wd (upd H p o) s l n (cG (upd G p o) :: cs) ∧ Same G (upd G p o) := by
  have h := (Wd.up1 (W.new (o := o) hp)).take
  exact ⟨h.1, RC.same_new h.2 o⟩
/-- .. what was laid since -/
theorem Wd.layS (W : Wd H s l n (cG G :: cs)) (e : Same H H') (hp : H p = none) (h : H' p = some o) : Wd H' s l n (cG (upd G p o) :: cs) ∧ Same G (upd G p o) := by
  have h := (Wd.up1 (W.fresh e hp h)).take
  exact ⟨h.1, RC.same_new h.2 o⟩
theorem Wd.g0' (W : Wd H s l n cs) : Wd H s l n (cG (fun _ => none) :: cs) :=
  ⟨W.stm, fun e he => by
    rcases List.mem_cons.mp he with rfl | he
    · exact ⟨fun r u e => (nomatch e), fun _ _ _ _ e => (nomatch e)⟩
    · exact W.rep e he, List.pairwise_cons.mpr ⟨fun e he r u er r' u' er' => (nomatch er'), W.pw⟩, fun e he => by
    rcases List.mem_cons.mp he with rfl | he
    · exact ⟨fun r u e => (nomatch e), fun r u e => (nomatch e)⟩
    · exact W.os e he⟩
end
end RS

set_option Elab.async false
set_option linter.all false
set_option maxRecDepth 100000
set_option maxHeartbeats 4000000
/-! sorted(d.items()) of a dict whose keys and values are texts; d.items() of such a dict. -/
namespace RSi
open PySem PySem.Spec PyProof.Rows L2 RC
/-- a text-to-text dict's rows -/
def rowsK (ts : List (Str × Str)) : List (Key × V) := ts.map fun e => ((Sum.inr e.1 : Key), V.str e.2)
/-- e stands not behind f -/
def Le1 (e f : Str × Str) : Prop := decide (f.1.cps.toList < e.1.cps.toList) = false
theorem str_of_list {x y : Str} (h : x.cps.toList = y.cps.toList) : x = y := by
  obtain ⟨⟨a⟩⟩ := x
  obtain ⟨⟨b⟩⟩ := y
  have h : a = b := h
  rw [h]
/-- one order alone -/
theorem uniq {xs ys ts : List (Str × Str)} (nd : (ts.map (·.1)).Nodup) (p : xs.Perm ts) (q : ys.Perm ts) (sx : xs.Pairwise Le1) (sy : ys.Pairwise Le1) : xs = ys := by
  refine List.Perm.eq_of_pairwise (le := Le1) (fun e f he hf h1 h2 => ?_) sx sy (p.trans q.symm)
  have e1 : e.1 = f.1 := str_of_list (List.le_antisymm (of_decide_eq_false h1) (of_decide_eq_false h2))
  have me := p.mem_iff.mp he
  have mf := q.mem_iff.mp hf
  clear p q sx sy
  induction ts with
  | nil => cases me
  | cons a r ih =>
    obtain ⟨n1, n2⟩ := List.nodup_cons.mp nd
    rcases List.mem_cons.mp me with rfl | ke <;> rcases List.mem_cons.mp mf with rfl | kf
    · rfl
    · have m := List.mem_map_of_mem (f := fun x : Str × Str => x.1) kf
      rw [← e1] at m
      exact absurd m n1
    · have m := List.mem_map_of_mem (f := fun x : Str × Str => x.1) ke
      rw [e1] at m
      exact absurd m n1
    · exact ih n2 ke kf
section
variable {prog : Program} {w : World} {A : Around} {E : Value → Shared → Prop} {s : Shared}
/-- v is a pair of the texts y and z -/
def Pr (h : Heap) (v : Value) (y z : Str) : Prop := ∃ (a : Addr) (t u : Tok) (o : Obj) (n : Nat), v = .ref a ∧ h.get? a = some o ∧ o.cls = .type "tuple" ∧ o.data = .seq #[.str y t, .str z u] n
/-- the first text -/
def ky (h : Heap) (v : Value) : Str := DT.txOf (DT.seqAt0 h (DT.refOf (some v)))
theorem Pr.ky {h : Heap} {v : Value} {y z : Str} (x : Pr h v y z) : ky h v = y := by
  obtain ⟨a, t, u, o, n, rfl, ho, hc, hd⟩ := x
  show DT.txOf (DT.seqAt0 h a) = y
  rw [DT.seqAt0_of (items := #[.str y t, .str z u]) ⟨o, ho, hc, n, hd⟩]
  rfl
theorem Pr.mv {h h2 : Heap} {v : Value} {y z : Str} (x : Pr h v y z) (k : ∀ b o, h.get? b = some o → o.cls = .type "tuple" → h2.get? b = some o) : Pr h2 v y z := by
  obtain ⟨a, t, u, o, n, e, ho, hc, hd⟩ := x
  exact ⟨a, t, u, o, n, e, k _ _ ho hc, hc, hd⟩
/-- the order of the pairs, as the heap h tells their first texts -/
def lt1 (h : Heap) (v u : Value) : Bool := decide ((ky h v).cps.toList < (ky h u).cps.toList)
theorem lt1_swo (h : Heap) : SrtO.Swo (lt1 h) where
  asym := fun x y q => decide_eq_false (List.lt_asymm (of_decide_eq_true q))
  tr := fun x y z q1 q2 => decide_eq_false fun q => (List.le_trans (show (ky h x).cps.toList ≤ (ky h y).cps.toList from of_decide_eq_false q1) (show (ky h y).cps.toList ≤ (ky h z).cps.toList from of_decide_eq_false q2)) q
theorem heads {h : Heap} : ∀ vs : List Value, (∀ v ∈ vs, ∃ y z, Pr h v y z) → ∃ gs : List Value, PySem.W.KatTups h vs gs ∧ gs.length = vs.length ∧ ∀ g ∈ gs, ∃ (y : Str) (t : Tok), g = Value.str y t
  | [], _ => ⟨[], PySem.W.KatTups.nil, rfl, fun g hg => nomatch hg⟩
  | v :: vs, x => by
    obtain ⟨gs, k, hl, hi⟩ := heads vs fun u hu => x u (List.mem_cons_of_mem _ hu)
    obtain ⟨y, z, a, t, u, o, n, rfl, ho, hc, hd⟩ := x v List.mem_cons_self
    refine ⟨.str y t :: gs, PySem.W.KatTups.cons ho hc hd rfl k, by rw [List.length_cons, List.length_cons, hl], fun g hg => ?_⟩
    rcases List.mem_cons.mp hg with rfl | hg
    · exact ⟨y, t, rfl⟩
    · exact hi g hg
theorem cmp1 {h0 : Heap} {vs : List Value} (hp : ∀ v ∈ vs, ∃ y z, Pr s.heap v y z ∧ Pr h0 v y z) (one : ∀ v ∈ vs, ∀ u ∈ vs, ∀ y z z2, Pr s.heap v y z → Pr s.heap u y z2 → z = z2) :
    SrtO.Cmp prog w A s (tuples' true) (fun p => p.1 ∈ vs) (SrtO.lt2 (lt1 h0)) := by
  intro p q hpm hqm
  obtain ⟨y, z, g1, g2⟩ := hp _ hpm
  obtain ⟨y', z', g1', g2'⟩ := hp _ hqm
  have eo : SrtO.lt2 (lt1 h0) p q = decide (y.cps.toList < y'.cps.toList) := by
    show decide ((ky h0 p.1).cps.toList < (ky h0 q.1).cps.toList) = _
    rw [g2.ky, g2'.ky]
  rw [eo]
  have oz := fun e : y = y' => one _ hpm _ hqm y z z' g1 (by rw [e]; exact g1')
  obtain ⟨a, t, u, o, n, e, ho, hc, hd⟩ := g1
  obtain ⟨a', t', u', o', n', e', ho', hc', hd'⟩ := g1'
  rw [e, e']
  refine PySem.W.kat_lt ho hd ho' hd' ?_
  show PySem.W.KatLex prog w A true (decide (2 < 2)) _ [(.str y t, .str y' t'), (.str z u, .str z' u')] 0 s
  refine PySem.W.kat_cons (wpAny_eqBool_str ?_)
  refine PySem.W.kat_go (fun c => ?_) (fun c => ?_)
  · have ey : y = y' := of_decide_eq_true c
    refine PySem.W.kat_yes (PySem.W.kat_cons (wpAny_eqBool_str ?_))
    refine PySem.W.kat_go (fun c2 => ?_) (fun c2 => absurd (oz ey) (of_decide_eq_false c2))
    have e3 : decide (y.cps.toList < y'.cps.toList) = false := by rw [ey]; exact decide_eq_false (List.lt_irrefl _)
    exact PySem.W.kat_yes (PySem.W.kat_nil ⟨rfl, e3.symm⟩)
  · exact PySem.W.kat_no (oneLt_any_str ⟨rfl, rfl⟩)
end
section
variable {X : Cx}
def rItemsK : V → List V → Hp → VK → Prop := fun x xs H Q => ∃ (a : Addr) (kvs : List (Key × V)), x = .ref a ∧ xs = [] ∧ H a = some (.dK kvs) ∧ ∀ p, H p = none → Q (.ref p) (upd H p (L2.DX.itemsO p a))
theorem mt_itemsK : MtR X "dict.items" rItemsK := by
  intro pins s σ H x xs v us Q I rx rxs h
  obtain ⟨a, kvs, rfl, rfl, ha, q⟩ := h
  cases rx
  cases rxs
  obtain ⟨z, lo, ws, rel, o, es, ep, ho, hx, hdat, _⟩ := dk_of I.hok ha
  refine DT.callItems (es := es) (ep := ep) lo ⟨o, ho, hx, hdat⟩ ?_
  have hf : H s.heap.objs.size = none := I.hok.fresh (Nat.le_refl _)
  refine ⟨.ref s.heap.objs.size, upd H s.heap.objs.size (L2.DX.itemsO s.heap.objs.size a), ?_, rfl, q _ hf⟩
  exact I.laid (t' := s.toks) (fun b u e => Heap.get?_push_of_some _ e) (Nat.le_refl _) (L2.DX.itemsO_ok (Heap.get?_push_size _ rfl))
theorem ents : ∀ {ts : List (Str × Str)} {ws : List (Key × Value)} {es : List DictEntry}, KV (rowsK ts) ws → Pairs (mixKind X.prog X.w) es ws → es.length = ts.length ∧ ∀ (j : Nat) (e : DictEntry), es[j]? = some e → ∃ k, ts[j]? = some k ∧ ∃ t u, e.key = .str k.1 t ∧ e.val = .str k.2 u
  | [], _, _, .nil, .nil => ⟨rfl, fun j e h => by cases j <;> cases h⟩
  | k :: ts, _, _, .cons (b := q) r rs, .cons (e := en) h1 h2 hs => by
    obtain ⟨l, g⟩ := ents rs hs
    refine ⟨by rw [List.length_cons, List.length_cons, l], fun j e h => ?_⟩
    cases j with
    | zero =>
      cases h
      obtain ⟨r1, r2⟩ := r
      obtain ⟨u, r2⟩ : ∃ u, q.2 = .str k.2 u := r2
      refine ⟨k, rfl, ?_⟩
      have h1 : keyIs q.1 en.key = true := h1
      rcases keyIs_shape h1 with ⟨i, t, e1, e2⟩ | ⟨x, t, e1, e2⟩
      · rw [← r1] at e1; cases e1
      · rw [← r1] at e1; cases e1
        exact ⟨t, u, e2, h2.trans r2⟩
    | succ j =>
      rw [List.getElem?_cons_succ] at h ⊢
      exact g j e h
def rSortKT : List V → Hp → VK → Prop := fun vs H Q => ∃ (p a : Addr) (ts : List (Str × Str)), vs = [.ref p] ∧ H p = some (L2.DX.itemsO p a) ∧ H a = some (.dK (rowsK ts)) ∧ (ts.map (·.1)).Nodup ∧
  ∀ (H2 : Hp) (l : Addr) (ps : List (Addr × Str × Str)), Same H H2 → (ps.map (·.2)).Perm ts → (ps.map (·.2)).Pairwise Le1 → H2 l = some (.lst (ps.map fun z => V.ref z.1)) → (∀ z ∈ ps, H2 z.1 = some (.tup [.str z.2.1, .str z.2.2])) → Q (.ref l) H2
theorem cr_sortedKT (hc : X.calm = true) : CallR X (.builtin "sorted") rSortKT := by
  intro pins s σ H xs us Q I r h
  obtain ⟨p, a, ts, rfl, hp, ha, nd, q⟩ := h
  obtain rfl := Vals.ref1 r
  have view : s.heap.IsItemsView p a := (show ObjOk X.prog X.w H s.heap p (L2.DX.itemsO p a) from I.hok p _ hp).1
  obtain ⟨z, lo, ws, rel, o, es, ep, ho, hx, hdat, hko, hpr, hn⟩ := dk_of I.hok ha
  obtain ⟨l1, ent⟩ := ents rel hpr
  rw [Array.length_toList] at l1
  have l0 : (rowsK ts).length = ts.length := List.length_map ..
  refine DT.sortedI (es := es) (ep := ep) (I.ok.hd hc) view ⟨o, ho, hx, hdat⟩ (by omega) fun hB tk as hk hlt hl hG => ?_
  have lak : as.length = ts.length := by omega
  have nda : as.Nodup := List.Pairwise.imp (fun h => Nat.ne_of_lt h) hG.rise
  have prs : ∀ (j : Nat) (b : Addr), as[j]? = some b → ∃ (e : Str × Str) (t u : Tok), ts[j]? = some e ∧ hB.get? b = some { cls := .type "tuple", data := .seq #[Value.str e.1 t, Value.str e.2 u] } := by
    intro j b hj
    obtain ⟨en, he, hg⟩ := hG.pairs j b hj
    obtain ⟨k, hkj, t, u, e1, e2⟩ := ent j en (by rw [Array.getElem?_toList]; exact he)
    rw [e1, e2] at hg
    exact ⟨k, t, u, hkj, hg⟩
  have hob : (hB.push { cls := .type "list", data := .seq (as.map Value.ref).toArray }).get? hB.objs.size = some (seqObj "list" (as.map Value.ref).toArray 0) := Heap.get?_push_size _ rfl
  have ne0 : ∀ b o, hB.get? b = some o → b ≠ hB.objs.size := fun b o e => Nat.ne_of_lt (Heap.lt_size e)
  generalize hC : hB.push { cls := .type "list", data := .seq (as.map Value.ref).toArray } = h2 at hob ⊢
  have ka : ∀ b o, hB.get? b = some o → h2.get? b = some o := fun b o e => by rw [← hC]; exact Heap.get?_push_of_some _ e
  have pin : ∀ v ∈ as.map Value.ref, ∃ (j : Nat) (b : Addr) (e : Str × Str), v = .ref b ∧ as[j]? = some b ∧ ts[j]? = some e ∧ Pr h2 v e.1 e.2 := by
    intro v hv
    obtain ⟨b, hb, rfl⟩ := List.mem_map.mp hv
    obtain ⟨j, hj⟩ := List.mem_iff_getElem?.mp hb
    obtain ⟨e, t, u, he, hg⟩ := prs j b hj
    exact ⟨j, b, e, rfl, hj, he, b, t, u, _, 0, rfl, ka _ _ hg, rfl, rfl⟩
  refine wpAny_call_entry PyProof.Rows.slot_list_sort ⟨_, hob, rfl⟩ PyProof.Rows.entry_list_sort
    (SrtO.list_sort_ord (s := { s with heap := h2, toks := tk }) (lt1_swo h2) hob (by rw [List.length_map]; omega) (fun g2 hD kp => ?_) fun out o1 o2 => ⟨.none, rfl, ?_⟩) (PyProof.Rows.args_list_sort _)
  · have mvs : ∀ {v : Value} {y z : Str}, v ∈ as.map Value.ref → Pr h2 v y z → Pr hD v y z := fun {v y z} hv x => by
      refine x.mv fun b o e c => kp b o (fun zz => ?_) e
      rw [zz, hob] at e
      cases e
      exact absurd (Value.type.inj c) (by decide)
    obtain ⟨gs, g3, g4, g5⟩ := heads (h := hD) (as.map Value.ref) fun v hv => by
      obtain ⟨j, b, e, _, _, _, x⟩ := pin v hv
      exact ⟨e.1, e.2, mvs hv x⟩
    refine ⟨tuples' true, fun QQ EE hq => ?_, cmp1 (s := { s with heap := hD, toks := tk }) (fun v hv => ?_) fun v hv u hu y z z2 x1 x2 => ?_⟩
    · refine PySem.W.kat_kind (T := .type "str") g3 (by omega) (fun g hg => ?_) (by rfl) ?_
      · obtain ⟨y, t, rfl⟩ := g5 g hg
        exact PySem.W.Looks.of_pure rfl
      · have e : (Value.type "str" != Value.type "tuple") = true := by first | decide +kernel | rfl | decide
        rw [e]
        exact hq
    · obtain ⟨j, b, e, _, _, _, x⟩ := pin v hv
      exact ⟨e.1, e.2, mvs hv x, x⟩
    · obtain ⟨j, b, e, rfl, hj, he, x⟩ := pin v hv
      obtain ⟨j', b', e', rfl, hj', he', x'⟩ := pin u hu
      have uq : ∀ {h : Heap} {v : Value} {y z y' z' : Str}, Pr h v y z → Pr h v y' z' → y = y' ∧ z = z' := fun {h v y z y' z'} p q => by
        obtain ⟨a1, t1, u1, o1, n1, c1, c2, _, c3⟩ := p
        obtain ⟨a2, t2, u2, o2, n2, d1, d2, _, d3⟩ := q
        rw [c1] at d1; cases d1
        rw [c2] at d2; cases d2
        rw [c3] at d3
        cases d3
        exact ⟨rfl, rfl⟩
      obtain ⟨e1, e2⟩ := uq (mvs hv x) x1
      obtain ⟨e3, e4⟩ := uq (mvs hu x') x2
      have ej : e.1 = e'.1 := e1.trans e3.symm
      have jj : j = j' := by
        have a1 : (ts.map (·.1))[j]? = some e.1 := by rw [List.getElem?_map, he]; rfl
        have a2 : (ts.map (·.1))[j']? = some e.1 := by rw [List.getElem?_map, he', ej]; rfl
        exact (List.getElem?_inj (List.getElem?_eq_some_iff.mp a1).1 nd).mp (a1.trans a2.symm)
      subst jj
      rw [he] at he'
      cases he'
      exact e2.symm.trans e4
  · show EP X pins σ Q (.ref hB.objs.size) { s with heap := sortedHeap h2 hB.objs.size (as.map Value.ref) out.toArray, toks := tk }
    obtain ⟨zs, pz, ez⟩ := perm_lift (fun z : Addr × Str × Str => Value.ref z.1) o2.perm (as.zip ts) (by
      have e := List.map_fst_zip (l₁ := as) (l₂ := ts) (by omega)
      conv => rhs; rw [← e]
      rw [List.map_map]; rfl)
    have idx : ∀ z ∈ zs, ∃ j : Nat, as[j]? = some z.1 ∧ ts[j]? = some z.2 := by
      intro zz hz
      obtain ⟨j, hj⟩ := List.mem_iff_getElem?.mp (pz.mem_iff.mp hz)
      exact ⟨j, List.getElem?_zip_eq_some.mp hj⟩
    have kys : ∀ z ∈ zs, ky h2 (.ref z.1) = z.2.1 := by
      intro zz hz
      obtain ⟨j, j1, j2⟩ := idx zz hz
      obtain ⟨e, t, u, he, hg⟩ := prs j _ j1
      rw [j2] at he
      cases he
      exact Pr.ky (z := zz.2.2) ⟨_, t, u, _, 0, rfl, ka _ _ hg, rfl, rfl⟩
    have hperm : (zs.map (·.2)).Perm ts := by
      have e := pz.map (·.2)
      rw [List.map_snd_zip (by omega)] at e
      exact e
    have hsort : (zs.map (·.2)).Pairwise Le1 := by
      have o1 : out.Pairwise (fun v u => lt1 h2 u v = false) := o1
      rw [← ez, List.pairwise_map] at o1
      rw [List.pairwise_map]
      refine List.Pairwise.imp_of_mem (fun {x y} hx hy h => ?_) o1
      have h : decide ((ky h2 (.ref y.1)).cps.toList < (ky h2 (.ref x.1)).cps.toList) = false := h
      rw [kys x hx, kys y hy] at h
      exact h
    have kF : ∀ b o, b ≠ hB.objs.size → h2.get? b = some o → (sortedHeap h2 hB.objs.size (as.map Value.ref) out.toArray).get? b = some o := fun b o hb e => (PyProof.Rows.sortedHeap_old hb (Heap.lt_size e)).trans e
    have kS : ∀ b o, s.heap.get? b = some o → (sortedHeap h2 hB.objs.size (as.map Value.ref) out.toArray).get? b = some o := fun b o e => kF b o (ne0 _ _ (hk b o e)) (ka b o (hk b o e))
    obtain ⟨eF, heF⟩ := PyProof.Rows.sortedHeap_at (vs := as.map Value.ref) (out := out.toArray) hob
    have I1 : Inv X pins σ H { s with heap := sortedHeap h2 hB.objs.size (as.map Value.ref) out.toArray, toks := tk } := I.kept (t' := tk) kS
    have hn0 : H hB.objs.size = none := I.hok.fresh (Nat.le_of_lt hlt)
    have hlen : (zs.map fun z => V.ref z.1).length ≤ sizeLine := by
      have e := hperm.length_eq
      rw [List.length_map] at e
      rw [List.length_map]
      omega
    have rv : Vals (zs.map fun z => V.ref z.1) out := by
      rw [← ez]
      exact vals_maps (fun z : Addr × Str × Str => V.ref z.1) (fun z => Value.ref z.1) zs fun _ _ => rfl
    have I2 : Inv X pins σ (upd H hB.objs.size (.lst (zs.map fun z => V.ref z.1))) { s with heap := sortedHeap h2 hB.objs.size (as.map Value.ref) out.toArray, toks := tk } :=
      I1.take (h' := sortedHeap h2 hB.objs.size (as.map Value.ref) out.toArray) (t' := tk) (fun b ob _ e => e) (I.fpOk (Nat.le_of_lt hlt) hn0) ⟨hlen, out, eF, rv, heF⟩
    obtain ⟨H2, I3, g, qt⟩ := L2.DX.takeT (P := fun b vs => ∃ (j : Nat) (e : Str × Str), as[j]? = some b ∧ ts[j]? = some e ∧ vs = [.str e.1, .str e.2]) I as _ I2 nda fun b hb => by
      obtain ⟨j, hj⟩ := List.mem_iff_getElem?.mp hb
      obtain ⟨e, t, u, he, hg⟩ := prs j b hj
      have hbl : s.heap.objs.size ≤ b := Nat.le_of_lt (hG.above b hb)
      refine ⟨hbl, ?_, [.str e.1, .str e.2], ⟨j, e, hj, he, rfl⟩, fun H3 => ⟨(by rw [sizeLine_eq]; show 2 ≤ 16777216; omega), [Value.str e.1 t, Value.str e.2 u], .cons ⟨t, rfl⟩ (.cons ⟨u, rfl⟩ .nil), ⟨_, kF _ _ (ne0 _ _ hg) (ka _ _ hg), rfl, 0, rfl⟩⟩⟩
      rw [upd_ne (ne0 _ _ hg)]
      exact I.hok.fresh hbl
    have gr : Same H H2 := fun b o e => g b o (by rw [upd_ne (ne_of_none e hn0)]; exact e)
    refine ⟨.ref hB.objs.size, H2, I3, rfl, q H2 hB.objs.size zs gr hperm hsort (g _ _ upd_same) fun zz hz => ?_⟩
    obtain ⟨i, i1, i2⟩ := idx zz hz
    obtain ⟨vs, ⟨j, e, j1, j2, ev⟩, hH⟩ := qt zz.1 (List.mem_of_getElem? i1)
    have eij : i = j := (List.getElem?_inj (List.getElem?_eq_some_iff.mp i1).1 nda).mp (i1.trans j1.symm)
    subst eij
    rw [i2] at j2
    cases j2
    rw [ev] at hH
    exact hH
end
end RSi

set_option Elab.async false
set_option linter.all false
set_option maxRecDepth 100000
set_option maxHeartbeats 4000000
/-! A bound of the tokens that are out is carried along; str.replace with a count of 1; a loop of such. -/
namespace RTk
open PySem PySem.Spec PyProof.Rows L2 RC
/-- replaced once -/
def rep1 (x y z : Str) : Str :=
  if ((Builtin.Str.occurrences x y 0 x.length 1).isEmpty || (y.length == 0 && z.length == 0)) = true then x else Builtin.Str.glued z (Builtin.Str.partsBetween x (Builtin.Str.occurrences x y 0 x.length 1) y.length)
open Builtin.Str in
theorem gives_rep1 (x y z : Str) (t u v c : Tok) (h0 : (u == 0 || v == 0) = false) (huv : (u == v) = false) (hyz : (y == z) = false) (hl : tooLong (x.length + (occurrences x y 0 x.length 1).length * z.length) = false) :
    Gives (Builtin.«str.replace» ⟨[.str x t, .str y u, .str z v, .int 1 c], []⟩) (if ((occurrences x y 0 x.length 1).isEmpty || (y.length == 0 && z.length == 0)) = true then .val (.str x t) else .str (glued z (partsBetween x (occurrences x y 0 x.length 1) y.length))) := by
  show Gives (if ((occurrences x y 0 x.length 1).isEmpty || (y.length == 0 && z.length == 0)) = true then (do rule "str.replace.nothing"; ret (.str x t)) else
    (do let same ← isSame (.str y u) (.str z v); if same = true then (do rule "str.replace.old-is-new"; ret (.str x t)) else
        if tooLong (x.length + (occurrences x y 0 x.length 1).length * z.length) = true then unsupported "str.replace:memory" else retStr (glued z (partsBetween x (occurrences x y 0 x.length 1) y.length)))) _
  cases hc : ((occurrences x y 0 x.length 1).isEmpty || (y.length == 0 && z.length == 0))
  · rw [isSame_str_other y z u v h0 huv hyz, hl]
    exact .of_eq rfl
  · exact .rule (.of_eq rfl)
open Builtin.Str in
theorem call_rep1 {prog : Program} {w : World} {A : Around} {E : Value → Shared → Prop} {s : Shared} {x y z : Str} {t u v c : Tok} {Q : Value → Shared → Prop} (hu : u ≠ 0) (hv : v ≠ 0) (huv : u ≠ v) (hyz : (y == z) = false) (hb : x.length + z.length ≤ 16777216)
    (hq : ∀ tq k, s.toks ≤ k → Q (.str (rep1 x y z) tq) { s with toks := k }) : wpAny (model prog w) A (call (.builtin "str.replace") [.str x t, .str y u, .str z v, .int 1 c]) Q E s := by
  have hl : (Builtin.Str.occurrences x y 0 x.length 1).length * z.length ≤ z.length := by
    have := StrLaws.occ_length_le x y 0 x.length 1
    calc _ ≤ 1 * z.length := Nat.mul_le_mul_right _ this
      _ = _ := Nat.one_mul _
  have ht : tooLong (x.length + (Builtin.Str.occurrences x y 0 x.length 1).length * z.length) = false := by
    unfold tooLong sizeLine
    exact decide_eq_false (by omega)
  refine call_gives F.slot_str_replace (typeIs_str _ _ _) F.entry_str_replace (F.args_str_replace_4 _ _ _ _) (gives_rep1 x y z t u v c (by simp [hu, hv]) (by simp [huv]) hyz ht) ?_
  have hq' := hq
  unfold rep1 at hq'
  cases hc : ((Builtin.Str.occurrences x y 0 x.length 1).isEmpty || (y.length == 0 && z.length == 0))
  · rw [hc] at hq'
    simp only [Bool.false_eq_true, if_false] at hq' ⊢
    refine ⟨?_, hq' _ _ (Nat.le_succ _)⟩
    have hy : (Builtin.Str.glued y (Builtin.Str.partsBetween x (Builtin.Str.occurrences x y 0 x.length 1) y.length)).length = x.length := by
      rw [StrLaws.glued_between_self]
    rw [size_glued, length_partsBetween, Nat.add_sub_cancel] at hy
    rw [size_glued, length_partsBetween, Nat.add_sub_cancel, sizeLine_eq]
    omega
  · rw [hc] at hq'
    simp only [if_true] at hq' ⊢
    exact hq' t s.toks (Nat.le_refl _)

/-! ### a bound k of the tokens that are out -/
abbrev VKn := Nat → VK
abbrev TEn := Nat → L2.St → Hp → VKn → Prop
structure Endn where
  nx : Nat → L2.St → Hp → Prop
  rt : VKn
  bk : Nat → L2.St → Hp → Prop := fun _ _ _ => False
  ct : Nat → L2.St → Hp → Prop := fun _ _ _ => False
def Endn.at (D : Endn) (k : Nat) : Ends := ⟨D.nx k, D.rt k, D.bk k, D.ct k⟩
abbrev TSn := Nat → Endn → L2.St → Hp → Prop
def EPn (X : Cx) (pins : List (Addr × Obj)) (σ : L2.St) (Q : VKn) (u : Value) (s2 : Shared) : Prop := ∃ k, k ≤ s2.toks ∧ EP X pins σ (Q k) u s2
def SPn (X : Cx) (pins : List (Addr × Obj)) (D : Endn) (f : Flow) (s2 : Shared) : Prop := ∃ k, k ≤ s2.toks ∧ SP X pins (D.at k) f s2
def APn (X : Cx) (pins : List (Addr × Obj)) (σ : L2.St) (Q : Nat → List V → Hp → Prop) (us : List Value) (s2 : Shared) : Prop := ∃ k, k ≤ s2.toks ∧ AP X pins σ (Q k) us s2
abbrev TAn := Nat → L2.St → Hp → (Nat → List V → Hp → Prop) → Prop
structure PEn (X : Cx) (e : Expr) (t : TEn) : Prop where
  run : ∀ (pins : List (Addr × Obj)) (s : Shared) (σ : L2.St) (H : Hp) (Q : VKn) (k : Nat), k ≤ s.toks → Inv X pins σ H s → t k σ H Q → wpAny (model X.prog X.w) X.A (eval e X.env) (EPn X pins σ Q) X.xe s
structure PSn (X : Cx) (st : Stmt) (t : TSn) : Prop where
  run : ∀ (pins : List (Addr × Obj)) (s : Shared) (σ : L2.St) (H : Hp) (D : Endn) (k : Nat), k ≤ s.toks → Inv X pins σ H s → t k D σ H → wpAny (model X.prog X.w) X.A (exec st X.env) (SPn X pins D) X.xe s
structure PSsn (X : Cx) (st : List Stmt) (t : TSn) : Prop where
  run : ∀ (pins : List (Addr × Obj)) (s : Shared) (σ : L2.St) (H : Hp) (D : Endn) (k : Nat), k ≤ s.toks → Inv X pins σ H s → t k D σ H → wpAny (model X.prog X.w) X.A (execs st X.env) (SPn X pins D) X.xe s
structure PAn (X : Cx) (es : List Expr) (t : TAn) : Prop where
  run : ∀ (pos : Pos) (pins : List (Addr × Obj)) (s : Shared) (σ : L2.St) (H : Hp) (Q : Nat → List V → Hp → Prop) (k : Nat), k ≤ s.toks → Inv X pins σ H s → t k σ H Q → wpAny (model X.prog X.w) X.A (spliced (backTo pos (starEach es X.env))) (APn X pins σ Q) X.xe s
section
variable {X : Cx} {e c : Expr} {es : List Expr} {te : TE} {ten : TEn} {ta : TA} {tan : TAn} {st : Stmt} {rest a b : List Stmt} {t u : TS} {tn un : TSn} {tc : TT} {pos : Pos}
def lE (te : TE) : TEn := fun k σ H Q => te σ H (Q k)
def lA (ta : TA) : TAn := fun k σ H Q => ta σ H (Q k)
def lS (t : TS) : TSn := fun k D σ H => t (D.at k) σ H
def sqN (t u : TSn) : TSn := fun k D σ H => t k { D with nx := fun j σ2 H2 => u j D σ2 H2 } σ H
theorem thk {α : Type} {t : Sem α} {Q Q2 : α → Shared → Prop} {M : Model} {A : Around} {E : Value → Shared → Prop} {s : Shared} {k : Nat} (hk : k ≤ s.toks) (h : wpAny M A t Q E s) (g : ∀ a s2, k ≤ s2.toks → Q a s2 → Q2 a s2) : wpAny M A t Q2 E s :=
  wpAny_mono (wpAny_toks_of hk h) (fun a s2 q => g a s2 q.1 q.2) fun _ _ q => q.2
theorem PEn.of (h : PE X e te) : PEn X e (lE te) := ⟨fun pins s σ H Q k hk I q => thk hk (h.run pins s σ H _ I q) fun _ _ k2 z => ⟨k, k2, z⟩⟩
theorem PAn.of (h : PA X es ta) : PAn X es (lA ta) := ⟨fun pos pins s σ H Q k hk I q => thk hk (h.run pos pins s σ H _ I q) fun _ _ k2 z => ⟨k, k2, z⟩⟩
theorem PSn.of (h : PS X st t) : PSn X st (lS t) := ⟨fun pins s σ H D k hk I q => thk hk (h.run pins s σ H (D.at k) I q) fun _ _ k2 z => ⟨k, k2, z⟩⟩
theorem PSsn.of (h : PSs X rest t) : PSsn X rest (lS t) := ⟨fun pins s σ H D k hk I q => thk hk (h.run pins s σ H (D.at k) I q) fun _ _ k2 z => ⟨k, k2, z⟩⟩
theorem psn_nil : PSsn X [] (lS tNext) := PSsn.of pss_nil
theorem psn_cons (h1 : PSn X st tn) (h2 : PSsn X rest un) : PSsn X (st :: rest) (sqN tn un) := by
  refine ⟨fun pins s σ H D k hk I h => ?_⟩
  refine wpAny_execs_cons (thn (h1.run pins s σ H _ k hk I h) fun f s1 ⟨j, hj, q⟩ => ?_)
  cases f with
  | next =>
    obtain ⟨σ2, H2, I2, q⟩ := q
    exact h2.run pins s1 σ2 H2 D j hj I2 q
  | ret v => exact ⟨j, hj, q⟩
  | brk => exact ⟨j, hj, q⟩
  | cont => exact ⟨j, hj, q⟩
def asgN (te : TEn) (g : TG) : TSn := fun k D σ H => te k σ H fun j x H1 => g x σ H1 (D.nx j)
theorem psn_asg {tg : Expr} {g : TG} (he : PEn X e ten) (hg : PG X tg g) (hs : swapsWithSole [tg] e pos.line X.env = pure false := by rfl) (hw : swappedStores [tg] e X.env = pure none := by rfl)
    (h1 : (assignEach [tg] X.env).map (·.2) = [assign tg X.env] := by rfl) : PSn X (.Assign [tg] e pos) (asgN ten g) := by
  refine ⟨fun pins s σ H D k hk I h => ?_⟩
  refine wpAny_Assign_stores (thn (he.run pins s σ H _ k hk I h) fun v s1 ⟨j, hj, x, H1, I1, r1, q1⟩ => ?_) hs hw
  rw [h1]
  exact thk hj (hg.run pins s1 σ H1 x v _ I1 r1 q1) fun _ s2 j2 q => ⟨j, j2, q⟩
theorem psn_set {i : Nat} {x : Str} {p2 : Pos} (hN : X.N.Nodup) (hi : X.N[i]? = some x) (hx : Loc X.env.scope x) (he : PEn X e ten) (hs : swapsWith e (some (.Name x p2)) pos.line X.env = pure false := by rfl)
    (hf : X.fn x = true ∨ X.env.scope.names.lookup x = some .local := by first | exact .inl rfl | exact .inr rfl | assumption) : PSn X (.Assign [.Name x p2] e pos) (asgN ten (gName i)) := by
  refine ⟨fun pins s σ H D k hk I h => ?_⟩
  refine wpAny_Assign_Name (thn (he.run pins s σ H _ k hk I h) fun v s1 ⟨j, hj, y, H1, I1, r1, q1⟩ => ?_) hs
  exact thk hj (store_ok (Q := fun _ s2 => SP X pins (D.at j) .next s2) I1 hN hi hx r1 (fun s2 I2 => ⟨_, H1, I2, q1⟩) hf) fun _ s2 j2 q => ⟨j, j2, q⟩
def dropN (te : TEn) : TSn := fun k D σ H => te k σ H fun j _ H1 => D.nx j σ H1
theorem psn_expr (he : PEn X e ten) (hs : swapsWith e none pos.line X.env = pure false := by rfl) : PSn X (.Expr e pos) (dropN ten) := by
  refine ⟨fun pins s σ H D k hk I h => ?_⟩
  exact wpAny_Expr_any (thn (he.run pins s σ H _ k hk I h) fun v s1 ⟨j, hj, x, H1, I1, r1, q1⟩ => ⟨j, hj, σ, H1, I1, q1⟩) I.quiet hs
def retN (te : TEn) : TSn := fun k D σ H => te k σ H D.rt
theorem psn_ret (he : PEn X e ten) : PSn X (.Return (some e) pos) (retN ten) := by
  refine ⟨fun pins s σ H D k hk I h => ?_⟩
  exact wpAny_Return_some (thn (he.run pins s σ H _ k hk I h) fun v s1 ⟨j, hj, x, H1, I1, r1, q1⟩ => ⟨j, hj, x, σ, H1, I1, r1, q1⟩)
def ifN (c : TT) (t u : TSn) : TSn := fun k D σ H => c σ H fun b H1 => if b = true then t k D σ H1 else u k D σ H1
theorem psn_if (hc : PT X c tc) (ha : PSsn X a tn) (hb : PSsn X b un) : PSn X (.If c a b pos) (ifN tc tn un) := by
  refine ⟨fun pins s σ H D k hk I h => ?_⟩
  refine wpAny_If (thk hk (hc.run pins s σ H _ I h) fun d s1 k2 ⟨H1, I1, q1⟩ => ?_)
  cases d with
  | true => exact ha.run pins s1 σ H1 D k k2 I1 q1
  | false => exact hb.run pins s1 σ H1 D k k2 I1 q1
/-- such a block among others -/
def offS (tn : TSn) : TS := fun D σ H => tn 0 ⟨fun _ => D.nx, fun _ => D.rt, fun _ => D.bk, fun _ => D.ct⟩ σ H
theorem pss_off (h : PSsn X rest tn) : PSs X rest (offS tn) := ⟨fun pins s σ H D I q => thn (h.run pins s σ H _ 0 (Nat.zero_le _) I q) fun f _ ⟨_, _, z⟩ => by cases f <;> exact z⟩
/-! ### arguments, lists and tuples -/
def nilN : TAn := fun k _ H Q => Q k [] H
def consN (te : TEn) (ta : TAn) : TAn := fun k σ H Q => te k σ H fun j x H1 => ta j σ H1 fun i xs H2 => Q i (x :: xs) H2
theorem pan_nil : PAn X [] nilN := ⟨fun _ _ s _ H Q k hk I h => Calls.spliced_nil ⟨k, hk, [], H, I, .nil, h⟩⟩
theorem pan_cons (ha : PEn X e ten) (hr : PAn X es tan) (hs : starEach (e :: es) X.env = (false, eval e X.env) :: starEach es X.env := by rfl) : PAn X (e :: es) (consN ten tan) := by
  refine ⟨fun pos pins s σ H Q k hk I h => ?_⟩
  rw [hs]
  show wpAny _ _ (spliced ((false, eval e X.env) :: backTo pos (starEach es X.env))) _ _ s
  refine Calls.spliced_cons (thn (ha.run pins s σ H _ k hk I h) fun v s1 ⟨j, hj, x, H1, I1, r1, q1⟩ => ?_)
  exact thn (hr.run pos pins s1 σ H1 _ j hj I1 q1) fun us s2 ⟨i, h2, xs, H2, I2, r2, q2⟩ => ⟨i, h2, x :: xs, H2, I2, .cons r1 r2, q2⟩
def lstN (ta : TAn) : TEn := fun k σ H Q => ta k σ H fun j xs H1 => xs.length ≤ sizeLine ∧ ∀ p, H1 p = none → Q j (.ref p) (upd H1 p (.lst xs))
theorem pen_lst (h : PAn X es tan) : PEn X (.List es pos) (lstN tan) := by
  refine ⟨fun pins s σ H Q k hk I hq => ?_⟩
  refine wpAny_List_spliced (thn (h.run pos pins s σ H _ k hk I hq) fun us s1 ⟨j, hj, xs, H1, I1, r, z, q⟩ => ⟨by rw [← r.length]; exact z, ?_⟩)
  have fr : H1 s1.heap.objs.size = none := I1.hok.fresh (Nat.le_refl _)
  exact ⟨j, hj, .ref s1.heap.objs.size, upd H1 s1.heap.objs.size (.lst xs), I1.laid (t' := s1.toks) (fun b u e => Heap.get?_push_of_some _ e) (Nat.le_refl _) ⟨z, us, 0, r, Heap.get?_push_size _ rfl⟩, rfl, q _ fr⟩
def tupN (ta : TAn) : TEn := fun k σ H Q => ta k σ H fun j xs H1 => xs.length ≤ sizeLine ∧ ∀ p, H1 p = none → Q j (.ref p) (upd H1 p (.tup xs))
theorem pen_tup {kt : Nat} (h : PAn X es tan) : PEn X (.Tuple es kt pos) (tupN tan) := by
  refine ⟨fun pins s σ H Q k hk I hq => ?_⟩
  refine Tuple_ (thn (h.run pos pins s σ H _ k hk I hq) fun us s1 ⟨j, hj, xs, H1, I1, r, z, q⟩ => ?_)
  refine wpAny_newObj_type ?_ (by show us.toArray.size ≤ sizeLine; rw [List.size_toArray, ← r.length]; exact z)
  have fr : H1 s1.heap.objs.size = none := I1.hok.fresh (Nat.le_refl _)
  exact ⟨j, hj, .ref s1.heap.objs.size, upd H1 s1.heap.objs.size (.tup xs), I1.laid (t' := s1.toks) (fun b u e => Heap.get?_push_of_some _ e) (Nat.le_refl _) ⟨z, us, r, ⟨_, Heap.get?_push_size _ rfl, rfl, _, rfl⟩⟩, rfl, q _ fr⟩
/-- a written text gives a token out -/
def strN (y : Str) : TEn := fun k _ H Q => Q (k + 1) (.str y) H
theorem pen_str {y : Str} {kc : Nat} : PEn X (.Constant (.str y) kc pos) (strN y) := ⟨fun pins s σ H Q k hk I h => Calls.Constant_str ⟨k + 1, Nat.succ_le_succ hk, .str y, H, I.tok _, ⟨_, rfl⟩, h⟩⟩
/-- the tokens of texts among these are out: none is 0, none is k or more -/
def Out (k : Nat) (us : List Value) : Prop := ∀ y t, Value.str y t ∈ us → t ≠ 0 ∧ t < k
theorem Out.up {k j : Nat} {us : List Value} (h : Out k us) (q : k ≤ j) : Out j us := fun y t m => ⟨(h y t m).1, Nat.lt_of_lt_of_le (h y t m).2 q⟩
/-- a tuple whose object is known, the tokens in it below k -/
def FT (k : Nat) (H : Hp) (p : Addr) (xs : List V) : Prop := ∃ (o : Obj) (us : List Value) (n : Nat), H p = some (.frz o (.tup xs)) ∧ o.data = .seq us.toArray n ∧ Out k us
theorem FT.up {k j : Nat} {H : Hp} {p : Addr} {xs : List V} (h : FT k H p xs) (q : k ≤ j) : FT j H p xs := let ⟨o, us, n, h1, h2, h3⟩ := h; ⟨o, us, n, h1, h2, h3.up q⟩
theorem FT.same {k : Nat} {H H2 : Hp} {p : Addr} {xs : List V} (h : FT k H p xs) (q : Same H H2) : FT k H2 p xs := let ⟨o, us, n, h1, h2, h3⟩ := h; ⟨o, us, n, q _ _ h1, h2, h3⟩
theorem FT.sq {K : PySem.W.Frag} {k : Nat} {H : Hp} {p : Addr} {xs : List V} (h : FT k H p xs) : SqT K H p xs := let ⟨o, us, n, h1, _⟩ := h; .inl (.inr ⟨o, h1⟩)
/-- ('text', e): the text's token is out -/
def tup1N (y : Str) (ta : TA) : TEn := fun k σ H Q => 1 ≤ k ∧ ta σ H fun vs H1 => vs.length ≤ 100 ∧ (∀ v ∈ vs, ∀ z : Str, v ≠ .str z) ∧ ∀ (p : Addr) (j : Nat) (H2 : Hp), H1 p = none → (∀ b o, H1 b = some o → H2 b = some o) → FT j H2 p (.str y :: vs) → Q j (.ref p) H2
theorem pen_tup1 {y : Str} {kc kt : Nat} {pc : Pos} (ha : PA X es ta) (hs : starEach (.Constant (.str y) kc pc :: es) X.env = (false, eval (.Constant (.str y) kc pc) X.env) :: starEach es X.env := by rfl) : PEn X (.Tuple (.Constant (.str y) kc pc :: es) kt pos) (tup1N y ta) := by
  refine ⟨fun pins s σ H Q k hk I hq => ?_⟩
  refine Tuple_ ?_
  rw [hs]
  show wpAny _ _ (spliced ((false, eval (.Constant (.str y) kc pc) X.env) :: backTo pos (starEach es X.env))) _ _ s
  refine Calls.spliced_cons (Calls.Constant_str ?_)
  have I0 : Inv X pins σ H { s with toks := s.toks + 1 } := I.tok _
  obtain ⟨hk1, hq⟩ := hq
  have h0 : s.toks ≠ 0 := by omega
  refine thk (k := s.toks + 1) (Nat.le_refl _) (ha.run pos pins { s with toks := s.toks + 1 } σ H _ I0 hq) fun us s1 k1 ⟨vs, H1, I1, r, z, nt, q⟩ => ?_
  have r2 : Vals (.str y :: vs) (Value.str y s.toks :: us) := .cons ⟨_, rfl⟩ r
  have hz : (V.str y :: vs).length ≤ sizeLine := by rw [List.length_cons, sizeLine_eq]; omega
  refine wpAny_newObj_type ?_ (by show (Value.str y s.toks :: us).toArray.size ≤ sizeLine; rw [List.size_toArray, ← r2.length]; exact hz)
  have fr : H1 s1.heap.objs.size = none := I1.hok.fresh (Nat.le_refl _)
  refine ⟨s1.toks, Nat.le_refl _, .ref s1.heap.objs.size, upd H1 s1.heap.objs.size (.frz { cls := .type "tuple", data := .seq (Value.str y s.toks :: us).toArray } (.tup (.str y :: vs))), I1.laid (t' := s1.toks) (fun b u e => Heap.get?_push_of_some _ e) (Nat.le_refl _) ?_, rfl, ?_⟩
  · exact ⟨Heap.get?_push_size _ rfl, hz, _, r2, ⟨_, Heap.get?_push_size _ rfl, rfl, _, rfl⟩⟩
  · refine q _ s1.toks _ fr (fun b o e => by rw [upd_ne (ne_of_none e fr)]; exact e) ⟨_, _, _, upd_same, rfl, fun x t m => ?_⟩
    rcases List.mem_cons.mp m with e | m
    · cases e
      exact ⟨h0, Nat.lt_of_lt_of_le (Nat.lt_succ_self _) k1⟩
    · exfalso
      clear q hq
      have : ∀ {vs : List V} {us : List Value}, Vals vs us → (∀ v ∈ vs, ∀ z : Str, v ≠ .str z) → Value.str x t ∉ us := by
        intro vs us r
        induction r with
        | nil => exact fun _ m => nomatch m
        | @cons v u vs us r1 r2 ih =>
          intro nt m
          rcases List.mem_cons.mp m with e | m
          · subst e
            cases v with
            | str z => exact nt _ List.mem_cons_self z rfl
            | non => cases r1
            | bl b => cases r1
            | int i => obtain ⟨_, r1⟩ := r1; cases r1
            | byt b => obtain ⟨_, r1⟩ := r1; cases r1
            | flt b => obtain ⟨_, r1⟩ := r1; cases r1
            | ref a => cases r1
            | ty n => cases r1
          · exact ih (fun v hv => nt v (List.mem_cons_of_mem _ hv)) m
      exact this r nt m
end
end RTk

set_option Elab.async false
set_option linter.all false
set_option maxRecDepth 100000
set_option maxHeartbeats 4000000
/-! Defs that are called with a bound of the tokens that are out; a loop that replaces once for each of a tuple's items. -/
namespace RTk
open PySem PySem.Spec PyProof.Rows L2 RC
/-- a def's promise where k tokens are out -/
abbrev SpN := Nat → List V → Hp → VKn → Prop
def CRn (outer : List Env) (P : Program) (w : World) (H : Hp) (s : Shared) (Q : VKn) (r : Result) (s2 : Shared) : Prop :=
  match r with
  | .ok (.ret u) => ∃ k, k ≤ s2.toks ∧ CE outer P w H s (Q k) u s2
  | .ok _ => False
  | .error e => CX0 outer H s E0 e s2
structure FnN (P : Program) (w : World) (K : PySem.W.Frag) (mg : Str → Option Value) (base : Heap) (k : Nat) (f : Addr) (fd : FuncData) (ps : List Str) (sp : SpN) : Prop where
  len : ∀ n vs H Q, sp n vs H Q → vs.length = ps.length
  run : ∀ (A : Around) (outer : List Env) (s : Shared) (H : Hp) (args : Args) (us : List Value) (vs : List V) (Q : VKn) (n : Nat), n ≤ s.toks → Room k A → Env0 P w K mg base A outer s H → BindsTo s fd args (ps.zip us) → Vals vs us → sp n vs H Q →
    codeAny (model P w) A (.call (.ref f) args) (CRn outer P w H s Q) s
def CallK (P : Program) (w : World) (K : PySem.W.Frag) (mg : Str → Option Value) (base : Heap) (k : Nat) (f : Addr) (ps : List Str) (sp : SpN) : Prop :=
  ∃ fd, FnN P w K mg base k f fd ps sp ∧ Binds K fd ps [] ∧ PySem.W.keepIn K (.ref f) = true
theorem CallK.up {P : Program} {w : World} {K : PySem.W.Frag} {mg : Str → Option Value} {base : Heap} {i j : Nat} {f : Addr} {ps : List Str} {sp : SpN} (c : CallK P w K mg base i f ps sp) (h : i ≤ j) : CallK P w K mg base j f ps sp :=
  let ⟨fd, F, r⟩ := c
  ⟨fd, ⟨F.len, fun A outer s H args us vs Q n hn hr => F.run A outer s H args us vs Q n hn (hr.mono h)⟩, r⟩
section
variable {X : Cx} {e : Expr} {es : List Expr} {tan : TAn} {k : Nat} {f : Addr} {ps : List Str} {sp : SpN} {x : Str} {p pos : Pos}
def callN (sp : SpN) (t : TAn) : TEn := fun k σ H Q => t k σ H fun j vs H1 => sp j vs H1 Q
theorem pen_fn (hm : X.mg x = some (.ref f)) (c : CallK X.prog X.w X.K X.mg X.base k f ps sp) (hr : Room k X.A) (hg : Gl X x) (ha : PAn X (e :: es) tan) (hdb : (x == ("__debug__" : Str)) = false := by decide)
    (he : starEach (e :: es) X.env = (false, eval e X.env) :: starEach es X.env := by rfl) (hpl : (backTo pos (starEach es X.env)).any (·.1) = false := by rfl) : PEn X (.Call (.Name x p) (e :: es) [] pos) (callN sp tan) := by
  obtain ⟨fd, F, hb, kp⟩ := c
  refine ⟨fun pins s σ H Q n hn I h => ?_⟩
  refine wpAny_Call_Name_kw (ld_glob I hg hm ?_ hdb)
  refine PySem.W.callWith_K (h₀ := X.base) I.ok.mod.kin kp (thn (ha.run pos pins s σ H _ n hn I h) fun us s1 ⟨j, hj, vs, H1, I1, r, q⟩ => ⟨I1.kIn, ?_⟩) he hpl
  have hl : (us ++ []).length = ps.length := by rw [List.append_nil, ← r.length]; exact F.len _ _ _ _ q
  have hb2 := hb s1 us I1.kIn hl
  rw [List.append_nil] at hb2
  refine wpAny_call (codeAny_mono (F.run X.A X.stack s1 H1 ⟨us, []⟩ us vs Q j hj hr I1.env0 hb2 r q) fun z s2 hz => ?_)
  cases z with
  | error e => exact pass0 pins σ H1 s1 e s2 I1 hz
  | ok fl =>
    cases fl with
    | ret u =>
      obtain ⟨i, hi, hz⟩ := hz
      exact ⟨i, hi, I1.after hz⟩
    | next => exact False.elim hz
    | brk => exact False.elim hz
    | cont => exact False.elim hz
end
section
variable {P : Program} {w : World} {K : PySem.W.Frag} {mg : Str → Option Value} {base : Heap} {x qual : Str} {f : Addr} {k : Nat} {N ps : List Str} {sp : SpN}
theorem _root_.RTk.PSsn.nox {X : Cx} {st : List Stmt} {t : TSn} (h : PSsn X.nox st t) : PSsn X st t := ⟨fun pins s σ H D k hk I q =>
  wpAny_mono (h.run pins s σ H D k hk (I.wish _) q) (fun _ _ ⟨j, hj, z⟩ => ⟨j, hj, z.unwish⟩) fun _ _ z => False.elim z⟩
theorem callK0 {st : Stmt} (F : Stands K x qual st [] f) (S : FnScope N ps (defScope st)) (len : ∀ n vs H Q, sp n vs H Q → vs.length = ps.length)
    (hbody : ∀ (cdv : Value) (A : Around) (outer : List Env) (s : Shared) (H : Hp) (vs : List V) (Q : VKn) (n : Nat), Room k (A.deeper (envOfC qual (defScope st) s.heap.objs.size f cdv)) → sp n vs H Q →
      ∃ t, PSsn (cxOf CX0 P w K mg base N qual (defScope st) f cdv A outer s H E0).nox (defBody st) t ∧ t n { nx := fun j _ H2 => Q j .non H2, rt := Q } (L2.start N vs) H)
    (h0 : ∀ (kV doc pm : Value) (an : Option Addr) (cdv ct : Value) (us : List Value), us.length = ps.length → bindArgs (PySem.W.fnOf x qual (defArgs st) (defBody st) (defScope st) .none kV doc pm an cdv ct) ⟨us, []⟩ = pure (ps.zip us)) :
    CallK P w K mg base (k + 1) f ps sp := by
  obtain ⟨fd, F⟩ := F
  have bd := F.bindsN h0
  have kp := F.kp
  obtain ⟨oc, od, dV, kV, doc, pm, an, cdv, ct, osl, rfl, lk, hcd, _, _⟩ := F.ex
  refine ⟨_, ⟨len, fun A outer s H args us vs Q n hn hr e0 hb r hsp => ?_⟩, bd, kp⟩
  have hl := len _ _ _ _ hsp
  have KX : K.In s.heap := e0.mod.kin.keeps fun b o e => (e0.bs b o e).1
  have lim : s.heap.NoLimit := e0.mod.nolimit.keeps fun b o e => (e0.bs b o e).1
  have kinds : ∀ y ∈ ps.zip us, (defScope st).names.lookup y.1 = some .local ∨ ((defScope st).names.lookup y.1 = some .cell ∧ ((cellsFrom (s.heap.objs.size + 1) (defScope st).names []).lookup y.1).isSome = true) := by
    rintro ⟨m, v⟩ hy
    rcases S.par m (List.of_mem_zip hy).1 with q | q
    · exact .inl q
    · exact .inr ⟨q, PySem.W.cellsFrom_some _ _ _ (.inl q)⟩
  refine codeAny_call_function hr.depth (KX _ _ lk) rfl S.co S.gen rfl (PySem.W.codeRec_of KX hcd) (hb _ _ _ _ ?_)
  refine thk hn (wpAny_newFunctionEnv_cells (Q := fun env s1 => env = envOfC qual (defScope st) s.heap.objs.size f cdv ∧ InCallC s s.heap.objs.size (bindL (envOfC qual (defScope st) s.heap.objs.size f cdv).kindOf (ps.zip us) fun _ => none) (cellsFrom (s.heap.objs.size + 1) (defScope st).names []) (bindC (envOfC qual (defScope st) s.heap.objs.size f cdv).kindOf (ps.zip us) fun _ => none) s1) S.kind kinds fun env he s1 xx => by subst he; exact ⟨rfl, xx⟩) fun env s1 n1 ⟨he, xx⟩ => ?_
  subst he
  refine ⟨lim.keeps xx.toInCall.keep, codeAny_func ?_⟩
  obtain ⟨t, ht, hq⟩ := hbody cdv A outer s H vs Q n (hr.deeper _) hsp
  have I : Inv (cxOf CX0 P w K mg base N qual (defScope st) f cdv A outer s H E0) [] (L2.start N vs) H s1 := inv_start S hr.hd e0 hl r xx
  refine wpAny_mono (ht.nox.run [] s1 (L2.start N vs) H _ n n1 I hq) (fun fl s2 ⟨j, hj, hs⟩ => ?_) fun e s2 hs => hs
  cases fl with
  | ret u =>
    obtain ⟨v, σ2, H2, J, rv, q⟩ := hs
    exact ⟨j, hj, v, H2, J.os, J.bare, J.base, J.hok, rv, q⟩
  | next =>
    obtain ⟨σ2, H2, J, q⟩ := hs
    exact ⟨j, hj, .non, H2, J.os, J.bare, J.base, J.hok, rfl, q⟩
  | brk =>
    obtain ⟨_, _, _, q⟩ := hs
    exact False.elim q
  | cont =>
    obtain ⟨_, _, _, q⟩ := hs
    exact False.elim q
end
/-! ### a name is stored, its value known to the token -/
section
variable {X : Cx} {pins : List (Addr × Obj)} {σ : L2.St} {H : Hp} {s : Shared}
theorem store_at {M : Model} {A : Around} {E : Value → Shared → Prop} {i : Nat} {x : Str} {v : V} {u : Value} {Q : Unit → Shared → Prop} (I : Inv X pins σ H s) (hN : X.N.Nodup) (hi : X.N[i]? = some x) (hx : X.env.scope.names.lookup x = some .local) (r : RelV v u)
    (h : ∀ s2, Inv X pins (σ.set i (some v)) H s2 → s2.toks = s.toks + 1 → (∃ m, s2.heap.Ns X.env.locals m ∧ m x = some u) → (∀ b, b ≠ X.env.locals → s2.heap.get? b = s.heap.get? b) → Q () s2) : wpAny M A (storeName X.env x u) Q E s := by
  obtain ⟨m, hn, hl⟩ := id I.loc
  have kf : (X.env.scope.kind == .class || (X.env.scope.kind == .module && X.env.locals != X.env.globals)) = false := by rw [I.ok.kind]; rfl
  have hiσ : i < σ.length := by rw [I.len]; exact (List.getElem?_eq_some_iff.mp hi).1
  refine wpAny_storeName_local hx hn (fun hp hns sb => ?_) kf
  have low : ∀ b o, X.s_0.heap.get? b = some o → hp.get? b = s.heap.get? b := fun b o q => sb.2 b (Nat.ne_of_lt (Nat.lt_of_lt_of_le (Heap.lt_size q) I.ok.above))
  refine h { s with heap := hp, toks := s.toks + 1 } ?_ rfl ⟨_, hns, by simp⟩ fun b nb => sb.2 b nb
  obtain ⟨oL, _, _, hoL, _⟩ := id hn
  constructor
  case ok => exact I.ok
  case os => exact I.os
  case bare => exact I.bare
  case free => exact I.free
  case freeC => exact I.freeC
  case len => rw [List.length_set]; exact I.len
  case base =>
    constructor
    case keep => exact fun b o q n1 n2 n3 => (low b o q).trans (I.base.keep b o q n1 n2 n3)
    case slot =>
      intro b o q n1 n2 n3
      obtain ⟨sl, z⟩ := I.base.slot b o q n1 n2 n3
      exact ⟨sl, (low b o q).trans z⟩
    case free => exact I.base.free
    case there =>
      intro b o q n3
      obtain ⟨o2, z⟩ := I.base.there b o q n3
      exact ⟨o2, (low b o q).trans z⟩
    case tups => exact I.base.tups
    case frzs => exact I.base.frzs
    case tbls => exact I.base.tbls
  case loc =>
    refine ⟨_, hns, fun j y w e1 e2 e3 => ?_⟩
    by_cases c : j = i
    · subst c
      rw [hi] at e1
      cases e1
      rw [List.getElem?_set_self hiσ] at e2
      cases e2
      exact ⟨u, r, .inl ⟨hx, by simp⟩⟩
    · rw [List.getElem?_set_ne (fun z => c z.symm)] at e2
      obtain ⟨u2, r2, q⟩ := hl j y w e1 e2 e3
      refine ⟨u2, r2, ?_⟩
      rcases q with ⟨a, b⟩ | ⟨a, c2, b, d⟩
      · have ny : ¬ y = x := fun z => c (nodup_ix hN e1 (z ▸ hi))
        exact .inl ⟨a, by show (if y = x then some u else m y) = some u2; rw [if_neg ny]; exact b⟩
      · exact .inr ⟨a, c2, b, d.sameBut sb (I.cne y c2 b)⟩
  case cell =>
    intro y c2 q
    obtain ⟨w, z⟩ := I.cell y c2 q
    exact ⟨w, z.sameBut sb (I.cne y c2 q)⟩
  case pin =>
    intro p hp2
    obtain ⟨a, b, c, d, e⟩ := I.pin p hp2
    exact ⟨(sb.2 p.1 c).trans a, b, c, d, e⟩
  case hok =>
    intro b ob q
    refine (I.hok b ob q).stay (fun c w hc q2 => (sb.2 c ?_).trans q2) (fun _ q2 => q2) fun _ _ q2 => q2
    intro z
    subst z
    rcases hc with z | z
    · rw [← z, I.free] at q; cases q
    · rw [I.free] at z; cases z
/-! ### for a in xs: m = m.replace(y, str(a), 1) -/
def argT : V → Str
  | .int i => toString i
  | .str z => z
  | _ => ""
def argOk (y : Str) : V → Prop
  | .int i => i.natAbs.log2 < 1920 ∧ (y == toString i) = false
  | .str z => (y == z) = false
  | _ => False
def runR (y : Str) (i j : Nat) : List V → L2.St → Str → L2.St × Str
  | [], σ, z => (σ, z)
  | x :: xs, σ, z => runR y i j xs ((σ.set j (some x)).set i (some (.str (rep1 z y (argT x))))) (rep1 z y (argT x))
theorem runR_snoc (y : Str) (i j : Nat) (x : V) : ∀ (xs : List V) (σ : L2.St) (z : Str), runR y i j (xs ++ [x]) σ z = ((((runR y i j xs σ z).1.set j (some x)).set i (some (.str (rep1 (runR y i j xs σ z).2 y (argT x)))), rep1 (runR y i j xs σ z).2 y (argT x)))
  | [], _, _ => rfl
  | _ :: xs, _, _ => runR_snoc y i j x xs _ _
theorem runR_at (y : Str) {i j : Nat} (h : i ≠ j) : ∀ (xs : List V) (σ : L2.St) (z : Str), σ[i]? = some (some (.str z)) → (runR y i j xs σ z).1[i]? = some (some (.str (runR y i j xs σ z).2))
  | [], _, _, h0 => h0
  | x :: xs, σ, z, h0 => by
    refine runR_at y h xs _ _ ?_
    have : i < σ.length := (List.getElem?_eq_some_iff.mp h0).1
    rw [List.getElem?_set_self (by rw [List.length_set]; exact this)]
theorem rep1_len (x y z : Str) : (rep1 x y z).length ≤ x.length + z.length := by
  unfold rep1
  split
  · omega
  · have hl : (Builtin.Str.occurrences x y 0 x.length 1).length * z.length ≤ z.length := by
      have := StrLaws.occ_length_le x y 0 x.length 1
      calc _ ≤ 1 * z.length := Nat.mul_le_mul_right _ this
        _ = _ := Nat.one_mul _
    have hy : (Builtin.Str.glued y (Builtin.Str.partsBetween x (Builtin.Str.occurrences x y 0 x.length 1) y.length)).length = x.length := by rw [StrLaws.glued_between_self]
    rw [size_glued, length_partsBetween, Nat.add_sub_cancel] at hy
    rw [size_glued, length_partsBetween, Nat.add_sub_cancel]
    omega
theorem runR_len (y : Str) (i j b : Nat) : ∀ (xs : List V) (σ : L2.St) (z : Str), (∀ x ∈ xs, (argT x).length ≤ b) → (runR y i j xs σ z).2.length ≤ z.length + xs.length * b
  | [], _, z, _ => by show z.length ≤ _; omega
  | x :: xs, σ, z, h => by
    have := runR_len y i j b xs ((σ.set j (some x)).set i (some (.str (rep1 z y (argT x))))) (rep1 z y (argT x)) fun v hv => h v (List.mem_cons_of_mem _ hv)
    have h2 := rep1_len z y (argT x)
    have h3 := h x List.mem_cons_self
    show (runR y i j xs _ _).2.length ≤ _
    rw [List.length_cons, Nat.add_mul, Nat.one_mul]
    omega
/-- a tuple whose texts' tokens are below k, or of no texts -/
def FTs (K : PySem.W.Frag) (k : Nat) (H : Hp) (p : Addr) (xs : List V) : Prop := FT k H p xs ∨ (SqT K H p xs ∧ ∀ x ∈ xs, ∀ z : Str, x ≠ .str z)
theorem FTs.up {K : PySem.W.Frag} {k j : Nat} {H : Hp} {p : Addr} {xs : List V} (h : FTs K k H p xs) (q : k ≤ j) : FTs K j H p xs := h.imp (fun h => h.up q) id
theorem FTs.same {K : PySem.W.Frag} {k : Nat} {H H2 : Hp} {p : Addr} {xs : List V} (h : FTs K k H p xs) (q : Same H H2) : FTs K k H2 p xs := h.imp (fun h => h.same q) fun h => ⟨q.seqT h.1, h.2⟩
theorem FTs.sq {K : PySem.W.Frag} {k : Nat} {H : Hp} {p : Addr} {xs : List V} (h : FTs K k H p xs) : SqT K H p xs := h.elim (fun h => h.sq) (·.1)
theorem no_str {x : Str} {t : Tok} : ∀ {vs : List V} {us : List Value}, Vals vs us → (∀ v ∈ vs, ∀ z : Str, v ≠ .str z) → Value.str x t ∉ us := by
  intro vs us r
  induction r with
  | nil => exact fun _ m => nomatch m
  | @cons v u vs us r1 r2 ih =>
    intro nt m
    rcases List.mem_cons.mp m with e | m
    · subst e
      cases v with
      | str z => exact nt _ List.mem_cons_self z rfl
      | non => cases r1
      | bl b => cases r1
      | int i => obtain ⟨_, r1⟩ := r1; cases r1
      | byt b => obtain ⟨_, r1⟩ := r1; cases r1
      | flt b => obtain ⟨_, r1⟩ := r1; cases r1
      | ref a => cases r1
      | ty n => cases r1
    · exact ih (fun v hv => nt v (List.mem_cons_of_mem _ hv)) m
def repN (K : PySem.W.Frag) (te : TE) (y : Str) (i j : Nat) : TSn := fun k D σ H => te σ H fun v H1 => ∃ (p : Addr) (xs : List V) (z : Str), v = .ref p ∧ FTs K k H1 p xs ∧ σ[i]? = some (some (.str z)) ∧ (∀ x ∈ xs, argOk y x ∧ (argT x).length ≤ 10000) ∧ z.length ≤ 1000000 ∧ xs.length ≤ 100 ∧ D.nx k (runR y i j xs σ z).1 H1
end
section
variable {X : Cx} {e : Expr} {te : TE}
theorem psn_rep {i j : Nat} {m a : Str} {y : Str} {kc kd : Nat} {pa pm p1 p2 p3 p4 p5 p6 p7 p8 p9 pos : Pos} (hp : PassesOwn (model X.prog X.w) X.A X.env X.xe) (hc : X.calm = true) (hN : X.N.Nodup) (hi : X.N[i]? = some m) (hj : X.N[j]? = some a) (hij : i ≠ j) (hm : X.env.scope.names.lookup m = some .local) (ha : X.env.scope.names.lookup a = some .local)
    (gs : Gl X "str") (ms : X.mg "str" = none) (bs : bootBuiltins "str" = some (.type "str")) (he : PE X e te) (hma : (m == ("__debug__" : Str)) = false := by decide) (haa : (a == ("__debug__" : Str)) = false := by decide)
    (hs : ∀ x, foldedSetIterable e X.env x = pure x := by intro _; rfl)
    (hs2 : swapsWith (.Call (.Attribute (.Name m p1) "replace" p2) [.Constant (.str y) kc p3, .Call (.Name "str" p4) [.Name a p5] [] p6, .Constant (.int 1) kd p7] [] p8) (some (.Name m pm)) p9.line X.env = pure false := by rfl)
    (hbase : attributeBase (.Name m p1) "replace" X.env (eval (.Name m p1) X.env) = eval (.Name m p1) X.env := by rfl)
    (hfew : ((backTo p8 (starEach [.Constant (.str y) kc p3, .Call (.Name "str" p4) [.Name a p5] [] p6, .Constant (.int 1) kd p7] X.env)).all (fun x => !x.1) && (backToKw p8 (keywordEach [] X.env)).all (fun x => x.1.isSome)
      && decide ([Expr.Constant (.str y) kc p3, .Call (.Name "str" p4) [.Name a p5] [] p6, .Constant (.int 1) kd p7].length + ([] : List Keyword).length + (if ([] : List Keyword).isEmpty then 0 else 1) < 30)) = true := by rfl)
    (hline : (p2.endLine == p8.line) = true := by rfl)
    (hst : starEach [.Constant (.str y) kc p3, .Call (.Name "str" p4) [.Name a p5] [] p6, .Constant (.int 1) kd p7] X.env = [(false, eval (.Constant (.str y) kc p3) X.env), (false, eval (.Call (.Name "str" p4) [.Name a p5] [] p6) X.env), (false, eval (.Constant (.int 1) kd p7) X.env)] := by rfl)
    (hsa : starEach [.Name a p5] X.env = [(false, eval (.Name a p5) X.env)] := by rfl) :
    PSn X (.For (.Name a pa) e [.Assign [.Name m pm] (.Call (.Attribute (.Name m p1) "replace" p2) [.Constant (.str y) kc p3, .Call (.Name "str" p4) [.Name a p5] [] p6, .Constant (.int 1) kd p7] [] p8) p9] [] pos) (repN X.K te y i j) := by
  refine ⟨fun pins s σ H D k hk I h => ?_⟩
  refine wpAny_For (thk hk (he.run pins s σ H _ I h) fun v s1 k1 ⟨x1, H1, I1, r1, b, xs, z, e1, hft, hz, hx, hzl, hxl, q⟩ => ?_) hs
  subst e1
  cases r1
  have look : ∀ {sA : Shared} {σA : L2.St}, Inv X pins σA H1 sA → ∃ us : List Value, Vals xs us ∧ sA.heap.IsTuple b us.toArray ∧ Out k us := by
    intro sA σA IA
    rcases hft with ⟨o, us, nn, hb, hd, hout⟩ | ⟨hq, hns⟩
    · obtain ⟨hob, _, us2, rv, o2, ho2, hc2, n2, hd2⟩ := (show ObjOk X.prog X.w H1 sA.heap b (.frz o (.tup xs)) from IA.hok b _ hb)
      rw [hob] at ho2
      cases ho2
      rw [hd] at hd2
      obtain rfl : us = us2 := by
        have e3 := congrArg (fun d : Data => match d with | .seq a _ => a.toList | _ => []) hd2
        simpa using e3
      exact ⟨us, rv, ⟨o, hob, hc2, nn, hd⟩, hout⟩
    · obtain ⟨us, rv, pt, _⟩ := IA.tuple hq
      exact ⟨us, rv, pt, fun y t m => absurd m (no_str rv hns)⟩
  obtain ⟨us0, rv0, tup0, _⟩ := look I1
  refine wpAny_pyIter_tuple tup0 ?_
  have I2 : Inv X pins σ H1 { s1 with heap := s1.heap.push { cls := .type "tuple_iterator", data := .fields #[.ref b, .int 0 0] } } := I1.kept (t' := s1.toks) fun b o e => Heap.get?_push_of_some _ e
  have fp : FpOk X pins H1 s1.heap.objs.size := I1.fpOk (Nat.le_refl _) (I1.hok.fresh (Nat.le_refl _))
  have it0 : ({ s1 with heap := s1.heap.push { cls := .type "tuple_iterator", data := .fields #[.ref b, .int 0 0] } } : Shared).heap.IsTupleIter s1.heap.objs.size b 0 := ⟨_, Heap.get?_push_size _ rfl, rfl, rfl⟩
  have kB : k ≤ ({ s1 with heap := s1.heap.push { cls := .type "tuple_iterator", data := .fields #[.ref b, .int 0 0] } } : Shared).toks := k1
  generalize s1.heap.objs.size = it at fp it0 ⊢
  generalize ({ s1 with heap := s1.heap.push { cls := .type "tuple_iterator", data := .fields #[.ref b, .int 0 0] } } : Shared) = sB at I2 it0 kB ⊢
  obtain ⟨f0, f1, f2, f3, f4, f5⟩ := fp
  refine codeAny_forLoop_any (fun n sA => ∃ g : Nat, n = xs.length - g ∧ g ≤ xs.length ∧ k ≤ sA.toks ∧ Inv X pins (runR y i j (xs.take g) σ z).1 H1 sA ∧ sA.heap.IsTupleIter it b g) ?_ xs.length ⟨0, rfl, Nat.zero_le _, kB, I2, it0⟩
  rintro n sA ⟨g, rfl, hle, kA, IA, itA⟩
  obtain ⟨us, rv, obA, hout⟩ := look IA
  have hul := rv.length
  by_cases hlt : g < xs.length
  · obtain ⟨x, ex⟩ : ∃ x, xs[g]? = some x := ⟨xs[g], by simp [hlt]⟩
    obtain ⟨u, eu, ru⟩ := rv.get ex
    have zi := runR_at y hij (xs.take g) σ z hz
    have zl := runR_len y i j 10000 (xs.take g) σ z fun v hv => (hx v (List.mem_of_mem_take hv)).2
    rw [List.length_take, Nat.min_eq_left hle] at zl
    have tk := List.take_add_one (l := xs) (i := g)
    rw [ex] at tk
    have tk : xs.take (g + 1) = xs.take g ++ [x] := tk
    obtain ⟨okx, lx⟩ := hx x (List.mem_of_getElem? ex)
    refine wpAny_pyNext_tuple_item itA obA (x := u) (by simpa using eu) fun hC itC sb => ?_
    obtain ⟨oi, hoi, hci, hdi⟩ := id itC
    have IC : Inv X pins (runR y i j (xs.take g) σ z).1 H1 { sA with heap := hC } := IA.turned (t' := sA.toks) (fun b o hb e => (sb.2 b hb).trans e) f0 f1 f3 f4 f5
    refine go_of (s := { sA with heap := hC }) hoi hci hdi (by decide) ?_
    refine wpAny_assign_Name (store_at IC hN hj ha ru fun s5 I5 t5 ⟨m5, hn5, hm5⟩ kp5 => ?_)
    have t5 : s5.toks = sA.toks + 1 := t5
    have it5 : s5.heap.IsTupleIter it b (g + 1) := ⟨oi, (kp5 it f1).trans hoi, hci, hdi⟩
    generalize hZ : (runR y i j (xs.take g) σ z).2 = zA at zi zl
    have zi5 : ((runR y i j (xs.take g) σ z).1.set j (some x))[i]? = some (some (.str zA)) := by rw [List.getElem?_set_ne (Ne.symm hij)]; exact zi
    obtain ⟨mm, hnm, hlm⟩ := id I5.loc
    obtain ⟨um, ⟨tm, rm⟩, lm⟩ := hlm i m _ hi zi5 (.inl hm)
    subst rm
    have lm : mm m = some (.str zA tm) := by
      rcases lm with ⟨_, q⟩ | ⟨c, _⟩
      · exact q
      · rcases c with c | c <;> exact absurd (hm.symm.trans c) (fun z => nomatch z)
    refine wpAny_execs_cons (wpAny_Assign_Name ?_ hs2)
    refine wpAny_Call_method_late hbase hfew hline (congrArg (backTo p8) hst) (wpAny_Name (wpAny_loadName_local I5.ok.kind hm hnm lm ?_) hma)
    refine ⟨"str", _, PySem.F.plainAttrs_str, PySem.F.slot_str_replace, PySem.F.type_str_replace, typeIs_str _ _ _, (fun _ e => nomatch e), Calls.callWith_builtin rfl (Calls.evalArgs_plain (Calls.spliced_cons ?_))⟩
    refine Calls.Constant_str (k := kc) (pos := p3) (Calls.spliced_cons ?_)
    refine wpAny_Call_Name_kw (ld_blt (I5.tok _) gs ms bs ?_)
    refine PyProof.Rows.callWith_type1 ?_ hsa rfl
    rw [hsa]
    refine Calls.spliced_cons (wpAny_Name (wpAny_loadName_local I5.ok.kind ha hn5 hm5 (Calls.spliced_nil ?_)) haa)
    have h5 : s5.toks ≠ 0 := by omega
    have kx : k ≤ s5.toks := by omega
    have hx1 : xs.length * 10000 ≤ 1000000 := by omega
    have hx2 : g * 10000 ≤ xs.length * 10000 := Nat.mul_le_mul_right _ hle
    cases x with
    | int nx =>
      obtain ⟨tu, rfl⟩ := ru
      refine PySem.P.str_of_int okx.1 ?_
      have hv : s5.toks + 1 ≠ 0 := by omega
      have hne : s5.toks ≠ s5.toks + 1 := by omega
      refine Calls.spliced_cons (wpAny_Constant_int (k := kd) (pos := p7) (Calls.spliced_nil ?_))
      have lz : zA.length + (argT (.int nx)).length ≤ 16777216 := by omega
      refine call_rep1 h5 hv hne okx.2 lz fun tq kk hk2 => ?_
      refine store_at (v := .str _) (I5.tok kk) hN hi hm ⟨tq, rfl⟩ fun s6 I6 t6 _ kp6 => wpAny_execs_nil ⟨xs.length - (g + 1), by omega, g + 1, rfl, by omega, ?_, ?_, ?_⟩
      · have t6 : s6.toks = kk + 1 := t6
        have hk2 : s5.toks + 1 ≤ kk := Nat.le_trans (by first | exact Nat.le_refl _ | exact Nat.le_succ _ | (show s5.toks + 1 ≤ s5.toks + 1 + 1 + 1; omega) | (show s5.toks + 1 ≤ s5.toks + 1 + 1; omega)) hk2
        omega
      · rw [tk, runR_snoc, hZ]
        exact I6
      · exact ⟨oi, (kp6 it f1).trans ((kp5 it f1).trans hoi), hci, hdi⟩
    | str w =>
      obtain ⟨tu, rfl⟩ := ru
      refine PySem.P.str_of_str ?_
      obtain ⟨hv, hlt3⟩ := hout w tu (List.mem_of_getElem? eu)
      have hne : s5.toks ≠ tu := fun zz => Nat.lt_irrefl _ (by have q := Nat.lt_of_lt_of_le hlt3 kx; rw [zz] at q; exact q)
      refine Calls.spliced_cons (wpAny_Constant_int (k := kd) (pos := p7) (Calls.spliced_nil ?_))
      have lz : zA.length + (argT (.str w)).length ≤ 16777216 := by omega
      refine call_rep1 h5 hv hne okx lz fun tq kk hk2 => ?_
      refine store_at (v := .str _) (I5.tok kk) hN hi hm ⟨tq, rfl⟩ fun s6 I6 t6 _ kp6 => wpAny_execs_nil ⟨xs.length - (g + 1), by omega, g + 1, rfl, by omega, ?_, ?_, ?_⟩
      · have t6 : s6.toks = kk + 1 := t6
        have hk2 : s5.toks + 1 ≤ kk := Nat.le_trans (by first | exact Nat.le_refl _ | exact Nat.le_succ _ | (show s5.toks + 1 ≤ s5.toks + 1 + 1 + 1; omega) | (show s5.toks + 1 ≤ s5.toks + 1 + 1; omega)) hk2
        omega
      · rw [tk, runR_snoc, hZ]
        exact I6
      · exact ⟨oi, (kp6 it f1).trans ((kp5 it f1).trans hoi), hci, hdi⟩
    | non => exact okx.elim
    | bl c => exact okx.elim
    | byt c => exact okx.elim
    | flt c => exact okx.elim
    | ref c => exact okx.elim
    | ty c => exact okx.elim
  · have hge : xs.length ≤ g := by omega
    have eg : g = xs.length := by omega
    subst eg
    rw [List.take_length] at IA
    refine wpAny_pyNext_tuple_end (I.ok.hd hc) itA obA (by simp; omega) fun hC eb => ?_
    have IC : Inv X pins (runR y i j xs σ z).1 H1 { sA with heap := hC } := IA.turned (t' := sA.toks) (fun b o hb e => eb b o hb e) f0 f1 f3 f4 f5
    exact wpAny_execs_nil ⟨k, kA, _, H1, IC, q⟩
end
end RTk

set_option Elab.async false
set_option linter.all false
set_option maxRecDepth 100000
set_option maxHeartbeats 0

namespace K17
open PySem PySem.Spec PyProof.Rows L2 RC
section
variable {P : Program} {w : World} {K : PySem.W.Frag} {mg : Str → Option Value} {base : Heap}
/-! ### the law's world -/
theorem stm_new {H : Hp} {s l D : Addr} {n : Nat} (h : Stm H s l n) (hD : H D = none) : D ≠ s ∧ D ≠ l :=
  ⟨fun z => (by obtain ⟨_, _, _, _, _, z1, _⟩ := h; rw [z, z1] at hD; cases hD), fun z => (by obtain ⟨_, _, _, _, _, _, z1, _⟩ := h; rw [z, z1] at hD; cases hD)⟩
theorem old_new {s l D : Addr} {H H' : Hp} {o : HO} (h : Old s l H H') (hD : H D = none) : Old s l H (upd H' D o) := fun b u h1 h2 e => by rw [upd_ne (ne_of_none e hD)]; exact h b u h1 h2 e
def spPick (K : PySem.W.Frag) : Sp := fun vs H Q _ => ∃ (s l p : Addr) (n : Nat) (xs : List V), vs = [.ref s, .ref p] ∧ Stm H s l n ∧ n ≤ 1000000 ∧ p ≠ s ∧ p ≠ l ∧ H p = some (.lst xs) ∧ 1 ≤ xs.length ∧ xs.length ≤ 1000 ∧ ∀ (H' : Hp) (x : V), Old s l H H' → Stm H' s l (n + 1) → x ∈ xs → Q x H'
theorem ok_pick {f : Addr} (T : Txt P w K mg) (F : Stands K "_law_pick" "_law_pick" s__law_pick [] f) (c__law_draw : Callable P w K mg base 1 (He.ga K "_law_draw") ["_law_stream", "_law_many"] [] spDraw) : Callable P w K mg base 2 f ["_law_stream", "_law_some"] [] (spPick K) := by
  refine F.call0 sc__law_pick (fun vs H Q E h => ?_) (fun cdv A outer s H vs Q E hr h => ?_) (fun _ _ _ _ _ _ us hl => match us, hl with | [_, _], _ => rfl)
  · obtain ⟨s, l, p, n, xs, rfl, _⟩ := h; rfl
  obtain ⟨s, l, p, n, xs, rfl, hs, hn, nps, npl, hp, hx1, hx2, hQ⟩ := h
  refine ⟨_, (pss_one (ps_ret (pe_ix ix_list (pv 1) (pe_fn T.g__law_draw c__law_draw (hr.mono (by first | decide | exact Nat.le_refl _)) (by rfl) (pa_cons (pv 0) (pa_cons (pe_callB call_len (by rfl) T.b_len (by decide +kernel) (pa_cons (pv 1) pa_nil)) pa_nil))) (fun _ _ => rfl)))), ?_⟩
  refine ⟨_, rfl, _, rfl, _, rfl, _, xs.length, rfl, .inl ⟨xs, SqL.of hp, rfl⟩, s, l, n, xs.length, rfl, hs, hn, by omega, by omega, fun H' d h1 h2 h3 h4 => ?_⟩
  obtain ⟨j, rfl⟩ := Int.eq_ofNat_of_zero_le h3
  have hj : j < xs.length := by omega
  refine ⟨p, xs, j, xs[j], rfl, rfl, SqL.of (h1 _ _ nps npl hp), atI_nat (by simp [hj]), ?_⟩
  exact hQ H' _ h1 h2 (List.getElem_mem hj)
/-- the yard with its files as one component -/
def cF (K : PySem.W.Frag) (s : FS) (ad : Ro → Addr) : RS.Comp := ⟨Ro, Y1 K s ad, ad⟩
def FS.s0 (now : Int) : FS := ⟨now, [], [], [], []⟩
def adY (y dy : Addr) (q : YParts) : Ro → Addr
  | .y => y | .fi => q.fi | .na => q.na | .nu => q.nu | .md => q.md | .fr => q.fr | .st => q.st | .h _ => 0 | .hl _ => 0 | .ft _ => 0 | .row _ => 0
  | .x 0 => dy | .x 2 => q.lm | .x 3 => q.hn | .x 4 => q.rt | .x 5 => q.lr | .x _ => 0
theorem YNew.repF {now : Int} {H H2 : Hp} {y dy : Addr} {q : YParts} (hy : H y = none) (hd : H dy = none) (hne : dy ≠ y) (N : YNew K (upd (upd H dy (.own y)) y (.ins (CY K) dy [])) H2 y dy now q) : ∃ ad : Ro → Addr, ad .y = y ∧ YR K (FS.s0 now) ad H2 ∧ (∀ r u, Y1 K (FS.s0 now) ad r = some u → H (ad r) = none) ∧ Same H H2 := by
  obtain ⟨rd, ld, F⟩ := N.fr
  have S : Same H H2 := made_same hy hd F.kp
  have gy := N.y
  have gm := N.md
  have hm0 : H q.md = none := by
    rcases F.old q.md List.mem_cons_self with c | c
    · rw [c, gy] at gm; cases gm
    · exact (upd_none (upd_none c).2).2
  have nym : y ≠ q.md := fun z => by rw [← z, gy] at gm; cases gm
  have k0 : ∀ e ∈ q.L K y rd ld, H e.1 = none ∧ H2 e.1 = some e.2 := fun e he => ⟨(upd_none (upd_none (F.has e he).2.1).2).2, (F.has e he).2.2⟩
  have nL : ∀ e ∈ q.L K y rd ld, e.1 ≠ y ∧ e.1 ≠ q.md := fun e he => by
    have := (F.has e he).1
    simp only [List.mem_cons, List.not_mem_nil, or_false, not_or] at this
    exact ⟨this.2, this.1⟩
  have main := RS.rep_list (M := Y1 K (FS.s0 now) (adY y dy q)) (ad := adY y dy q) (H0 := H) (H := H2) [(.y, y, .ins (CY K) dy (yF now q.st q.fi q.na q.nu q.lm q.md q.hn q.fr q.rt q.lr)), (.md, q.md, .lst []),
    (.x 0, q.ll, .lst []), (.x 0, q.lr, .ins (He.ga K "StreamHandler") ld (hF q.ll y ++ ([("stream", .str "stderr")] : List (Str × V)))), (.x 0, q.rh, .lst []), (.x 0, q.rl, .lst []), (.x 0, q.rt, .ins (CL K) rd (lF q.rl y "root" 30 q.rh .non)), (.fr, q.fr, .lst []), (.x 0, q.hn, .dK []), (.x 0, q.lm, .dK []), (.nu, q.nu, .dK (kv_FIRST_NUMBERS.map fun q => (q.1, q.2.v K))), (.na, q.na, .dK (kv_FIRST_NAMES.map fun q => (q.1, q.2.v K))), (.fi, q.fi, .dK []), (.st, q.st, .dK [])]
    (fun r o e => ?_) ?_ (fun x hx => ?_)
  · exact ⟨_, rfl, main.1, main.2, S⟩
  · cases r with
    | y => cases e; first | (simp [adY]; done) | (simp [adY]; rfl)
    | fi => cases e; first | (simp [adY]; done) | (simp [adY]; rfl)
    | na => cases e; first | (simp [adY]; done) | (simp [adY]; rfl)
    | nu => cases e; first | (simp [adY]; done) | (simp [adY]; rfl)
    | md => cases e; first | (simp [adY]; done) | (simp [adY]; rfl)
    | fr => cases e; first | (simp [adY]; done) | (simp [adY]; rfl)
    | st => cases e; first | (simp [adY]; done) | (simp [adY]; rfl)
    | h i => cases e
    | hl i => cases e
    | ft i => cases e
    | row x => cases e
    | x j => cases e
  · show (y :: q.md :: (q.L K y rd ld).map (·.1)).Nodup
    refine List.nodup_cons.mpr ⟨fun z => ?_, List.nodup_cons.mpr ⟨fun z => ?_, F.nd⟩⟩
    · rcases List.mem_cons.mp z with z | z
      · exact nym z
      · obtain ⟨e, he, z⟩ := List.mem_map.mp z
        exact (nL e he).1 z
    · obtain ⟨e, he, z⟩ := List.mem_map.mp z
      exact (nL e he).2 z
  · rcases List.mem_cons.mp hx with rfl | hx
    · exact ⟨hy, gy⟩
    rcases List.mem_cons.mp hx with rfl | hx
    · exact ⟨hm0, gm⟩
    simp only [List.mem_cons, List.not_mem_nil, or_false] at hx
    rcases hx with rfl | rfl | rfl | rfl | rfl | rfl | rfl | rfl | rfl | rfl | rfl | rfl <;> exact k0 _ (by simp [YParts.L])
theorem Ap.of {H : Hp} {s l : Addr} {n : Nat} {st : FS} {ad : Ro → Addr} {G : Hp} {cs : List RS.Comp} (W : RS.Wd H s l n (cF K st ad :: RS.cG G :: cs)) : Ap K st ad G H :=
  ⟨W.g1, fun b o e => (List.pairwise_cons.mp W.pw).1 (RS.cG G) List.mem_cons_self b o e⟩
/-- all that was laid since, as what never changes -/
noncomputable def gAdd (G H H' : Hp) : Hp := open Classical in fun b => if H b = none then H' b else G b
theorem _root_.RS.Wd.layAll {H H' G : Hp} {s l : Addr} {n : Nat} {cs : List RS.Comp} (W : RS.Wd H s l n (RS.cG G :: cs)) (e : Same H H') : RS.Wd H' s l n (RS.cG (gAdd G H H') :: cs) ∧ Same G (gAdd G H H') ∧ ∀ b o, H b = none → H' b = some o → gAdd G H H' b = some o := by
  have g0 := W.g0
  have key : ∀ b o, gAdd G H H' b = some o → (H b = none ∧ H' b = some o) ∨ (H b ≠ none ∧ G b = some o) := fun b o h => by
    unfold gAdd at h
    by_cases c : H b = none
    · rw [if_pos c] at h; exact .inl ⟨c, h⟩
    · rw [if_neg c] at h; exact .inr ⟨c, h⟩
  have W' := W.same e
  have h1 := List.pairwise_cons.mp W.pw
  have nst : ∀ b, H b = none → b ≠ s ∧ b ≠ l := fun b hb => stm_new W.stm hb
  refine ⟨⟨W'.stm, fun d hd => ?_, List.pairwise_cons.mpr ⟨fun d hd r u er r' u' er' z => ?_, h1.2⟩, fun d hd => ?_⟩, fun b o h => ?_, fun b o h1 h2 => ?_⟩
  · rcases List.mem_cons.mp hd with rfl | hd
    · refine ⟨fun b o h => ?_, fun _ _ _ _ _ _ z => z⟩
      rcases key b o h with ⟨_, h⟩ | ⟨_, h⟩
      · exact h
      · exact e _ _ (g0 _ _ h)
    · exact W'.rep d (List.mem_cons_of_mem _ hd)
  · rcases key r' u' er' with ⟨hn, _⟩ | ⟨_, hg⟩
    · have := (W.rep d (List.mem_cons_of_mem _ hd)).at_ r u er
      have z : r' = d.ad r := z
      rw [← z, hn] at this; cases this
    · exact h1.1 d hd r u er r' u' hg z
  · rcases List.mem_cons.mp hd with rfl | hd
    · have a := W.os _ List.mem_cons_self
      refine ⟨fun r u h => ?_, fun r u h => ?_⟩
      · rcases key r u h with ⟨hn, _⟩ | ⟨_, hg⟩
        · exact (nst r hn).1
        · exact a.1 r u hg
      · rcases key r u h with ⟨hn, _⟩ | ⟨_, hg⟩
        · exact (nst r hn).2
        · exact a.2 r u hg
    · exact W'.os d (List.mem_cons_of_mem _ hd)
  · unfold gAdd
    rw [if_neg (by rw [g0 _ _ h]; exact fun z => nomatch z)]; exact h
  · unfold gAdd
    rw [if_pos h1]; exact h2
/-! ### same, of texts and tuples -/
theorem walkZT {K : PySem.W.Frag} {a b : Addr} {xs ys : List V} (e : xs.length = ys.length) : Walk (RZ.ItzT K a b) xs.length (fun H => SqT K H a xs ∧ SqT K H b ys) (YPair (fun i => xs[i]?) (fun i => ys[i]?)) := by
  constructor
  · intro j _ hj ⟨ea, eb⟩
    have hj2 : j < ys.length := e ▸ hj
    exact ⟨xs, ys, _, _, ea, eb, List.getElem?_eq_getElem hj, List.getElem?_eq_getElem hj2⟩
  · intro _ ⟨ea, eb⟩
    exact ⟨xs, ys, ea, eb, Or.inl (Nat.le_refl _)⟩
  · intro j _ _ _ _ ⟨ea, eb⟩ ⟨T, x, z, k1, k2, k3, k4, k5⟩
    exact ⟨T, x, z, k1, k2, k3, k4 _ ea, k5 _ eb⟩
theorem walkZL {K : PySem.W.Frag} {a b : Addr} {xs ys : List V} (e : xs.length = ys.length) : Walk (Itz K a b) xs.length (fun H => SqL K H a xs ∧ SqL K H b ys) (YPair (fun i => xs[i]?) (fun i => ys[i]?)) := by
  constructor
  · intro j _ hj ⟨ea, eb⟩
    have hj2 : j < ys.length := e ▸ hj
    exact ⟨xs, ys, _, _, ea, eb, List.getElem?_eq_getElem hj, List.getElem?_eq_getElem hj2⟩
  · intro _ ⟨ea, eb⟩
    exact ⟨xs, ys, ea, eb, Or.inl (Nat.le_refl _)⟩
  · intro j _ _ _ _ ⟨ea, eb⟩ ⟨T, x, z, k1, k2, k3, k4, k5⟩
    exact ⟨T, x, z, k1, k2, k3, k4 _ ea, k5 _ eb⟩
/-- what is the same, up to n deep -/
inductive SameD (H : Hp) : Nat → V → V → Prop where
  | str (n : Nat) (x : Str) : SameD H (n + 1) (.str x) (.str x)
  | non (n : Nat) : SameD H (n + 1) .non .non
  | int (n : Nat) (i : Int) : SameD H (n + 1) (.int i) (.int i)
  | bl (n : Nat) (b : Bool) : SameD H (n + 1) (.bl b) (.bl b)
  | tup {n : Nat} {a b : Addr} {xs ys : List V} (ha : H a = some (.tup xs)) (hb : H b = some (.tup ys)) (hl : xs.length = ys.length) (hs : xs.length ≤ 1000000) (h : ∀ (i : Nat) (x y : V), xs[i]? = some x → ys[i]? = some y → SameD H n x y) : SameD H (n + 1) (.ref a) (.ref b)
  | dic {n : Nat} {a b : Addr} {ts : List (Str × Str)} (ha : H a = some (.dK (strK ts))) (hb : H b = some (.dK (strK ts))) (nd : (ts.map (·.1)).Nodup) (hs : ts.length ≤ 1000000) (h3 : 3 ≤ n) : SameD H (n + 1) (.ref a) (.ref b)
  | lst {n : Nat} {a b : Addr} {xs ys : List V} (ha : H a = some (.lst xs)) (hb : H b = some (.lst ys)) (hl : xs.length = ys.length) (hs : xs.length ≤ 1000000) (h : ∀ (i : Nat) (x y : V), xs[i]? = some x → ys[i]? = some y → SameD H n x y) : SameD H (n + 1) (.ref a) (.ref b)
theorem SameD.same {H H' : Hp} (s : Same H H') : ∀ {n : Nat} {x y : V}, SameD H n x y → SameD H' n x y
  | _, _, _, .str n x => .str n x
  | _, _, _, .non n => .non n
  | _, _, _, .int n i => .int n i
  | _, _, _, .bl n b => .bl n b
  | _, _, _, .tup ha hb hl hs h => .tup (s _ _ ha) (s _ _ hb) hl hs fun i x y hx hy => (h i x y hx hy).same s
  | _, _, _, .dic ha hb nd hs h3 => .dic (s _ _ ha) (s _ _ hb) nd hs h3
  | _, _, _, .lst ha hb hl hs h => .lst (s _ _ ha) (s _ _ hb) hl hs fun i x y hx hy => (h i x y hx hy).same s
def spSame (n : Nat) : Sp := fun vs H Q _ => ∃ x y : V, vs = [x, y] ∧ SameD H n x y ∧ ∀ H', Same H H' → Q (.bl true) H'
theorem ok_same {f : Addr} (T : Txt P w K mg) (F : Stands K "_law_same" "_law_same" s__law_same [] f) (e : f = He.ga K "_law_same") : ∀ n : Nat, Callable P w K mg base (n + 1) f ["_law_found", "_law_due"] [] (spSame n)
  | 0 => by
    refine F.call0 sc__law_same (fun vs H Q E h => ?_) (fun cdv A outer s H vs Q E hr h => ?_) (fun _ _ _ _ _ _ us hl => match us, hl with | [_, _], _ => rfl)
    · obtain ⟨x, y, rfl, _⟩ := h; rfl
    · obtain ⟨x, y, rfl, h, _⟩ := h; cases h
  | n + 1 => by
    have c__law_same := ok_same T F e n
    rw [e] at c__law_same
    refine F.call0 sc__law_same (fun vs H Q E h => ?_) (fun cdv A outer s H vs Q E hr h => ?_) (fun _ _ _ _ _ _ us hl => match us, hl with | [_, _], _ => rfl)
    · obtain ⟨x, y, rfl, _⟩ := h; rfl
    obtain ⟨x, y, rfl, h, hQ⟩ := h
    refine ⟨_, (pss_cons (ps_if (pt_val (pe_callB call_isi (by rfl) T.b_isinstance (by decide +kernel) (pa_cons (pv 1) (pa_cons (pe_bltn (v := .ty "dict") (u := .type "dict") (by rfl) T.b_dict (by decide +kernel) rfl) pa_nil)))) (pss_one (ps_ret (pe_and (pe_callB call_isi (by rfl) T.b_isinstance (by decide +kernel) (pa_cons (pv 0) (pa_cons (pe_bltn (v := .ty "dict") (u := .type "dict") (by rfl) T.b_dict (by decide +kernel) rfl) pa_nil))) (pe_one (pe_fn T.g__law_same c__law_same (hr.mono (by first | decide | exact Nat.le_refl _)) (by rfl) (pa_cons (pe_callB (RSi.cr_sortedKT rfl) (by rfl) T.b_sorted (by decide +kernel) (pa_cons (pe_bm0 PySem.F.plainAttrs_dict PySem.F.slot_dict_items PySem.F.type_dict_items RSi.mt_itemsK (pv 0)) pa_nil)) (pa_cons (pe_callB (RSi.cr_sortedKT rfl) (by rfl) T.b_sorted (by decide +kernel) (pa_cons (pe_bm0 PySem.F.plainAttrs_dict PySem.F.slot_dict_items PySem.F.type_dict_items RSi.mt_itemsK (pv 1)) pa_nil)) pa_nil))))))) pss_nil)
      (pss_cons (ps_if (pt_val (pe_callB call_isiT (by rfl) T.b_isinstance (by decide +kernel) (pa_cons (pv 1) (pa_cons (pe_tup (pa_cons (pe_bltn (v := .ty "list") (u := .type "list") (by rfl) T.b_list (by decide +kernel) rfl) (pa_cons (pe_bltn (v := .ty "tuple") (u := .type "tuple") (by rfl) T.b_tuple (by decide +kernel) rfl) pa_nil))) pa_nil)))) (pss_cons (ps_if (PW.pt (pw_or (pt_cmpR op_ne (pe_callB call_isi (by rfl) T.b_isinstance (by decide +kernel) (pa_cons (pv 0) (pa_cons (pe_bltn (v := .ty "list") (u := .type "list") (by rfl) T.b_list (by decide +kernel) rfl) pa_nil))) (pe_callB call_isi (by rfl) T.b_isinstance (by decide +kernel) (pa_cons (pv 1) (pa_cons (pe_bltn (v := .ty "list") (u := .type "list") (by rfl) T.b_list (by decide +kernel) rfl) pa_nil))) (nomark _)) (pw_or1 (pt_cmpR op_ne (pe_callB call_isi (by rfl) T.b_isinstance (by decide +kernel) (pa_cons (pv 0) (pa_cons (pe_bltn (v := .ty "tuple") (u := .type "tuple") (by rfl) T.b_tuple (by decide +kernel) rfl) pa_nil))) (pe_callB call_isi (by rfl) T.b_isinstance (by decide +kernel) (pa_cons (pv 1) (pa_cons (pe_bltn (v := .ty "tuple") (u := .type "tuple") (by rfl) T.b_tuple (by decide +kernel) rfl) pa_nil))) (nomark _))))) (pss_one (ps_ret pe_bl)) pss_nil)
      (pss_one (ps_ret (pe_and (pe_cmpR op_eq (pe_callB call_len (by rfl) T.b_len (by decide +kernel) (pa_cons (pv 0) pa_nil)) (pe_callB call_len (by rfl) T.b_len (by decide +kernel) (pa_cons (pv 1) pa_nil)) (nomark _)) (pe_one (pe_callB (cr_all rfl) (by rfl) T.b_all (by decide +kernel) (pa_cons (pe_lc (own := [("_law_one", 2), ("_law_two", 3)]) (by rfl) sc__law_same.nd (RZ.pi_zipA (by rfl) T.b_zip (pa_cons (pv 0) (pa_cons (pv 1) pa_nil))) (blkOk_by (own := [("_law_one", 2), ("_law_two", 3)]) (N := nm__law_same) (sc := defScope s__law_same) (by decide +kernel)) (fun _ _ _ _ _ => (RG.pg_tupK (K := K) (n := 2) (by rfl) (pgs_cons (pg_name (i := 2) sc__law_same.nd rfl (by first | exact Or.inl rfl | exact Or.inr rfl)) (pgs_cons (pg_name (i := 3) sc__law_same.nd rfl (by first | exact Or.inl rfl | exact Or.inr rfl)) pgs_nil)))) (fun _ _ _ _ _ => pts_nil) (fun _ _ _ _ _ => (pe_fn T.g__law_same c__law_same (hr.mono (by first | decide | exact Nat.le_refl _)) (by rfl) (pa_cons (pv 2) (pa_cons (pv 3) pa_nil))))) pa_nil))))))) pss_nil)
      (pss_cons (ps_if (pt_val (pe_callB call_isi (by rfl) T.b_isinstance (by decide +kernel) (pa_cons (pv 1) (pa_cons (pe_bltn (v := .ty "int") (u := .type "int") (by rfl) T.b_int (by decide +kernel) rfl) pa_nil)))) (pss_one (ps_ret (pe_and (pe_callB call_isi (by rfl) T.b_isinstance (by decide +kernel) (pa_cons (pv 0) (pa_cons (pe_bltn (v := .ty "int") (u := .type "int") (by rfl) T.b_int (by decide +kernel) rfl) pa_nil))) (pe_and (pe_cmpR op_eq (pe_callB call_isi (by rfl) T.b_isinstance (by decide +kernel) (pa_cons (pv 0) (pa_cons (pe_bltn (v := .ty "bool") (u := .type "bool") (by rfl) T.b_bool (by decide +kernel) rfl) pa_nil))) (pe_callB call_isi (by rfl) T.b_isinstance (by decide +kernel) (pa_cons (pv 1) (pa_cons (pe_bltn (v := .ty "bool") (u := .type "bool") (by rfl) T.b_bool (by decide +kernel) rfl) pa_nil))) (nomark _)) (pe_one (pe_cmpR op_eq (pv 0) (pv 1) (nomark _))))))) pss_nil)
      (pss_one (ps_ret (pe_and (pe_cmpR op_isBl (pe_callB call_isiT (by rfl) T.b_isinstance (by decide +kernel) (pa_cons (pv 0) (pa_cons (pe_tup (pa_cons (pe_bltn (v := .ty "bool") (u := .type "bool") (by rfl) T.b_bool (by decide +kernel) rfl) (pa_cons (pe_bltn (v := .ty "int") (u := .type "int") (by rfl) T.b_int (by decide +kernel) rfl) (pa_cons (pe_bltn (v := .ty "list") (u := .type "list") (by rfl) T.b_list (by decide +kernel) rfl) (pa_cons (pe_bltn (v := .ty "tuple") (u := .type "tuple") (by rfl) T.b_tuple (by decide +kernel) rfl) (pa_cons (pe_bltn (v := .ty "dict") (u := .type "dict") (by rfl) T.b_dict (by decide +kernel) rfl) pa_nil)))))) pa_nil))) pe_bl (nomark _)) (pe_one (pe_cmpR op_eq (pv 0) (pv 1) (nomark _))))))))), ?_⟩
    walk_at "in"
    cases h with
    | str _ x =>
      walk_at "gi"
      rw [show decide (V.str x = V.str x) = true from decide_eq_true rfl]
      exact hQ _ (by walk_at "sm")
    | non =>
      walk_at "gi"
      exact hQ _ (by walk_at "sm")
    | int _ i =>
      walk_at "gi"
      rw [show decide (V.int i = V.int i) = true from decide_eq_true rfl]
      exact hQ _ (by walk_at "sm")
    | bl _ i =>
      walk_at "gi"
      rw [show decide (V.bl i = V.bl i) = true from decide_eq_true rfl]
      exact hQ _ (by walk_at "sm")
    | @tup _ a b xs ys ha hb hl hs h =>
      walk_at "gi"
      have el : decide (V.int xs.length = V.int ys.length) = true := by rw [hl]; exact decide_eq_true rfl
      walk_at "gi"
      rename_i T0 fT0
      have s0 : Same H (upd H T0 (.tup [.ty "list", .ty "tuple"])) := same_new fT0 _
      generalize upd H T0 (.tup [.ty "list", .ty "tuple"]) = H1 at s0 ⊢
      refine .inr ⟨SqT.of (s0 _ _ ha), SqT.of (s0 _ _ hb), fun D fD' => ?_⟩
      refine lc_it (walkZT (xs := xs) (ys := ys) hl) (fun i H' => Same H1 H' ∧ H' D = some (.lst ((List.replicate i true).map V.bl))) ⟨same_new fD' _, upd_same⟩ (fun i H' _ h => ⟨SqT.of (h.1 _ _ (s0 _ _ ha)), SqT.of (h.1 _ _ (s0 _ _ hb))⟩) (fun i v H2 H3 hi hP hv => ?_) (fun H2 hP => ?_)
      · obtain ⟨T, x, y, rfl, fT, rfl, hx, hy⟩ := hv
        obtain ⟨s2, d2⟩ := hP
        have s23 : Same H1 (upd H2 T (.tup [x, y])) := s2.trans (same_new fT _)
        have hd := (h i x y hx hy).same (s0.trans s23)
        have d3 : upd H2 T (.tup [x, y]) D = some (.lst ((List.replicate i true).map V.bl)) := same_new fT _ _ _ d2
        have q3 : upd H2 T (.tup [x, y]) T = some (.tup [x, y]) := upd_same
        clear fT
        generalize upd H2 T (.tup [x, y]) = H3 at hd d3 q3 s23
        walk_at "go"
        intro H4 s4
        walk_at "go"
        rw [upd_same, List.replicate_succ', List.map_append]; rfl
      · obtain ⟨s2, d2⟩ := hP
        refine ⟨D, List.replicate xs.length true, rfl, SqL.of d2, ?_⟩
        rw [show (List.replicate xs.length true).all id = true from by simp]
        exact hQ _ (s0.trans s2)
    | @dic _ a b ts ha hb nd hs h3 =>
      walk_at "gi"
      refine ⟨.inr (.inr (.inl ⟨rfl, .inl ⟨_, ha⟩⟩)), a, _, rfl, rfl, ha, fun p fp => ?_⟩
      refine ⟨p, a, ts, rfl, upd_same, by rw [upd_ne (ne_of_none ha fp)]; exact ha, nd, fun H2 l ps s2 pm so hl ht => ?_⟩
      have sA : Same H H2 := (same_new fp _).trans s2
      have hb2 := sA _ _ hb
      refine ⟨_, rfl, .inr (.inr (.inl ⟨rfl, .inl ⟨_, hb2⟩⟩)), b, _, rfl, rfl, hb2, fun p2 fp2 => ?_⟩
      refine ⟨p2, b, ts, rfl, upd_same, by rw [upd_ne (ne_of_none hb2 fp2)]; exact hb2, nd, fun H3 l2 ps2 s3 pm2 so2 hl2 ht2 => ?_⟩
      have sB : Same H2 H3 := (same_new fp2 _).trans s3
      have up := RSi.uniq nd pm pm2 so so2
      have len : ps.length = ps2.length := by
        have := congrArg List.length up
        rw [List.length_map, List.length_map] at this; exact this
      have lt : ps.length ≤ 1000000 := by
        have := pm.length_eq
        rw [List.length_map] at this; omega
      obtain ⟨m, rfl⟩ : ∃ m, n = m + 3 := ⟨n - 3, by omega⟩
      refine ⟨_, _, rfl, .lst (sB _ _ hl) hl2 (by rw [List.length_map, List.length_map]; exact len) (by rw [List.length_map]; exact lt) (fun i x y hx hy => ?_), fun H' s4 => hQ H' ((sA.trans sB).trans s4)⟩
      rw [List.getElem?_map] at hx hy
      obtain ⟨z1, g1, rfl⟩ := Option.map_eq_some_iff.mp hx
      obtain ⟨z2, g2, rfl⟩ := Option.map_eq_some_iff.mp hy
      have e2 : z1.2 = z2.2 := by
        have a1 : (ps.map (·.2))[i]? = some z1.2 := by rw [List.getElem?_map, g1]; rfl
        have a2 : (ps2.map (·.2))[i]? = some z2.2 := by rw [List.getElem?_map, g2]; rfl
        rw [up, a2] at a1
        exact (Option.some.inj a1).symm
      refine .tup (sB _ _ (ht z1 (List.mem_of_getElem? g1))) (ht2 z2 (List.mem_of_getElem? g2)) rfl (by show 2 ≤ 1000000; decide) fun j x y hx hy => ?_
      rw [e2] at hx
      rw [hx] at hy
      cases hy
      match j, hx with
      | 0, hx => cases hx; exact .str _ _
      | 1, hx => cases hx; exact .str _ _
    | @lst _ a b xs ys ha hb hl hs h =>
      walk_at "gi"
      have el : decide (V.int xs.length = V.int ys.length) = true := by rw [hl]; exact decide_eq_true rfl
      walk_at "gi"
      rename_i T0 fT0
      have s0 : Same H (upd H T0 (.tup [.ty "list", .ty "tuple"])) := same_new fT0 _
      generalize upd H T0 (.tup [.ty "list", .ty "tuple"]) = H1 at s0 ⊢
      refine .inl ⟨SqL.of (s0 _ _ ha), SqL.of (s0 _ _ hb), fun D fD' => ?_⟩
      refine lc_it (walkZL (xs := xs) (ys := ys) hl) (fun i H' => Same H1 H' ∧ H' D = some (.lst ((List.replicate i true).map V.bl))) ⟨same_new fD' _, upd_same⟩ (fun i H' _ h => ⟨SqL.of (h.1 _ _ (s0 _ _ ha)), SqL.of (h.1 _ _ (s0 _ _ hb))⟩) (fun i v H2 H3 hi hP hv => ?_) (fun H2 hP => ?_)
      · obtain ⟨T, x, y, rfl, fT, rfl, hx, hy⟩ := hv
        obtain ⟨s2, d2⟩ := hP
        have s23 : Same H1 (upd H2 T (.tup [x, y])) := s2.trans (same_new fT _)
        have hd := (h i x y hx hy).same (s0.trans s23)
        have d3 : upd H2 T (.tup [x, y]) D = some (.lst ((List.replicate i true).map V.bl)) := same_new fT _ _ _ d2
        have q3 : upd H2 T (.tup [x, y]) T = some (.tup [x, y]) := upd_same
        clear fT
        generalize upd H2 T (.tup [x, y]) = H3 at hd d3 q3 s23
        walk_at "go"
        intro H4 s4
        walk_at "go"
        rw [upd_same, List.replicate_succ', List.map_append]; rfl
      · obtain ⟨s2, d2⟩ := hP
        refine ⟨D, List.replicate xs.length true, rfl, SqL.of d2, ?_⟩
        rw [show (List.replicate xs.length true).all id = true from by simp]
        exact hQ _ (s0.trans s2)
end
end K17

set_option Elab.async false
set_option linter.all false
set_option maxRecDepth 100000
set_option maxHeartbeats 0
namespace K17
open PySem PySem.Spec PyProof.Rows L2 RC
section
variable {P : Program} {w : World} {K : PySem.W.Frag} {mg : Str → Option Value} {base : Heap}
/-! ### the law's own record of a yard -/
structure Lh where
  wy : Int
  en : Str
  kd : Option Str
  gt : Option Addr
def kdW : Option Str → Str
  | some _ => "stream"
  | none => "null"
def kdT : Option Str → Option Addr → List (Key × V)
  | some z, _ => [(Sum.inr "stream", .str z)]
  | none, some p => [(Sum.inr "got", .ref p)]
  | none, none => []
def Lh.kv (h : Lh) : List (Key × V) := ([(Sum.inr "kind", .str (kdW h.kd)), (Sum.inr "level", .int 0), (Sum.inr "way", .int h.wy), (Sum.inr "name", .non), (Sum.inr "end", .str h.en), (Sum.inr "closed", .bl false), (Sum.inr "open", .bl false), (Sum.inr "shut", .bl false)] : List (Key × V)) ++ kdT h.kd h.gt
structure LS where
  now : Int
  st : List (Str × Str)
  fr : List (Str × Str)
  hs : List Lh
inductive Lo
  | m | st | fi | fr | hl
  | h (i : Nat)
  | ft (i : Nat)
  | row (k : Str)
def frLL (n : Nat) (ad : Lo → Addr) : List V := (List.range n).map fun i => V.ref (ad (.ft i))
def hsLL (n : Nat) (ad : Lo → Addr) : List V := (List.range n).map fun i => V.ref (ad (.h i))
def mkv (now : Int) (ad : Lo → Addr) : List (Key × V) := [(Sum.inr "now", .int now), (Sum.inr "streams", .ref (ad .st)), (Sum.inr "files", .ref (ad .fi)), (Sum.inr "failures", .ref (ad .fr)), (Sum.inr "handlers", .ref (ad .hl))]
def M1 (s : LS) (ad : Lo → Addr) : Lo → Option HO
  | .m => some (.dK (mkv s.now ad))
  | .st => some (.dK (strK s.st))
  | .fi => some (.dK [])
  | .fr => some (.lst (frLL s.fr.length ad))
  | .hl => some (.lst (hsLL s.hs.length ad))
  | .h i => (s.hs[i]?).map fun h => .dK h.kv
  | .ft i => (s.fr[i]?).map fun f => .tup [.str f.1, .str f.2]
  | .row _ => none
abbrev LR (s : LS) (ad : Lo → Addr) (H : Hp) : Prop := RR.Rep (M1 s ad) ad H
abbrev LM (s : LS) (ad : Lo → Addr) (H : Hp) (s' : LS) (ad' : Lo → Addr) (H' : Hp) : Prop := RR.Mv (M1 s ad) ad H (M1 s' ad') ad' H'
section
variable {s : LS} {ad : Lo → Addr} {H : Hp}
theorem _root_.RR.Rep.lm_ (R : LR s ad H) : H (ad .m) = some (.dK (mkv s.now ad)) := R.at_ .m _ rfl
theorem _root_.RR.Rep.lst_ (R : LR s ad H) : H (ad .st) = some (.dK (strK s.st)) := R.at_ .st _ rfl
theorem _root_.RR.Rep.lfi_ (R : LR s ad H) : H (ad .fi) = some (.dK []) := R.at_ .fi _ rfl
theorem _root_.RR.Rep.lfr_ (R : LR s ad H) : H (ad .fr) = some (.lst (frLL s.fr.length ad)) := R.at_ .fr _ rfl
theorem _root_.RR.Rep.lhl_ (R : LR s ad H) : H (ad .hl) = some (.lst (hsLL s.hs.length ad)) := R.at_ .hl _ rfl
theorem _root_.RR.Rep.lh_ (R : LR s ad H) {i : Nat} {h : Lh} (e : s.hs[i]? = some h) : H (ad (.h i)) = some (.dK h.kv) := R.at_ (.h i) _ (by show (s.hs[i]?).map _ = _; rw [e]; rfl)
theorem _root_.RR.Rep.lft_ (R : LR s ad H) {i : Nat} {f : Str × Str} (h : s.fr[i]? = some f) : H (ad (.ft i)) = some (.tup [.str f.1, .str f.2]) := R.at_ (.ft i) _ (by show (s.fr[i]?).map _ = _; rw [h]; rfl)
end
/-- all places but those of rows and of failures -/
def Lx (ad ad' : Lo → Addr) : Prop := ∀ r, (∀ k, r ≠ .row k) → (∀ k, r ≠ .ft k) → ad' r = ad r
theorem Lx.refl (ad : Lo → Addr) : Lx ad ad := fun _ _ _ => rfl
theorem Lx.trans {a b c : Lo → Addr} (h : Lx a b) (k : Lx b c) : Lx a c := fun r hr hf => (k r hr hf).trans (h r hr hf)
def LS.wr (s : LS) (k t : Str) : LS := { s with st := putS s.st k t }
def LS.setD (s : LS) (i : Nat) (d : Lh) : LS := { s with hs := s.hs.set i d }
def LS.fail (s : LS) (n w : Str) : LS := { s with fr := s.fr ++ [(n, w)] }
def LS.addH (s : LS) (d : Lh) : LS := { s with hs := s.hs ++ [d] }
def laT (ad : Lo → Addr) (n : Nat) (p : Addr) : Lo → Addr
  | .ft i => if i = n then p else ad (.ft i)
  | r => ad r
theorem lx_laT (ad : Lo → Addr) (n : Nat) (p : Addr) : Lx ad (laT ad n p) := fun r _ hr => by
  cases r with
  | ft x => exact absurd rfl (hr x)
  | _ => rfl
def laH (ad : Lo → Addr) (n : Nat) (p : Addr) : Lo → Addr
  | .h i => if i = n then p else ad (.h i)
  | r => ad r
theorem frLL_snoc (n : Nat) (ad : Lo → Addr) (p : Addr) : frLL (n + 1) (laT ad n p) = frLL n ad ++ [.ref p] := by
  unfold frLL
  rw [List.range_succ, List.map_append]
  congr 1
  · refine List.map_congr_left fun i hi => ?_
    have := List.mem_range.mp hi
    show V.ref (if i = n then p else ad (.ft i)) = _
    rw [if_neg (by omega)]
  · show [V.ref (if n = n then p else ad (.ft n))] = _
    rw [if_pos rfl]
theorem hsLL_snoc (n : Nat) (ad : Lo → Addr) (p : Addr) : hsLL (n + 1) (laH ad n p) = hsLL n ad ++ [.ref p] := by
  unfold hsLL
  rw [List.range_succ, List.map_append]
  congr 1
  · refine List.map_congr_left fun i hi => ?_
    have := List.mem_range.mp hi
    show V.ref (if i = n then p else ad (.h i)) = _
    rw [if_neg (by omega)]
  · show [V.ref (if n = n then p else ad (.h n))] = _
    rw [if_pos rfl]
section
variable {s : LS} {ad : Lo → Addr} {H : Hp}
theorem _root_.RR.Rep.lwr (R : LR s ad H) (k t : Str) : LR (s.wr k t) ad (upd H (ad .st) (.dK (putK (strK s.st) (Sum.inr k) (.str t)))) ∧ LM s ad H (s.wr k t) ad (upd H (ad .st) (.dK (putK (strK s.st) (Sum.inr k) (.str t)))) :=
  RR.Rep.set (M' := M1 (s.wr k t) ad) (o := .dK (putK (strK s.st) (Sum.inr k) (.str t))) R .st rfl (congrArg (fun z => some (HO.dK z)) (putK_strK s.st k t).symm) (fun r hr => by cases r <;> first | rfl | exact absurd rfl hr)
theorem _root_.RR.Rep.lfail {p : Addr} (R : LR s ad H) (n w : Str) (hp : H p = none) : LR (s.fail n w) (laT ad s.fr.length p) (upd (upd H p (.tup [.str n, .str w])) (ad .fr) (.lst (frLL s.fr.length ad ++ [.ref p]))) ∧
    LM s ad H (s.fail n w) (laT ad s.fr.length p) (upd (upd H p (.tup [.str n, .str w])) (ad .fr) (.lst (frLL s.fr.length ad ++ [.ref p]))) := by
  refine RR.Rep.newset (M' := M1 (s.fail n w) (laT ad s.fr.length p)) (ad' := laT ad s.fr.length p) R hp (.ft s.fr.length) .fr (fun h => nomatch h) rfl ?_ ?_ (fun r h1 h2 => ?_) (if_pos rfl) (fun r hr => ?_)
  · show ((s.fr ++ [(n, w)])[s.fr.length]?).map _ = _
    rw [List.getElem?_append_right (Nat.le_refl _), Nat.sub_self]; rfl
  · show some (HO.lst (frLL (s.fr ++ [(n, w)]).length _)) = _
    rw [List.length_append]
    exact congrArg (fun z => some (HO.lst z)) (frLL_snoc s.fr.length ad p)
  · cases r with
    | ft x =>
      have c : x ≠ s.fr.length := fun z => h1 (by rw [z])
      show ((s.fr ++ [(n, w)])[x]?).map _ = (s.fr[x]?).map _
      by_cases l : x < s.fr.length
      · rw [List.getElem?_append_left l]
      · rw [List.getElem?_append_right (by omega), List.getElem?_eq_none (l := [(n, w)]) (by show 1 ≤ _; omega), List.getElem?_eq_none (l := s.fr) (by omega)]
    | fr => exact absurd rfl h2
    | _ => rfl
  · cases r with
    | ft x => exact if_neg fun z => hr (by rw [z])
    | _ => rfl
theorem _root_.RR.Rep.laddH {p : Addr} (R : LR s ad H) (d : Lh) (hp : H p = none) : LR (s.addH d) (laH ad s.hs.length p) (upd (upd H p (.dK d.kv)) (ad .hl) (.lst (hsLL s.hs.length ad ++ [.ref p]))) ∧
    LM s ad H (s.addH d) (laH ad s.hs.length p) (upd (upd H p (.dK d.kv)) (ad .hl) (.lst (hsLL s.hs.length ad ++ [.ref p]))) := by
  refine RR.Rep.newset (M' := M1 (s.addH d) (laH ad s.hs.length p)) (ad' := laH ad s.hs.length p) R hp (.h s.hs.length) .hl (fun h => nomatch h) rfl ?_ ?_ (fun r h1 h2 => ?_) (if_pos rfl) (fun r hr => ?_)
  · show ((s.hs ++ [d])[s.hs.length]?).map _ = _
    rw [List.getElem?_append_right (Nat.le_refl _), Nat.sub_self]; rfl
  · show some (HO.lst (hsLL (s.hs ++ [d]).length _)) = _
    rw [List.length_append]
    exact congrArg (fun z => some (HO.lst z)) (hsLL_snoc s.hs.length ad p)
  · cases r with
    | h x =>
      have c : x ≠ s.hs.length := fun z => h1 (by rw [z])
      show ((s.hs ++ [d])[x]?).map _ = (s.hs[x]?).map _
      by_cases l : x < s.hs.length
      · rw [List.getElem?_append_left l]
      · rw [List.getElem?_append_right (by omega), List.getElem?_eq_none (l := [d]) (by show 1 ≤ _; omega), List.getElem?_eq_none (l := s.hs) (by omega)]
    | hl => exact absurd rfl h2
    | _ => rfl
  · cases r with
    | h x => exact if_neg fun z => hr (by rw [z])
    | _ => rfl
theorem _root_.RR.Rep.lsetD (R : LR s ad H) {i : Nat} {d0 : Lh} (h : s.hs[i]? = some d0) (d : Lh) : LR (s.setD i d) ad (upd H (ad (.h i)) (.dK d.kv)) ∧ LM s ad H (s.setD i d) ad (upd H (ad (.h i)) (.dK d.kv)) := by
  have hl : i < s.hs.length := (List.getElem?_eq_some_iff.mp h).1
  refine RR.Rep.set R (.h i) (show (s.hs[i]?).map _ = _ by rw [h]; rfl) ?_ fun r hr => ?_
  · show ((s.hs.set i d)[i]?).map _ = _
    rw [List.getElem?_set_self hl]; rfl
  · cases r with
    | h j =>
      have c : j ≠ i := fun z => hr (by rw [z])
      show ((s.hs.set i d)[j]?).map _ = _
      rw [List.getElem?_set_ne (Ne.symm c)]; rfl
    | hl => show some (HO.lst (hsLL (s.hs.set i d).length ad)) = _; rw [List.length_set]; rfl
    | _ => rfl
end
end
end K17

set_option Elab.async false
set_option linter.all false
set_option maxRecDepth 100000
set_option maxHeartbeats 0

namespace K17
open PySem PySem.Spec PyProof.Rows L2 RC
section
variable {P : Program} {w : World} {K : PySem.W.Frag} {mg : Str → Option Value} {base : Heap}
/-! ### the law's record: made, a file opened, a handler closed, a handler made -/
def adL0 (m st fi fr hl : Addr) : Lo → Addr
  | .m => m | .st => st | .fi => fi | .fr => fr | .hl => hl | _ => 0
def LS.z (now : Int) : LS := ⟨now, [], [], []⟩
def spLYard : Sp := fun vs H Q _ => ∃ now : Int, vs = [.int now] ∧ ∀ (ad : Lo → Addr) (H' : Hp), LR (LS.z now) ad H' → Same H H' → (∀ r u, M1 (LS.z now) ad r = some u → H (ad r) = none) → Q (.ref (ad .m)) H'
theorem ok_lyard {f : Addr} (T : Txt P w K mg) (F : Stands K "_law_yard" "_law_yard" s__law_yard [] f) : Callable P w K mg base 1 f ["_law_now"] [] spLYard := by
  refine F.call0 sc__law_yard (fun vs H Q E h => ?_) (fun cdv A outer s0 H vs Q E hr h => ?_) (fun _ _ _ _ _ _ us hl => match us, hl with | [_], _ => rfl)
  · obtain ⟨now, rfl, _⟩ := h; rfl
  obtain ⟨now, rfl, hQ⟩ := h
  refine ⟨_, (pss_one (ps_ret (pe_disp (pps_cons pe_str (pv 0) (pps_cons pe_str pe_dnewK (pps_cons pe_str pe_dnewK (pps_cons pe_str (pe_lst pa_nil) (pps_cons pe_str (pe_lst pa_nil) pps_nil))))) (by rfl) (by rfl) (fun z => by cases z) (by decide)))), ?_⟩
  walk_at "in"
  walk_at "go"
  intro m f1
  walk_at "go"
  intro st f2
  walk_at "go"
  intro fi f3
  walk_at "go"
  intro fr f4
  walk_at "go"
  intro hl f5
  have s1 := same_new f1 (.dK [])
  have s2 := same_new f2 (.dK [])
  have s3 := same_new f3 (.dK [])
  have s4 := same_new f4 (.lst [])
  have s5 := same_new f5 (.lst [])
  have a1 : upd H m (.dK []) m = some (.dK []) := upd_same
  have a2 : upd (upd H m (.dK [])) st (.dK []) st = some (.dK []) := upd_same
  have a3 : upd (upd (upd H m (.dK [])) st (.dK [])) fi (.dK []) fi = some (.dK []) := upd_same
  have a4 : upd (upd (upd (upd H m (.dK [])) st (.dK [])) fi (.dK [])) fr (.lst []) fr = some (.lst []) := upd_same
  have a5 : upd (upd (upd (upd (upd H m (.dK [])) st (.dK [])) fi (.dK [])) fr (.lst [])) hl (.lst []) hl = some (.lst []) := upd_same
  have b2 := (upd_none f2).2
  generalize hA : upd H m (.dK []) = HA at *
  have b3 := s2.free f3
  generalize hB : upd HA st (.dK []) = HB at *
  have b4 := s3.free f4
  generalize hC : upd HB fi (.dK []) = HC at *
  have b5 := s4.free f5
  generalize hD : upd HC fr (.lst []) = HD at *
  generalize hE : upd HD hl (.lst []) = HE at *
  have c3 := s1.free b3
  have c4 := s1.free (s2.free b4)
  have c5 := s1.free (s2.free (s3.free b5))
  have m5 := s5 _ _ (s4 _ _ (s3 _ _ (s2 _ _ a1)))
  have st5 := s5 _ _ (s4 _ _ (s3 _ _ a2))
  have fi5 := s5 _ _ (s4 _ _ a3)
  have fr5 := s5 _ _ a4
  have nm : ∀ {b : Addr}, HA b = none → m ≠ b := fun {b} h z => by rw [← z, a1] at h; cases h
  have n1 := nm f2
  have n2 := nm b3
  have n3 := nm (s2.free b4)
  have n4 := nm (s2.free (s3.free b5))
  have n5 : st ≠ fi := fun z => by rw [← z, a2] at f3; cases f3
  have n6 : st ≠ fr := fun z => by rw [← z, a2] at b4; cases b4
  have n7 : st ≠ hl := fun z => by have q := s3.free b5; rw [← z, a2] at q; cases q
  have n8 : fi ≠ fr := fun z => by rw [← z, a3] at f4; cases f4
  have n9 : fi ≠ hl := fun z => by rw [← z, a3] at b5; cases b5
  have n0 : fr ≠ hl := fun z => by rw [← z, a4] at f5; cases f5
  have fin : LR (LS.z now) (adL0 m st fi fr hl) (upd HE m (.dK (mkv now (adL0 m st fi fr hl)))) ∧ ∀ r u, M1 (LS.z now) (adL0 m st fi fr hl) r = some u → H (adL0 m st fi fr hl r) = none := by
    refine RS.rep_list (M := M1 (LS.z now) (adL0 m st fi fr hl)) [(.m, m, .dK (mkv now (adL0 m st fi fr hl))), (.st, st, .dK []), (.fi, fi, .dK []), (.fr, fr, .lst []), (.hl, hl, .lst [])]
      (fun r o e => ?_) ?_ (fun x hx => ?_)
    · cases r with
      | m => cases e; first | (simp [adL0]; done) | (simp [adL0]; rfl)
      | st => cases e; first | (simp [adL0]; done) | (simp [adL0]; rfl)
      | fi => cases e; first | (simp [adL0]; done) | (simp [adL0]; rfl)
      | fr => cases e; first | (simp [adL0]; done) | (simp [adL0]; rfl)
      | hl => cases e; first | (simp [adL0]; done) | (simp [adL0]; rfl)
      | h i => cases e
      | ft i => cases e
      | row k => cases e
    · show [m, st, fi, fr, hl].Nodup
      simp only [List.nodup_cons, List.mem_cons, List.not_mem_nil, or_false, not_or, not_false_eq_true, List.nodup_nil, and_true]
      exact ⟨⟨n1, n2, n3, n4⟩, ⟨n5, n6, n7⟩, ⟨n8, n9⟩, n0⟩
    · simp only [List.mem_cons, List.not_mem_nil, or_false] at hx
      rcases hx with rfl | rfl | rfl | rfl | rfl
      · exact ⟨f1, upd_same⟩
      · exact ⟨b2, by rw [upd_ne (Ne.symm n1)]; exact st5⟩
      · exact ⟨c3, by rw [upd_ne (Ne.symm n2)]; exact fi5⟩
      · exact ⟨c4, by rw [upd_ne (Ne.symm n3)]; exact fr5⟩
      · exact ⟨c5, by rw [upd_ne (Ne.symm n4)]; exact a5⟩
  have sF : Same H (upd HE m (.dK (mkv now (adL0 m st fi fr hl)))) := fun b u e => by
    rw [upd_ne (ne_of_none e f1)]
    exact s5 _ _ (s4 _ _ (s3 _ _ (s2 _ _ (s1 _ _ e))))
  refine ⟨m5, mkv now (adL0 m st fi fr hl), rfl, (by show 5 ≤ 15; decide), ?_⟩
  exact hQ (adL0 m st fi fr hl) _ fin.1 sF fin.2
/-- a handler's record as it is made -/
def lh0 (kd : Option Str) : Lh := { wy := 0, en := "\n", kd := kd, gt := none }
def toldK (kd : Option Str) : List (Key × V) := kdT kd none
def spLHandler : Sp := fun vs H Q _ => ∃ (s : LS) (ad : Lo → Addr) (t : Addr) (kd : Option Str), vs = [.ref (ad .m), .str (kdW kd), .ref t] ∧ LR s ad H ∧ H t = some (.dK (toldK kd)) ∧ (∀ r u, M1 s ad r = some u → ad r ≠ t) ∧ s.hs.length ≤ 1000 ∧
  (∀ ad' H', LR (s.addH (lh0 kd)) ad' H' → LM s ad H (s.addH (lh0 kd)) ad' H' → (∀ r, r ≠ .h s.hs.length → ad' r = ad r) → Q (.ref (ad' (.h s.hs.length))) H')
theorem ok_lhandler {f : Addr} (T : Txt P w K mg) (F : Stands K "_law_handler" "_law_handler" s__law_handler [] f) : Callable P w K mg base 1 f ["_law_m", "_law_kind", "_law_told"] [] spLHandler := by
  refine F.call0 sc__law_handler (fun vs H Q E h => ?_) (fun cdv A outer s0 H vs Q E hr h => ?_) (fun _ _ _ _ _ _ us hl => match us, hl with | [_, _, _], _ => rfl)
  · obtain ⟨s, ad, t, kd, rfl, _⟩ := h; rfl
  obtain ⟨s, ad, t, kd, rfl, R, ht, hnt, hl, hQ⟩ := h
  refine ⟨_, (pss_cons (ps_set (i := 3) sc__law_handler.nd rfl (by first | exact Or.inl rfl | exact Or.inr rfl) (pe_disp (pps_cons pe_str (pv 1) (pps_cons pe_str pe_int (pps_cons pe_str pe_int (pps_cons pe_str pe_non (pps_cons pe_str pe_str pps_nil))))) (by rfl) (by rfl) (fun z => by cases z) (by decide)))
      (pss_cons (ps_expr (pe_bm PySem.F.plainAttrs_dict PySem.F.slot_dict_update PySem.F.type_dict_update RF.mt_updD (pv 3) (pa_cons (pe_disp (pps_cons pe_str pe_bl (pps_cons pe_str pe_bl (pps_cons pe_str pe_bl pps_nil))) (by rfl) (by rfl) (fun z => by cases z) (by decide)) pa_nil)))
      (pss_cons (ps_expr (pe_bm PySem.F.plainAttrs_dict PySem.F.slot_dict_update PySem.F.type_dict_update RF.mt_updD (pv 3) (pa_cons (pv 2) pa_nil)))
      (pss_cons (ps_expr (pe_bm PySem.F.plainAttrs_list PySem.F.slot_list_append PySem.F.type_list_append mt_append (pe_dget (hu_of hr) (pv 0) pe_str (fun _ _ => rfl)) (pa_cons (pv 3) pa_nil)))
      (pss_one (ps_ret (pv 3))))))), ?_⟩
  walk_at "in"
  have hm := R.lm_
  have hh := R.lhl_
  walk_at "go"
  intro p fp
  have ht1 := same_new fp (.dK []) _ _ ht
  have hm1 := same_new fp (.dK []) _ _ hm
  have hh1 := same_new fp (.dK []) _ _ hh
  walk_at "go"
  rw [upd_upd]
  have e5 : mergeK [] [((Sum.inr "kind" : Key), V.str (kdW kd)), (Sum.inr "level", V.int 0), (Sum.inr "way", V.int 0), (Sum.inr "name", V.non), (Sum.inr "end", V.str "\n")] = [((Sum.inr "kind" : Key), V.str (kdW kd)), (Sum.inr "level", V.int 0), (Sum.inr "way", V.int 0), (Sum.inr "name", V.non), (Sum.inr "end", V.str "\n")] := by rfl
  rw [e5]
  have hp5 := upd_same (H := H) (a := p) (o := .dK [((Sum.inr "kind" : Key), V.str (kdW kd)), (Sum.inr "level", V.int 0), (Sum.inr "way", V.int 0), (Sum.inr "name", V.non), (Sum.inr "end", V.str "\n")])
  refine ⟨.inr (.inr (.inl ⟨rfl, .inl ⟨_, hp5⟩⟩)), ?_⟩
  walk_at "go"
  intro D fD
  obtain ⟨nD, fD2⟩ := upd_none fD
  have nD2 : p ≠ D := Ne.symm nD
  have nt : t ≠ p := ne_of_none ht fp
  have ntD : t ≠ D := ne_of_none ht fD2
  have nm1 : ad .m ≠ p := ne_of_none hm fp
  have nm2 : ad .m ≠ D := ne_of_none hm fD2
  have nl1 : ad .hl ≠ p := ne_of_none hh fp
  have nl2 : ad .hl ≠ D := ne_of_none hh fD2
  refine ⟨upd_same, [((Sum.inr "closed" : Key), V.bl false), (Sum.inr "open", V.bl false), (Sum.inr "shut", V.bl false)], rfl, (by show 3 ≤ 15; decide), ?_⟩
  rw [upd_upd, show mergeK [] [((Sum.inr "closed" : Key), V.bl false), (Sum.inr "open", V.bl false), (Sum.inr "shut", V.bl false)] = [((Sum.inr "closed" : Key), V.bl false), (Sum.inr "open", V.bl false), (Sum.inr "shut", V.bl false)] from rfl]
  refine ⟨p, D, _, _, rfl, rfl, by rw [upd_ne nD2]; exact upd_same, .inl upd_same, nD2, by show 8 ≤ sizeLine; decide, by show 8 ≤ sizeLine; decide, ?_⟩
  have eH : ∀ o1 o2, upd (upd (upd H p o1) D (.dK [((Sum.inr "closed" : Key), V.bl false), (Sum.inr "open", V.bl false), (Sum.inr "shut", V.bl false)])) p o2 = upd (upd H D (.dK [((Sum.inr "closed" : Key), V.bl false), (Sum.inr "open", V.bl false), (Sum.inr "shut", V.bl false)])) p o2 := fun o1 o2 => by
    funext b
    by_cases c : b = p
    · rw [c, upd_same, upd_same]
    · rw [upd_ne c, upd_ne c]
      by_cases c2 : b = D
      · rw [c2, upd_same, upd_same]
      · rw [upd_ne c2, upd_ne c2, upd_ne c]
  rw [eH]
  have s1 := same_new fD2 (.dK [((Sum.inr "closed" : Key), V.bl false), (Sum.inr "open", V.bl false), (Sum.inr "shut", V.bl false)])
  have fp1 : upd H D (.dK [((Sum.inr "closed" : Key), V.bl false), (Sum.inr "open", V.bl false), (Sum.inr "shut", V.bl false)]) p = none := by rw [upd_ne nD2]; exact fp
  have R1 := R.same s1
  have ht2 := s1 _ _ ht
  generalize upd H D (.dK [((Sum.inr "closed" : Key), V.bl false), (Sum.inr "open", V.bl false), (Sum.inr "shut", V.bl false)]) = HX at s1 fp1 R1 ht2 ⊢
  have hm2 := R1.lm_
  have hh2 := R1.lhl_
  obtain ⟨R2, M2⟩ := R1.laddH (lh0 kd) fp1
  have hll : (hsLL s.hs.length ad).length < sizeLine := by unfold hsLL; rw [List.length_map, List.length_range, sizeLine_eq]; omega
  have fin := hQ _ _ R2 (M2.sameL s1) (fun r hr => by cases r with
    | h x => exact if_neg fun z => hr (by rw [z])
    | _ => rfl)
  rw [show laH ad s.hs.length p (.h s.hs.length) = p from if_pos rfl] at fin
  refine ⟨_, rfl, ?_⟩
  refine ⟨.inr (.inr (.inl ⟨rfl, .inl ⟨_, upd_same⟩⟩)), _, rfl, ?_⟩
  refine ⟨p, t, _, _, rfl, rfl, upd_same, .inl (by rw [upd_ne nt]; exact ht2), Ne.symm nt, by (cases kd with | none => (show 8 ≤ sizeLine; decide) | some z => (show 9 ≤ sizeLine; decide)), by (cases kd with | none => (show 8 ≤ sizeLine; decide) | some z => (show 9 ≤ sizeLine; decide)), ?_⟩
  rw [upd_upd]
  have hm3 : upd HX p (.dK (lh0 kd).kv) (ad .m) = some (.dK (mkv s.now ad)) := by rw [upd_ne nm1]; exact hm2
  have hh3 : upd HX p (.dK (lh0 kd).kv) (ad .hl) = some (.lst (hsLL s.hs.length ad)) := by rw [upd_ne nl1]; exact hh2
  have eF : upd HX p (.dK (mergeK (mergeK [((Sum.inr "kind" : Key), V.str (kdW kd)), (Sum.inr "level", V.int 0), (Sum.inr "way", V.int 0), (Sum.inr "name", V.non), (Sum.inr "end", V.str "\n")] [((Sum.inr "closed" : Key), V.bl false), (Sum.inr "open", V.bl false), (Sum.inr "shut", V.bl false)]) (toldK kd))) = upd HX p (.dK (lh0 kd).kv) := by cases kd <;> rfl
  rw [eF]
  walk_at "go"
  exact fin
end
end K17

set_option Elab.async false
set_option linter.all false
set_option maxRecDepth 100000
set_option maxHeartbeats 0

namespace K17
open PySem PySem.Spec PyProof.Rows L2 RC
section
variable {P : Program} {w : World} {K : PySem.W.Frag} {mg : Str → Option Value} {base : Heap}
/-! ### a record as a row; its text by the law -/
theorem cxK4 {P : Program} {w : World} {K : PySem.W.Frag} {mg : Str → Option Value} {base : Heap} {N : List Str} {qual : Str} {scope : Scope} {f : Addr} {cd : Value} {A : Around} {outer : List Env} {sh : Shared} {H : Hp} {E : XK} : (cxOf CX0 P w K mg base N qual scope f cd A outer sh H E).K = K := rfl
structure Row where
  nm : Str
  lv : Int
  ms : Str
  xs : List V
def rowMenu : List (Str × List V) := [("a", []), ("bcd", []), ("", []), ("e\nf", []), ("x {} y", [.int 7]), ("{}{}", [.str "g", .int (-2)]), ("{}", []), ("hhhhhhhhh", []), ("i", [.int 1]), ("{}", [.int 1, .int 2]), ("{j}", [.int 3])]
def rowNames : List Str := ["a", "a.b", "root", ""]
def rowLevels : List Int := [0, 10, 30, 31, 50, -4]
structure Row.Ok (r : Row) : Prop where
  nm : r.nm ∈ rowNames
  lv : r.lv ∈ rowLevels
  mx : (r.ms, r.xs) ∈ rowMenu
def RowAt (K : PySem.W.Frag) (k : Nat) (H : Hp) (p : Addr) (r : Row) : Prop := ∃ a, H p = some (.tup [.str r.nm, .int r.lv, .str r.ms, .ref a]) ∧ RTk.FTs K k H a r.xs
theorem RowAt.same {k : Nat} {H H' : Hp} {p : Addr} {r : Row} (h : RowAt K k H p r) (s : Same H H') : RowAt K k H' p r := let ⟨a, h1, h2⟩ := h; ⟨a, s _ _ h1, h2.same s⟩
theorem RowAt.up {k j : Nat} {H : Hp} {p : Addr} {r : Row} (h : RowAt K k H p r) (q : k ≤ j) : RowAt K j H p r := let ⟨a, h1, h2⟩ := h; ⟨a, h1, h2.up q⟩
def repsM (xs : List V) (z : Str) : Str := xs.foldl (fun m a => RTk.rep1 m "{}" (RTk.argT a)) z
theorem runR_snd (i j : Nat) : ∀ (xs : List V) (σ : L2.St) (z : Str), (RTk.runR "{}" i j xs σ z).2 = repsM xs z
  | [], _, _ => rfl
  | x :: xs, σ, z => runR_snd i j xs _ _
theorem runR_oth (i j q : Nat) (h1 : q ≠ i) (h2 : q ≠ j) : ∀ (xs : List V) (σ : L2.St) (z : Str), (RTk.runR "{}" i j xs σ z).1[q]? = σ[q]?
  | [], _, _ => rfl
  | x :: xs, σ, z => by
    show (RTk.runR "{}" i j xs _ _).1[q]? = _
    rw [runR_oth i j q h1 h2 xs, List.getElem?_set_ne (Ne.symm h1), List.getElem?_set_ne (Ne.symm h2)]
def vO : Option Str → V
  | none => .non
  | some z => .str z
/-- the law's text of a row, or the word of the failure -/
def lawT (wy : Int) (r : Row) : Option Str × Option Str :=
  if wy = 2 then (some (r.nm ++ ":" ++ Str.ofString (toString r.lv)), none)
  else if 3 < wy then (if wy = 4 then (none, some "field") else (some "", none))
  else if (!r.xs.isEmpty && !decide ((Txt.count r.ms "{}" : Int) = r.xs.length)) = true then (none, some "message")
  else (some (repsM r.xs r.ms ++ (if wy = 3 then "!" else "")), none)
def spLText (K : PySem.W.Frag) : RTk.SpN := fun n vs H Q => ∃ (wy : Int) (p : Addr) (r : Row), vs = [.int wy, .ref p] ∧ (wy = 0 ∨ wy = 1 ∨ wy = 2 ∨ wy = 3 ∨ wy = 4 ∨ wy = 5) ∧ RowAt K n H p r ∧ r.Ok ∧ ∀ (H' : Hp) (q : Addr), Same H H' → H q = none → H' q = some (.tup [vO (lawT wy r).1, vO (lawT wy r).2]) → Q n (.ref q) H'
theorem row_len {r : Row} (h : r.Ok) : r.nm.length ≤ 10 ∧ r.ms.length ≤ 10 ∧ r.xs.length ≤ 2 ∧ r.lv.natAbs ≤ 50 ∧ ∀ x ∈ r.xs, RTk.argOk "{}" x ∧ (RTk.argT x).length ≤ 10000 := by
  obtain ⟨h1, h2, h3⟩ := h
  have a1 : ∀ n ∈ rowNames, n.length ≤ 10 := by decide
  have a2 : ∀ n ∈ rowLevels, n.natAbs ≤ 50 := by decide
  refine ⟨a1 _ h1, ?_, ?_, a2 _ h2, ?_⟩
  · have : ∀ m ∈ rowMenu, m.1.length ≤ 10 := by decide
    exact this _ h3
  · have : ∀ m ∈ rowMenu, m.2.length ≤ 2 := by decide
    exact this _ h3
  · obtain ⟨nm, lv, ms, xs⟩ := r
    simp only [rowMenu, List.mem_cons, List.not_mem_nil, or_false, Prod.mk.injEq] at h3
    rcases h3 with ⟨rfl, rfl⟩ | ⟨rfl, rfl⟩ | ⟨rfl, rfl⟩ | ⟨rfl, rfl⟩ | ⟨rfl, rfl⟩ | ⟨rfl, rfl⟩ | ⟨rfl, rfl⟩ | ⟨rfl, rfl⟩ | ⟨rfl, rfl⟩ | ⟨rfl, rfl⟩ | ⟨rfl, rfl⟩ <;> intro x hx <;> simp only [List.mem_cons, List.not_mem_nil, or_false] at hx
    all_goals (rcases hx with rfl | rfl)
    all_goals first | exact ⟨⟨by decide, by decide⟩, by decide⟩ | exact ⟨by show (("{}" : Str) == _) = false; decide, by decide⟩
theorem ok_ltext {f : Addr} (T : Txt P w K mg) (F : Stands K "_law_text" "_law_text" s__law_text [] f) : RTk.CallK P w K mg base 1 f ["_law_way", "_law_row_here"] (spLText K) := by
  refine RTk.callK0 F sc__law_text (fun n vs H Q h => ?_) (fun cdv A outer s0 H vs Q n hr h => ?_) (fun _ _ _ _ _ _ us hl => match us, hl with | [_, _], _ => rfl)
  · obtain ⟨wy, p, r, rfl, _⟩ := h; rfl
  obtain ⟨wy, p, r, rfl, hw, ⟨a, hp, hft⟩, hok, hQ⟩ := h
  obtain ⟨l1, l2, l3, l4, hx⟩ := row_len hok
  obtain ⟨nm, lv, ms, xs⟩ := r
  refine ⟨_, (RTk.psn_cons (RTk.PSn.of (ps_asg (pv 1) (RG.pg_tupK (K := K) (n := 4) (by rfl) (pgs_cons (pg_name (i := 2) sc__law_text.nd rfl (by first | exact Or.inl rfl | exact Or.inr rfl)) (pgs_cons (pg_name (i := 3) sc__law_text.nd rfl (by first | exact Or.inl rfl | exact Or.inr rfl)) (pgs_cons (pg_name (i := 4) sc__law_text.nd rfl (by first | exact Or.inl rfl | exact Or.inr rfl)) (pgs_cons (pg_name (i := 5) sc__law_text.nd rfl (by first | exact Or.inl rfl | exact Or.inr rfl)) pgs_nil)))))))
      (RTk.psn_cons (RTk.PSn.of (ps_if (pt_cmpR op_eq (pv 0) pe_int (nomark _)) (pss_one (ps_ret (pe_tup (pa_cons (pe_op op_add_str (pe_op op_add_str (pv 2) pe_str) (pe_callTy call_str_int (by rfl) T.b_str (by decide +kernel) (pa_cons (pv 3) pa_nil))) (pa_cons pe_non pa_nil))))) pss_nil))
      (RTk.psn_cons (RTk.PSn.of (ps_if (pt_cmpR op_gt (pv 0) pe_int (nomark _)) (pss_one (ps_ret (pe_ifExp (pt_cmpR op_eq (pv 0) pe_int (nomark _)) (pe_tup (pa_cons pe_non (pa_cons pe_str pa_nil))) (pe_tup (pa_cons pe_str (pa_cons pe_non pa_nil)))))) pss_nil))
      (RTk.psn_cons (RTk.PSn.of (ps_if (PW.pt (pw_and (pt_cmpR (RTe.op_neTE (Nat.lt_of_succ_lt (hu_of hr))) (pv 5) (pe_tup pa_nil) (nomark _)) (pw_and1 (pt_cmpR op_ne (pe_m1 PySem.F.slot_str_count PySem.F.type_str_count mt_count (pv 4) pe_str) (pe_callB call_len (by rfl) T.b_len (by decide +kernel) (pa_cons (pv 5) pa_nil)) (nomark _))))) (pss_one (ps_ret (pe_tup (pa_cons pe_non (pa_cons pe_str pa_nil))))) pss_nil))
      (RTk.psn_cons (RTk.psn_rep (i := 4) (j := 6) PassesOwn.never rfl sc__law_text.nd rfl rfl (by decide) rfl rfl (by rfl) T.b_str (by decide +kernel) (pv 5))
      (RTk.PSsn.of (pss_one (ps_ret (pe_tup (pa_cons (pe_op op_add_str (pv 4) (pe_op RD.op_mulS pe_str (pe_callTy call_int1 (by rfl) T.b_int (by decide +kernel) (pa_cons (pe_cmpR op_eq (pv 0) pe_int (nomark _)) pa_nil)))) (pa_cons pe_non pa_nil))))))))))), ?_⟩
  dsimp only [RTk.sqN, RTk.lS, RTk.Endn.at, cxK4]
  walk_at "in"
  dsimp only at l1 l2 l3 l4 hx hp hft
  have hsq := hft.sq
  rcases hw with rfl | rfl | rfl | rfl | rfl | rfl
  · walk_at "go"
    intro e0 f0
    have s1 := same_new f0 (.tup [])
    have sq1 := s1.seqT hsq
    have hft1 := hft.same s1
    have he := upd_same (H := H) (a := e0) (o := .tup [])
    have hq0 : ∀ q, upd H e0 (.tup []) q = none → H q = none := fun q h => s1.free h
    generalize upd H e0 (.tup []) = H1 at s1 sq1 hft1 he hq0 ⊢
    refine ⟨a, e0, xs, rfl, rfl, sq1, SqT.of he, _, rfl, ?_⟩
    have loop : ∀ t : TS, (xs.isEmpty = true ∨ (Txt.count ms "{}" : Int) = xs.length) → RTk.repN K (tVar 5) "{}" 4 6 n { nx := fun j σ2 H2 => tRet (tTup (tCons (tOp (fun x y H Q => ∃ i j, x = V.str i ∧ y = V.str j ∧ i.length + j.length ≤ sizeLine ∧ Q (V.str (i ++ j)) H) (tVar 4) (tOp RD.rMulS (tC (V.str "!")) (tCB (fun xs H Q => (∃ i, xs = [V.int i] ∧ Q (V.int i) H) ∨ ∃ k, xs = [V.bl k] ∧ Q (V.int (if k = true then 1 else 0)) H) (tCons (tOp rEq (tVar 0) (tC (V.int 3))) tNil)))) (tCons (tC V.non) tNil))) { nx := fun x H2 => Q j V.non H2, rt := Q j } σ2 H2, rt := Q } [some (V.int 0), some (V.ref p), some (V.str nm), some (V.int lv), some (V.str ms), some (V.ref a), none] H1 := fun _ hc => by
      refine ⟨_, rfl, a, xs, ms, rfl, hft1, rfl, hx, by omega, by omega, ?_⟩
      have h4 := RTk.runR_at "{}" (i := 4) (j := 6) (by decide) xs [some (V.int 0), some (V.ref p), some (V.str nm), some (V.int lv), some (V.str ms), some (V.ref a), none] ms rfl
      have h0 := runR_oth 4 6 0 (by decide) (by decide) xs [some (V.int 0), some (V.ref p), some (V.str nm), some (V.int lv), some (V.str ms), some (V.ref a), none] ms
      have hl := RTk.runR_len "{}" 4 6 10000 xs [some (V.int 0), some (V.ref p), some (V.str nm), some (V.int lv), some (V.str ms), some (V.ref a), none] ms fun x h => (hx x h).2
      rw [runR_snd] at h4 hl
      generalize (RTk.runR "{}" 4 6 xs [some (V.int 0), some (V.ref p), some (V.str nm), some (V.int lv), some (V.str ms), some (V.ref a), none] ms).1 = σ2 at h4 h0 ⊢
      have h0 : σ2[0]? = some (some (V.int 0)) := h0
      have l5 : (repsM xs ms).length ≤ 30000 := by
        have : xs.length * 10000 ≤ 2 * 10000 := Nat.mul_le_mul_right _ l3
        omega
      have mo : PySem.MulOk (Str.ofString "!") 0 := ⟨by decide, fun h => absurd (by decide) h, fun h => absurd (by decide) h⟩
      have eM : Txt.mul (Str.ofString "!") 0 = ("" : Str) := by decide +kernel
      have l6 : (repsM xs ms).length + (Txt.mul (Str.ofString "!") 0).length ≤ sizeLine := by rw [eM, sizeLine_eq]; show _ + 0 ≤ _; omega
      have lt : lawT 0 ⟨nm, lv, ms, xs⟩ = (some (repsM xs ms ++ ("" : Str)), none) := by
        unfold lawT
        rw [if_neg (by decide), if_neg (by decide), if_neg]
        · rfl
        · rcases hc with h | h
          · show ¬ (!xs.isEmpty && _) = true; rw [h]; simp
          · show ¬ (!xs.isEmpty && !decide ((Txt.count ms "{}" : Int) = xs.length)) = true
            rw [decide_eq_true h]; simp
      rw [lt] at hQ
      refine ⟨_, h4, _, h0, ?_⟩
      walk_at "go"
      refine .inr ⟨_, rfl, ?_⟩
      refine ⟨_, _, rfl, rfl, mo, _, _, rfl, rfl, l6, (by show 2 ≤ sizeLine; decide), fun q fq => ?_⟩
      show Q n (.ref q) (upd H1 q (.tup [.str (repsM xs ms ++ Txt.mul (Str.ofString "!") 0), .non]))
      rw [eM]
      exact hQ _ q (s1.trans (same_new fq _)) (hq0 q fq) upd_same
    cases hE : xs.isEmpty with
    | true => exact loop tNext (.inl hE)
    | false =>
      refine iteT' rfl ?_
      walk_at "go"
      refine ⟨⟨_, rfl⟩, ms, "{}", rfl, rfl, ?_⟩
      walk_at "go"
      by_cases hc : (Txt.count ms "{}" : Int) = xs.length
      · have e7 : decide (V.int (Txt.count ms "{}") = V.int xs.length) = true := decide_eq_true (by rw [hc])
        refine iteF' (by rw [e7]; rfl) ?_
        exact loop tNext (.inr hc)
      · have e7 : decide (V.int (Txt.count ms "{}") = V.int xs.length) = false := decide_eq_false fun z => hc (V.int.inj z)
        refine iteT' (by rw [e7]; rfl) ?_
        walk_at "go"
        intro q fq
        have lt : lawT 0 ⟨nm, lv, ms, xs⟩ = (none, some ("message" : Str)) := by
          unfold lawT
          rw [if_neg (by decide), if_neg (by decide), if_pos]
          show (!xs.isEmpty && !decide ((Txt.count ms "{}" : Int) = xs.length)) = true
          rw [hE, decide_eq_false hc]; rfl
        rw [lt] at hQ
        exact hQ _ q (s1.trans (same_new fq _)) (hq0 q fq) upd_same
  · walk_at "go"
    intro e0 f0
    have s1 := same_new f0 (.tup [])
    have sq1 := s1.seqT hsq
    have hft1 := hft.same s1
    have he := upd_same (H := H) (a := e0) (o := .tup [])
    have hq0 : ∀ q, upd H e0 (.tup []) q = none → H q = none := fun q h => s1.free h
    generalize upd H e0 (.tup []) = H1 at s1 sq1 hft1 he hq0 ⊢
    refine ⟨a, e0, xs, rfl, rfl, sq1, SqT.of he, _, rfl, ?_⟩
    have loop : ∀ t : TS, (xs.isEmpty = true ∨ (Txt.count ms "{}" : Int) = xs.length) → RTk.repN K (tVar 5) "{}" 4 6 n { nx := fun j σ2 H2 => tRet (tTup (tCons (tOp (fun x y H Q => ∃ i j, x = V.str i ∧ y = V.str j ∧ i.length + j.length ≤ sizeLine ∧ Q (V.str (i ++ j)) H) (tVar 4) (tOp RD.rMulS (tC (V.str "!")) (tCB (fun xs H Q => (∃ i, xs = [V.int i] ∧ Q (V.int i) H) ∨ ∃ k, xs = [V.bl k] ∧ Q (V.int (if k = true then 1 else 0)) H) (tCons (tOp rEq (tVar 0) (tC (V.int 3))) tNil)))) (tCons (tC V.non) tNil))) { nx := fun x H2 => Q j V.non H2, rt := Q j } σ2 H2, rt := Q } [some (V.int 1), some (V.ref p), some (V.str nm), some (V.int lv), some (V.str ms), some (V.ref a), none] H1 := fun _ hc => by
      refine ⟨_, rfl, a, xs, ms, rfl, hft1, rfl, hx, by omega, by omega, ?_⟩
      have h4 := RTk.runR_at "{}" (i := 4) (j := 6) (by decide) xs [some (V.int 1), some (V.ref p), some (V.str nm), some (V.int lv), some (V.str ms), some (V.ref a), none] ms rfl
      have h0 := runR_oth 4 6 0 (by decide) (by decide) xs [some (V.int 1), some (V.ref p), some (V.str nm), some (V.int lv), some (V.str ms), some (V.ref a), none] ms
      have hl := RTk.runR_len "{}" 4 6 10000 xs [some (V.int 1), some (V.ref p), some (V.str nm), some (V.int lv), some (V.str ms), some (V.ref a), none] ms fun x h => (hx x h).2
      rw [runR_snd] at h4 hl
      generalize (RTk.runR "{}" 4 6 xs [some (V.int 1), some (V.ref p), some (V.str nm), some (V.int lv), some (V.str ms), some (V.ref a), none] ms).1 = σ2 at h4 h0 ⊢
      have h0 : σ2[0]? = some (some (V.int 1)) := h0
      have l5 : (repsM xs ms).length ≤ 30000 := by
        have : xs.length * 10000 ≤ 2 * 10000 := Nat.mul_le_mul_right _ l3
        omega
      have mo : PySem.MulOk (Str.ofString "!") 0 := ⟨by decide, fun h => absurd (by decide) h, fun h => absurd (by decide) h⟩
      have eM : Txt.mul (Str.ofString "!") 0 = ("" : Str) := by decide +kernel
      have l6 : (repsM xs ms).length + (Txt.mul (Str.ofString "!") 0).length ≤ sizeLine := by rw [eM, sizeLine_eq]; show _ + 0 ≤ _; omega
      have lt : lawT 1 ⟨nm, lv, ms, xs⟩ = (some (repsM xs ms ++ ("" : Str)), none) := by
        unfold lawT
        rw [if_neg (by decide), if_neg (by decide), if_neg]
        · rfl
        · rcases hc with h | h
          · show ¬ (!xs.isEmpty && _) = true; rw [h]; simp
          · show ¬ (!xs.isEmpty && !decide ((Txt.count ms "{}" : Int) = xs.length)) = true
            rw [decide_eq_true h]; simp
      rw [lt] at hQ
      refine ⟨_, h4, _, h0, ?_⟩
      walk_at "go"
      refine .inr ⟨_, rfl, ?_⟩
      refine ⟨_, _, rfl, rfl, mo, _, _, rfl, rfl, l6, (by show 2 ≤ sizeLine; decide), fun q fq => ?_⟩
      show Q n (.ref q) (upd H1 q (.tup [.str (repsM xs ms ++ Txt.mul (Str.ofString "!") 0), .non]))
      rw [eM]
      exact hQ _ q (s1.trans (same_new fq _)) (hq0 q fq) upd_same
    cases hE : xs.isEmpty with
    | true => exact loop tNext (.inl hE)
    | false =>
      refine iteT' rfl ?_
      walk_at "go"
      refine ⟨⟨_, rfl⟩, ms, "{}", rfl, rfl, ?_⟩
      walk_at "go"
      by_cases hc : (Txt.count ms "{}" : Int) = xs.length
      · have e7 : decide (V.int (Txt.count ms "{}") = V.int xs.length) = true := decide_eq_true (by rw [hc])
        refine iteF' (by rw [e7]; rfl) ?_
        exact loop tNext (.inr hc)
      · have e7 : decide (V.int (Txt.count ms "{}") = V.int xs.length) = false := decide_eq_false fun z => hc (V.int.inj z)
        refine iteT' (by rw [e7]; rfl) ?_
        walk_at "go"
        intro q fq
        have lt : lawT 1 ⟨nm, lv, ms, xs⟩ = (none, some ("message" : Str)) := by
          unfold lawT
          rw [if_neg (by decide), if_neg (by decide), if_pos]
          show (!xs.isEmpty && !decide ((Txt.count ms "{}" : Int) = xs.length)) = true
          rw [hE, decide_eq_false hc]; rfl
        rw [lt] at hQ
        exact hQ _ q (s1.trans (same_new fq _)) (hq0 q fq) upd_same
  · have hi : lv.natAbs.log2 < 1920 := by
      have l4 : lv.natAbs ≤ 50 := l4
      by_cases c : lv.natAbs = 0
      · rw [c]; decide
      · exact (Nat.log2_lt c).mpr (Nat.lt_of_le_of_lt l4 (Nat.lt_of_lt_of_le (by decide : 50 < 2 ^ 6) (Nat.pow_le_pow_right (by decide) (by decide))))
    have h64 : lv.natAbs.log2 < 63 := by
      have l4 : lv.natAbs ≤ 50 := l4
      by_cases c : lv.natAbs = 0
      · rw [c]; decide
      · exact (Nat.log2_lt c).mpr (Nat.lt_of_le_of_lt l4 (by decide))
    have hl := RN.len_toString lv
    have l1 : nm.length ≤ 10 := l1
    have lc : (":" : Str).length = 1 := rfl
    have z1 : nm.length + (":" : Str).length ≤ sizeLine := by rw [sizeLine_eq, lc]; omega
    have z2 : (nm ++ (":" : Str)).length + (Str.ofString (toString lv)).length ≤ sizeLine := by rw [len_app, lc, sizeLine_eq]; omega
    walk_at "go"
    intro q fq
    exact hQ _ q (same_new fq _) fq upd_same
  · walk_at "go"
    intro e0 f0
    have s1 := same_new f0 (.tup [])
    have sq1 := s1.seqT hsq
    have hft1 := hft.same s1
    have he := upd_same (H := H) (a := e0) (o := .tup [])
    have hq0 : ∀ q, upd H e0 (.tup []) q = none → H q = none := fun q h => s1.free h
    generalize upd H e0 (.tup []) = H1 at s1 sq1 hft1 he hq0 ⊢
    refine ⟨a, e0, xs, rfl, rfl, sq1, SqT.of he, _, rfl, ?_⟩
    have loop : ∀ t : TS, (xs.isEmpty = true ∨ (Txt.count ms "{}" : Int) = xs.length) → RTk.repN K (tVar 5) "{}" 4 6 n { nx := fun j σ2 H2 => tRet (tTup (tCons (tOp (fun x y H Q => ∃ i j, x = V.str i ∧ y = V.str j ∧ i.length + j.length ≤ sizeLine ∧ Q (V.str (i ++ j)) H) (tVar 4) (tOp RD.rMulS (tC (V.str "!")) (tCB (fun xs H Q => (∃ i, xs = [V.int i] ∧ Q (V.int i) H) ∨ ∃ k, xs = [V.bl k] ∧ Q (V.int (if k = true then 1 else 0)) H) (tCons (tOp rEq (tVar 0) (tC (V.int 3))) tNil)))) (tCons (tC V.non) tNil))) { nx := fun x H2 => Q j V.non H2, rt := Q j } σ2 H2, rt := Q } [some (V.int 3), some (V.ref p), some (V.str nm), some (V.int lv), some (V.str ms), some (V.ref a), none] H1 := fun _ hc => by
      refine ⟨_, rfl, a, xs, ms, rfl, hft1, rfl, hx, by omega, by omega, ?_⟩
      have h4 := RTk.runR_at "{}" (i := 4) (j := 6) (by decide) xs [some (V.int 3), some (V.ref p), some (V.str nm), some (V.int lv), some (V.str ms), some (V.ref a), none] ms rfl
      have h0 := runR_oth 4 6 0 (by decide) (by decide) xs [some (V.int 3), some (V.ref p), some (V.str nm), some (V.int lv), some (V.str ms), some (V.ref a), none] ms
      have hl := RTk.runR_len "{}" 4 6 10000 xs [some (V.int 3), some (V.ref p), some (V.str nm), some (V.int lv), some (V.str ms), some (V.ref a), none] ms fun x h => (hx x h).2
      rw [runR_snd] at h4 hl
      generalize (RTk.runR "{}" 4 6 xs [some (V.int 3), some (V.ref p), some (V.str nm), some (V.int lv), some (V.str ms), some (V.ref a), none] ms).1 = σ2 at h4 h0 ⊢
      have h0 : σ2[0]? = some (some (V.int 3)) := h0
      have l5 : (repsM xs ms).length ≤ 30000 := by
        have : xs.length * 10000 ≤ 2 * 10000 := Nat.mul_le_mul_right _ l3
        omega
      have mo : PySem.MulOk (Str.ofString "!") 1 := ⟨by decide, fun _ z => absurd z (by decide), fun _ z => absurd z (by decide)⟩
      have eM : Txt.mul (Str.ofString "!") 1 = ("!" : Str) := by decide +kernel
      have l6 : (repsM xs ms).length + (Txt.mul (Str.ofString "!") 1).length ≤ sizeLine := by rw [eM, sizeLine_eq]; show _ + 1 ≤ _; omega
      have lt : lawT 3 ⟨nm, lv, ms, xs⟩ = (some (repsM xs ms ++ ("!" : Str)), none) := by
        unfold lawT
        rw [if_neg (by decide), if_neg (by decide), if_neg]
        · rfl
        · rcases hc with h | h
          · show ¬ (!xs.isEmpty && _) = true; rw [h]; simp
          · show ¬ (!xs.isEmpty && !decide ((Txt.count ms "{}" : Int) = xs.length)) = true
            rw [decide_eq_true h]; simp
      rw [lt] at hQ
      refine ⟨_, h4, _, h0, ?_⟩
      walk_at "go"
      refine .inr ⟨_, rfl, ?_⟩
      refine ⟨_, _, rfl, rfl, mo, _, _, rfl, rfl, l6, (by show 2 ≤ sizeLine; decide), fun q fq => ?_⟩
      show Q n (.ref q) (upd H1 q (.tup [.str (repsM xs ms ++ Txt.mul (Str.ofString "!") 1), .non]))
      rw [eM]
      exact hQ _ q (s1.trans (same_new fq _)) (hq0 q fq) upd_same
    cases hE : xs.isEmpty with
    | true => exact loop tNext (.inl hE)
    | false =>
      refine iteT' rfl ?_
      walk_at "go"
      refine ⟨⟨_, rfl⟩, ms, "{}", rfl, rfl, ?_⟩
      walk_at "go"
      by_cases hc : (Txt.count ms "{}" : Int) = xs.length
      · have e7 : decide (V.int (Txt.count ms "{}") = V.int xs.length) = true := decide_eq_true (by rw [hc])
        refine iteF' (by rw [e7]; rfl) ?_
        exact loop tNext (.inr hc)
      · have e7 : decide (V.int (Txt.count ms "{}") = V.int xs.length) = false := decide_eq_false fun z => hc (V.int.inj z)
        refine iteT' (by rw [e7]; rfl) ?_
        walk_at "go"
        intro q fq
        have lt : lawT 3 ⟨nm, lv, ms, xs⟩ = (none, some ("message" : Str)) := by
          unfold lawT
          rw [if_neg (by decide), if_neg (by decide), if_pos]
          show (!xs.isEmpty && !decide ((Txt.count ms "{}" : Int) = xs.length)) = true
          rw [hE, decide_eq_false hc]; rfl
        rw [lt] at hQ
        exact hQ _ q (s1.trans (same_new fq _)) (hq0 q fq) upd_same
  · walk_at "go"
    intro q fq
    exact hQ _ q (same_new fq _) fq upd_same
  · walk_at "go"
    intro q fq
    exact hQ _ q (same_new fq _) fq upd_same
end
end K17

set_option Elab.async false
set_option linter.all false
set_option maxRecDepth 100000
set_option maxHeartbeats 0

namespace K17
open PySem PySem.Spec PyProof.Rows L2 RC
section
variable {P : Program} {w : World} {K : PySem.W.Frag} {mg : Str → Option Value} {base : Heap}
/-! ### a row drawn -/
theorem nw_old {H H1 H2 : Hp} {s l : Addr} (hs : H s ≠ none) (hl : H l ≠ none) (o : Old s l H1 H2) : Same (nw H H1) (nw H H2) := fun b u e => by
  have n := nw_free e
  exact nw_at (o b u (fun z => hs (by rw [← z]; exact n)) (fun z => hl (by rw [← z]; exact n)) (rst_same _ _ e)) n
def MP (K : PySem.W.Frag) (k : Nat) (H : Hp) (p : Addr) (m : Str) (xs : List V) : Prop := ∃ a, H p = some (.tup [.str m, .ref a]) ∧ RTk.FTs K k H a xs
theorem MP.same {k : Nat} {H H' : Hp} {p : Addr} {m : Str} {xs : List V} (h : MP K k H p m xs) (s : Same H H') : MP K k H' p m xs := let ⟨a, h1, h2⟩ := h; ⟨a, s _ _ h1, h2.same s⟩
theorem MP.up {k j : Nat} {H : Hp} {p : Addr} {m : Str} {xs : List V} (h : MP K k H p m xs) (q : k ≤ j) : MP K j H p m xs := let ⟨a, h1, h2⟩ := h; ⟨a, h1, h2.up q⟩
theorem nw_sm {H H1 H2 : Hp} (s : Same H1 H2) : Same (nw H H1) (nw H H2) := fun b u e => nw_at (s _ _ (rst_same _ _ e)) (nw_free e)
theorem mp_of {H0 H : Hp} {p a : Addr} {m : Str} {xs : List V} (hp : H p = some (.tup [.str m, .ref a])) (ha : H a = some (.tup xs)) (np : H0 p = none) (na : H0 a = none) (hx : ∀ x ∈ xs, ∀ z : Str, x ≠ .str z) (k : Nat) : MP K k (nw H0 H) p m xs := ⟨a, nw_at hp np, .inr ⟨.inl (.inl (nw_at ha na)), hx⟩⟩
structure RowR (K : PySem.W.Frag) (k : Nat) (H : Hp) (p : Addr) (r : Row) : Prop where
  at_ : RowAt K k H p r
  ok : r.Ok
def spLRow (K : PySem.W.Frag) : RTk.SpN := fun n vs H Q => ∃ (s l : Addr) (m : Nat), vs = [.ref s] ∧ Stm H s l m ∧ m ≤ 900000 ∧ ∀ (k : Nat) (H' : Hp) (p : Addr) (r : Row), Old s l H H' → Stm H' s l (m + 3) → RowAt K k (nw H H') p r → r.Ok → Q k (.ref p) H'
theorem el_mk {H0 H : Hp} {a p : Addr} {m : Str} {xs : List V} (fa : H a = none) (fp : upd H a (.tup xs) p = none) (hn : ∀ b, H b = none → H0 b = none) (hx : ∀ x ∈ xs, ∀ z : Str, x ≠ .str z) :
    Same H (upd (upd H a (.tup xs)) p (.tup [.str m, .ref a])) ∧ (∀ b, upd (upd H a (.tup xs)) p (.tup [.str m, .ref a]) b = none → H0 b = none) ∧ ∀ k, MP K k (nw H0 (upd (upd H a (.tup xs)) p (.tup [.str m, .ref a]))) p m xs := by
  have s1 := same_new fa (.tup xs)
  have s2 := same_new fp (.tup [.str m, .ref a])
  exact ⟨s1.trans s2, fun b h => hn b (s1.free (s2.free h)), mp_of upd_same (s2 _ _ upd_same) (hn _ (s1.free fp)) (hn _ fa) hx⟩
theorem el_t {H0 H : Hp} {σ : L2.St} {te : TE} {ta tn : TA} {Q : List V → Hp → Prop} (m : Str) (xs : List V) (hte : ∀ R : VK, R (.str m) H → te σ H R) (hta : ∀ (R : List V → Hp → Prop), R xs H → ta σ H R) (hx : ∀ x ∈ xs, ∀ z : Str, x ≠ .str z) (hl : xs.length ≤ 100) (hn : ∀ b, H b = none → H0 b = none)
    (h : ∀ (H' : Hp) (p : Addr), Same H H' → (∀ b, H' b = none → H0 b = none) → (∀ k, MP K k (nw H0 H') p m xs) → tn σ H' (fun ys H2 => Q (.ref p :: ys) H2)) : tCons (tTup (tCons te (tCons (tTup ta) tNil))) tn σ H Q := by
  refine hte _ (hta _ ⟨by rw [sizeLine_eq]; omega, fun a fa => ⟨(by show 2 ≤ sizeLine; decide), fun p fp => ?_⟩⟩)
  obtain ⟨s1, n1, q1⟩ := el_mk (K := K) (m := m) fa fp hn hx
  exact h _ p s1 n1 q1
theorem el_c {H0 H : Hp} {σ : L2.St} {k : Nat} {te : TE} {ta : TA} {tn : RTk.TAn} {Q : Nat → List V → Hp → Prop} (m : Str) (xs : List V) (hte : ∀ R : VK, R (.str m) H → te σ H R) (hta : ∀ (R : List V → Hp → Prop), R xs H → ta σ H R) (hx : ∀ x ∈ xs, ∀ z : Str, x ≠ .str z) (hl : xs.length ≤ 100) (hn : ∀ b, H b = none → H0 b = none)
    (h : ∀ (H' : Hp) (p : Addr), Same H H' → (∀ b, H' b = none → H0 b = none) → (∀ k, MP K k (nw H0 H') p m xs) → tn k σ H' (fun i ys H2 => Q i (.ref p :: ys) H2)) : RTk.consN (RTk.lE (tTup (tCons te (tCons (tTup ta) tNil)))) tn k σ H Q := by
  refine hte _ (hta _ ⟨by rw [sizeLine_eq]; omega, fun a fa => ⟨(by show 2 ≤ sizeLine; decide), fun p fp => ?_⟩⟩)
  obtain ⟨s1, n1, q1⟩ := el_mk (K := K) (m := m) fa fp hn hx
  exact h _ p s1 n1 q1
theorem el_n {H0 H : Hp} {σ : L2.St} {k : Nat} {ta : TA} {tn : RTk.TAn} {Q : Nat → List V → Hp → Prop} (m g : Str) (xs : List V) (hta : ∀ (R : List V → Hp → Prop), R xs H → ta σ H R) (hx : ∀ x ∈ xs, ∀ z : Str, x ≠ .str z) (hl : xs.length ≤ 100) (hn : ∀ b, H b = none → H0 b = none)
    (h : ∀ (j : Nat) (H' : Hp) (p : Addr), Same H H' → (∀ b, H' b = none → H0 b = none) → MP K j (nw H0 H') p m (.str g :: xs) → tn j σ H' (fun i ys H2 => Q i (.ref p :: ys) H2)) : RTk.consN (RTk.tupN (RTk.consN (RTk.strN m) (RTk.consN (RTk.tup1N g ta) (RTk.lA tNil)))) tn k σ H Q := by
  refine ⟨Nat.succ_le_succ (Nat.zero_le _), hta _ ⟨hl, hx, fun a j H2 fa s1 hf => ⟨(by show 2 ≤ sizeLine; decide), fun p fp => ?_⟩⟩⟩
  have s2 := same_new fp (.tup [.str m, .ref a])
  obtain ⟨o, us, n, ha, hd, ho⟩ := hf
  have s1 : Same H H2 := s1
  exact h j _ p (s1.trans s2) (fun b q => hn b (s1.free (s2.free q))) ⟨a, nw_at upd_same (hn _ (s1.free fp)), .inl ⟨o, us, n, nw_at (s2 _ _ ha) (hn _ fa), hd, ho⟩⟩
theorem ok_lrow {f : Addr} (T : Txt P w K mg) (F : Stands K "_law_row" "_law_row" s__law_row [] f) (c__law_pick : Callable P w K mg base 2 (He.ga K "_law_pick") ["_law_stream", "_law_some"] [] (spPick K)) : RTk.CallK P w K mg base 3 f ["_law_stream"] (spLRow K) := by
  refine RTk.callK0 F sc__law_row (fun n vs H Q h => ?_) (fun cdv A outer s0 H vs Q n hr h => ?_) (fun _ _ _ _ _ _ us hl => match us, hl with | [_], _ => rfl)
  · obtain ⟨s, l, m, rfl, _⟩ := h; rfl
  obtain ⟨s, l, m, rfl, hs, hm, hQ⟩ := h
  refine ⟨_, (RTk.psn_cons (RTk.psn_set (i := 1) sc__law_row.nd rfl (by first | exact Or.inl rfl | exact Or.inr rfl) (RTk.pen_lst (RTk.pan_cons (RTk.PEn.of (pe_tup (pa_cons pe_str (pa_cons (pe_tup pa_nil) pa_nil)))) (RTk.pan_cons (RTk.PEn.of (pe_tup (pa_cons pe_str (pa_cons (pe_tup pa_nil) pa_nil)))) (RTk.pan_cons (RTk.PEn.of (pe_tup (pa_cons pe_str (pa_cons (pe_tup pa_nil) pa_nil)))) (RTk.pan_cons (RTk.PEn.of (pe_tup (pa_cons pe_str (pa_cons (pe_tup pa_nil) pa_nil)))) (RTk.pan_cons (RTk.PEn.of (pe_tup (pa_cons pe_str (pa_cons (pe_tup (pa_cons pe_int pa_nil)) pa_nil)))) (RTk.pan_cons (RTk.pen_tup (RTk.pan_cons RTk.pen_str (RTk.pan_cons (RTk.pen_tup1 (pa_cons (pe_un un_neg pe_int) pa_nil)) (RTk.PAn.of pa_nil)))) (RTk.PAn.of (pa_cons (pe_tup (pa_cons pe_str (pa_cons (pe_tup pa_nil) pa_nil))) pa_nil))))))))))
      (RTk.PSsn.of (pss_cons (ps_set (i := 1) sc__law_row.nd rfl (by first | exact Or.inl rfl | exact Or.inr rfl) (pe_op op_cat (pv 1) (pe_lst (pa_cons (pe_tup (pa_cons (pe_op RD.op_mulS pe_str pe_int) (pa_cons (pe_tup pa_nil) pa_nil))) (pa_cons (pe_tup (pa_cons pe_str (pa_cons (pe_tup (pa_cons pe_int pa_nil)) pa_nil))) (pa_cons (pe_tup (pa_cons pe_str (pa_cons (pe_tup (pa_cons pe_int (pa_cons pe_int pa_nil))) pa_nil))) (pa_cons (pe_tup (pa_cons pe_str (pa_cons (pe_tup (pa_cons pe_int pa_nil)) pa_nil))) pa_nil)))))))
      (pss_cons (ps_asg (pe_fn T.g__law_pick c__law_pick (hr.mono (by first | decide | exact Nat.le_refl _)) (by rfl) (pa_cons (pv 0) (pa_cons (pv 1) pa_nil))) (RG.pg_tupK (K := K) (n := 2) (by rfl) (pgs_cons (pg_name (i := 2) sc__law_row.nd rfl (by first | exact Or.inl rfl | exact Or.inr rfl)) (pgs_cons (pg_name (i := 3) sc__law_row.nd rfl (by first | exact Or.inl rfl | exact Or.inr rfl)) pgs_nil))))
      (pss_one (ps_ret (pe_tup (pa_cons (pe_fn T.g__law_pick c__law_pick (hr.mono (by first | decide | exact Nat.le_refl _)) (by rfl) (pa_cons (pv 0) (pa_cons (pe_lst (pa_cons pe_str (pa_cons pe_str (pa_cons pe_str (pa_cons pe_str pa_nil))))) pa_nil))) (pa_cons (pe_fn T.g__law_pick c__law_pick (hr.mono (by first | decide | exact Nat.le_refl _)) (by rfl) (pa_cons (pv 0) (pa_cons (pe_lst (pa_cons pe_int (pa_cons pe_int (pa_cons pe_int (pa_cons pe_int (pa_cons pe_int (pa_cons (pe_un un_neg pe_int) pa_nil))))))) pa_nil))) (pa_cons (pv 2) (pa_cons (pv 3) pa_nil))))))))))), ?_⟩
  dsimp only [RTk.sqN, RTk.lS, RTk.Endn.at, cxK4]
  walk_at "in"
  have n0 : ∀ b, H b = none → H b = none := fun _ h => h
  have mo9 : PySem.MulOk (Str.ofString "h") 9 := ⟨by decide, fun _ _ => by decide, fun _ _ => by decide +kernel⟩
  dsimp only [RTk.asgN, RTk.lstN]
  refine el_c (K := K) (H0 := H) "a" [] (fun R h => h) (fun R h => h) (fun x h => nomatch h) (by decide) n0 fun H1 p1 s1 n1 q1 => ?_
  refine el_c (K := K) (H0 := H) "bcd" [] (fun R h => h) (fun R h => h) (fun x h => nomatch h) (by decide) n1 fun H2 p2 s2 n2 q2 => ?_
  refine el_c (K := K) (H0 := H) "" [] (fun R h => h) (fun R h => h) (fun x h => nomatch h) (by decide) n2 fun H3 p3 s3 n3 q3 => ?_
  refine el_c (K := K) (H0 := H) "e\nf" [] (fun R h => h) (fun R h => h) (fun x h => nomatch h) (by decide) n3 fun H4 p4 s4 n4 q4 => ?_
  refine el_c (K := K) (H0 := H) "x {} y" [.int 7] (fun R h => h) (fun R h => h) (by intro x h z; simp only [List.mem_cons, List.not_mem_nil, or_false] at h; first | (subst h; exact fun q => nomatch q) | (rcases h with rfl | rfl <;> exact fun q => nomatch q)) (by decide) n4 fun H5 p5 s5 n5 q5 => ?_
  refine el_n (K := K) (H0 := H) "{}{}" "g" [.int (-2)] (fun R h => ⟨2, rfl, h⟩) (by intro x h z; simp only [List.mem_cons, List.not_mem_nil, or_false] at h; first | (subst h; exact fun q => nomatch q) | (rcases h with rfl | rfl <;> exact fun q => nomatch q)) (by decide) n5 fun j H6 p6 s6 n6 q6 => ?_
  show tCons (tTup (tCons _ (tCons (tTup _) tNil))) tNil _ _ _
  refine el_t (K := K) (H0 := H) "{}" [] (fun R h => h) (fun R h => h) (fun x h => nomatch h) (by decide) n6 fun H7 p7 s7 n7 q7 => ?_
  refine ⟨(by show 7 ≤ sizeLine; decide), fun A1 fA1 => ?_⟩
  have sA1 := same_new fA1 (.lst [.ref p1, .ref p2, .ref p3, .ref p4, .ref p5, .ref p6, .ref p7])
  have hA1 : upd H7 A1 (.lst [.ref p1, .ref p2, .ref p3, .ref p4, .ref p5, .ref p6, .ref p7]) A1 = some (.lst [.ref p1, .ref p2, .ref p3, .ref p4, .ref p5, .ref p6, .ref p7]) := upd_same
  have nA1 : ∀ b, upd H7 A1 (.lst [.ref p1, .ref p2, .ref p3, .ref p4, .ref p5, .ref p6, .ref p7]) b = none → H b = none := fun b h => n7 b (sA1.free h)
  have fA1' := n7 _ fA1
  generalize upd H7 A1 (.lst [.ref p1, .ref p2, .ref p3, .ref p4, .ref p5, .ref p6, .ref p7]) = HA at sA1 hA1 nA1 ⊢
  dsimp only [gName]
  refine seq_of (fun σ' H' => ∃ (B : Addr) (vs : List V), σ' = [some (.ref s), some (.ref B), none, none] ∧ H' B = some (.lst vs) ∧ vs.length = 11 ∧ H B = none ∧ Same H H' ∧ ∀ v ∈ vs, ∃ (p : Addr) (e : Str × List V), v = .ref p ∧ e ∈ rowMenu ∧ MP K j (nw H H') p e.1 e.2) (fun b' kb => ?_) (fun σ' H' hm2 => ?_)
  · dsimp only [tSeq, tAsg, tOp, tVar, tLst]
    refine ⟨_, rfl, ?_⟩
    refine el_t (K := K) (H0 := H) "hhhhhhhhh" [] (fun R h => ⟨_, _, rfl, rfl, mo9, by rw [show Txt.mul (Str.ofString "h") 9 = ("hhhhhhhhh" : Str) from by decide +kernel]; exact h⟩) (fun R h => h) (fun x h => nomatch h) (by decide) nA1 fun H8 p8 s8 n8 q8 => ?_
    refine el_t (K := K) (H0 := H) "i" [.int 1] (fun R h => h) (fun R h => h) (by intro x h z; simp only [List.mem_cons, List.not_mem_nil, or_false] at h; first | (subst h; exact fun q => nomatch q) | (rcases h with rfl | rfl <;> exact fun q => nomatch q)) (by decide) n8 fun H9 p9 s9 n9 q9 => ?_
    refine el_t (K := K) (H0 := H) "{}" [.int 1, .int 2] (fun R h => h) (fun R h => h) (by intro x h z; simp only [List.mem_cons, List.not_mem_nil, or_false] at h; first | (subst h; exact fun q => nomatch q) | (rcases h with rfl | rfl <;> exact fun q => nomatch q)) (by decide) n9 fun H10 p10 s10 n10 q10 => ?_
    refine el_t (K := K) (H0 := H) "{j}" [.int 3] (fun R h => h) (fun R h => h) (by intro x h z; simp only [List.mem_cons, List.not_mem_nil, or_false] at h; first | (subst h; exact fun q => nomatch q) | (rcases h with rfl | rfl <;> exact fun q => nomatch q)) (by decide) n10 fun H11 p11 s11 n11 q11 => ?_
    refine ⟨(by show 4 ≤ sizeLine; decide), fun A2 fA2 => ?_⟩
    have sA2 := same_new fA2 (.lst [.ref p8, .ref p9, .ref p10, .ref p11])
    have hA2 : upd H11 A2 (.lst [.ref p8, .ref p9, .ref p10, .ref p11]) A2 = some (.lst [.ref p8, .ref p9, .ref p10, .ref p11]) := upd_same
    have nA2 : ∀ b, upd H11 A2 (.lst [.ref p8, .ref p9, .ref p10, .ref p11]) b = none → H b = none := fun b h => n11 b (sA2.free h)
    generalize upd H11 A2 (.lst [.ref p8, .ref p9, .ref p10, .ref p11]) = HB at sA2 hA2 nA2 ⊢
    have hA1' := sA2 _ _ (s11 _ _ (s10 _ _ (s9 _ _ (s8 _ _ hA1))))
    walk_at "go"
    intro B fB
    walk_at "go"
    have z12 : Same HB (upd HB B (.lst ([.ref p1, .ref p2, .ref p3, .ref p4, .ref p5, .ref p6, .ref p7] ++ [.ref p8, .ref p9, .ref p10, .ref p11]))) := same_new fB _
    have z11 := sA2.trans z12
    have z10 := s11.trans z11
    have z9 := s10.trans z10
    have z8 := s9.trans z9
    have zA := s8.trans z8
    have z7 := sA1.trans zA
    have z6 := s7.trans z7
    have z5 := s6.trans z6
    have z4 := s5.trans z5
    have z3 := s4.trans z4
    have z2 := s3.trans z3
    have z1 := s2.trans z2
    have z0 := s1.trans z1
    refine kb _ _ ⟨B, _, rfl, upd_same, rfl, nA2 _ fB, z0, fun v hv => ?_⟩
    have hv : v ∈ ([.ref p1, .ref p2, .ref p3, .ref p4, .ref p5, .ref p6, .ref p7, .ref p8, .ref p9, .ref p10, .ref p11] : List V) := hv
    simp only [List.mem_cons, List.not_mem_nil, or_false] at hv
    rcases hv with rfl | rfl | rfl | rfl | rfl | rfl | rfl | rfl | rfl | rfl | rfl
    · exact ⟨p1, ("a", []), rfl, by decide, (q1 j).same (nw_sm z1)⟩
    · exact ⟨p2, ("bcd", []), rfl, by decide, (q2 j).same (nw_sm z2)⟩
    · exact ⟨p3, ("", []), rfl, by decide, (q3 j).same (nw_sm z3)⟩
    · exact ⟨p4, ("e\nf", []), rfl, by decide, (q4 j).same (nw_sm z4)⟩
    · exact ⟨p5, ("x {} y", [.int 7]), rfl, by decide, (q5 j).same (nw_sm z5)⟩
    · exact ⟨p6, ("{}{}", [.str "g", .int (-2)]), rfl, by decide, q6.same (nw_sm z6)⟩
    · exact ⟨p7, ("{}", []), rfl, by decide, (q7 j).same (nw_sm z7)⟩
    · exact ⟨p8, ("hhhhhhhhh", []), rfl, by decide, (q8 j).same (nw_sm z8)⟩
    · exact ⟨p9, ("i", [.int 1]), rfl, by decide, (q9 j).same (nw_sm z9)⟩
    · exact ⟨p10, ("{}", [.int 1, .int 2]), rfl, by decide, (q10 j).same (nw_sm z10)⟩
    · exact ⟨p11, ("{j}", [.int 3]), rfl, by decide, (q11 j).same (nw_sm z11)⟩
  obtain ⟨B, vs, rfl, hB, hlen, hB0, S0, hv⟩ := hm2
  obtain ⟨nBs, nBl⟩ := stm_new hs hB0
  have hs1 : Stm H' s l m := RW.stm_same hs S0
  refine ⟨_, rfl, _, rfl, s, l, B, m, vs, rfl, hs1, by omega, nBs, nBl, hB, by omega, by omega, fun H2 x o2 st2 hx => ?_⟩
  obtain ⟨p, ⟨em, ex⟩, rfl, he, hmp⟩ := hv x hx
  have hmp2 : MP K j (nw H H2) p em ex := hmp.same (nw_old (by obtain ⟨_, _, _, _, _, z1, _⟩ := hs; rw [z1]; exact fun z => nomatch z) (by obtain ⟨_, _, _, _, _, _, z1, _⟩ := hs; rw [z1]; exact fun z => nomatch z) o2)
  obtain ⟨a, hp, hfa⟩ := id hmp2
  have hp2 := rst_same _ _ hp
  have O2 : Old s l H H2 := fun b u z1 z2 z3 => o2 b u z1 z2 (S0 _ _ z3)
  clear hmp hmp2 o2 hv hB hs1 hx
  walk_at "go"
  intro N1 fN1
  have sN1 := same_new fN1 (.lst [V.str "a", V.str "a.b", V.str "root", V.str ""])
  have hN1 : upd H2 N1 (.lst [V.str "a", V.str "a.b", V.str "root", V.str ""]) N1 = some (.lst [V.str "a", V.str "a.b", V.str "root", V.str ""]) := upd_same
  obtain ⟨m1, m2⟩ := stm_new st2 fN1
  refine ⟨s, l, N1, m + 1, _, rfl, RW.stm_same st2 sN1, by omega, m1, m2, hN1, by show 1 ≤ 4; decide, by show 4 ≤ 1000; decide, fun H4 x4 o4 st4 hx4 => ?_⟩
  obtain ⟨nm, rfl, hnm⟩ : ∃ nm : Str, x4 = .str nm ∧ nm ∈ rowNames := by
    simp only [List.mem_cons, List.not_mem_nil, or_false] at hx4
    rcases hx4 with rfl | rfl | rfl | rfl <;> exact ⟨_, rfl, by decide⟩
  walk_at "go"
  intro N2 fN2
  have sN2 := same_new fN2 (.lst [V.int 0, V.int 10, V.int 30, V.int 31, V.int 50, V.int (-4)])
  have hN2 : upd H4 N2 (.lst [V.int 0, V.int 10, V.int 30, V.int 31, V.int 50, V.int (-4)]) N2 = some (.lst [V.int 0, V.int 10, V.int 30, V.int 31, V.int 50, V.int (-4)]) := upd_same
  obtain ⟨m3, m4⟩ := stm_new st4 fN2
  refine ⟨s, l, N2, m + 2, _, rfl, RW.stm_same st4 sN2, by omega, m3, m4, hN2, by show 1 ≤ 6; decide, by show 6 ≤ 1000; decide, fun H6 x6 o6 st6 hx6 => ?_⟩
  obtain ⟨lv, rfl, hlv⟩ : ∃ lv : Int, x6 = .int lv ∧ lv ∈ rowLevels := by
    simp only [List.mem_cons, List.not_mem_nil, or_false] at hx6
    rcases hx6 with rfl | rfl | rfl | rfl | rfl | rfl <;> exact ⟨_, rfl, by decide⟩
  walk_at "go"
  intro p9 fp9
  have hss : H s ≠ none := by obtain ⟨_, _, _, _, _, z1, _⟩ := hs; rw [z1]; exact fun z => nomatch z
  have hll : H l ≠ none := by obtain ⟨_, _, _, _, _, _, z1, _⟩ := hs; rw [z1]; exact fun z => nomatch z
  have u2 : Old s l H2 H4 := fun b u z1 z2 z3 => o4 b u z1 z2 (sN1 _ _ z3)
  have u4 : Old s l H4 H6 := fun b u z1 z2 z3 => o6 b u z1 z2 (sN2 _ _ z3)
  have s9 := same_new fp9 (.tup [V.str nm, V.int lv, V.str em, V.ref a])
  have O6 : Old s l H H6 := fun b u z1 z2 z3 => u4 b u z1 z2 (u2 b u z1 z2 (O2 b u z1 z2 z3))
  have n9 : H p9 = none := Classical.byContradiction fun z => by
    obtain ⟨o, ho⟩ := Option.ne_none_iff_exists'.mp z
    by_cases c1 : p9 = s
    · obtain ⟨_, _, _, _, _, z1, _⟩ := st6
      rw [c1, z1] at fp9; cases fp9
    by_cases c2 : p9 = l
    · obtain ⟨_, _, _, _, _, _, z1, _⟩ := st6
      rw [c2, z1] at fp9; cases fp9
    rw [O6 p9 o c1 c2 ho] at fp9; cases fp9
  exact hQ j _ p9 ⟨nm, lv, em, ex⟩ (fun b u z1 z2 z3 => s9 _ _ (O6 b u z1 z2 z3)) (RW.stm_same st6 s9) ⟨a, nw_at upd_same n9, ((hfa.same (nw_old hss hll u2)).same (nw_old hss hll u4)).same (nw_sm s9)⟩ ⟨hnm, hlv, he⟩
end
end K17

set_option Elab.async false
set_option linter.all false
set_option maxRecDepth 100000
set_option maxHeartbeats 0

namespace K17
open PySem PySem.Spec PyProof.Rows L2 RC
section
variable {P : Program} {w : World} {K : PySem.W.Frag} {mg : Str → Option Value} {base : Heap}
/-! ### a line of the law's; what a handler of a file does with a record -/
structure LAp (s : LS) (ad : Lo → Addr) (G H : Hp) : Prop where
  sm : Same G H
  out : ∀ b o, G b = some o → RR.Out (M1 s ad) ad b
theorem LAp.mv {s s' : LS} {ad ad' : Lo → Addr} {G H H' : Hp} (a : LAp s ad G H) (M : LM s ad H s' ad' H') : LAp s' ad' G H' := ⟨fun b o e => M.keep _ _ (a.out b o e) (a.sm b o e), fun b o e => M.out (a.out b o e) (a.sm b o e)⟩
theorem LAp.same {s : LS} {ad : Lo → Addr} {G H H' : Hp} (a : LAp s ad G H) (e : Same H H') : LAp s ad G H' := ⟨a.sm.trans e, a.out⟩
def LS.line (s : LS) (nm : Str) : Option Str → LS
  | none => s
  | some w => s.fail nm w
def WyOk (wy : Int) : Prop := wy = 0 ∨ wy = 1 ∨ wy = 2 ∨ wy = 3 ∨ wy = 4 ∨ wy = 5
def spLLine (K : PySem.W.Frag) : RTk.SpN := fun n vs H Q => ∃ (s : LS) (ad : Lo → Addr) (i : Nat) (d : Lh) (G : Hp) (p : Addr) (r : Row), vs = [.ref (ad .m), .ref (ad (.h i)), .ref p] ∧ LR s ad H ∧ s.hs[i]? = some d ∧ WyOk d.wy ∧ LAp s ad G H ∧ RowAt K n G p r ∧ r.Ok ∧ s.fr.length ≤ 1000000 ∧
  ∀ ad' H' s', LR s' ad' H' → LM s ad H s' ad' H' → Lx ad ad' → s' = s.line r.nm (lawT d.wy r).2 → Q n (vO (lawT d.wy r).1) H'
theorem ok_lline {f : Addr} (T : Txt P w K mg) (F : Stands K "_law_line" "_law_line" s__law_line [] f) (c__law_text : RTk.CallK P w K mg base 1 (He.ga K "_law_text") ["_law_way", "_law_row_here"] (spLText K)) : RTk.CallK P w K mg base 2 f ["_law_m", "_law_h", "_law_row_here"] (spLLine K) := by
  refine RTk.callK0 F sc__law_line (fun n vs H Q h => ?_) (fun cdv A outer s0 H vs Q n hr h => ?_) (fun _ _ _ _ _ _ us hl => match us, hl with | [_, _, _], _ => rfl)
  · obtain ⟨s, ad, i, d, G, p, r, rfl, _⟩ := h; rfl
  obtain ⟨s, ad, i, ⟨wy, en, kd, gt⟩, G, p, r, rfl, R, hd, hw, hA, hp, hok, hfr, hQ⟩ := h
  refine ⟨_, (RTk.psn_cons (RTk.psn_asg (RTk.pen_fn T.g__law_text c__law_text (hr.mono (by first | decide | exact Nat.le_refl _)) (by rfl) (RTk.PAn.of (pa_cons (pe_dget (hu_of hr) (pv 1) pe_str (fun _ _ => rfl)) (pa_cons (pv 2) pa_nil)))) (RG.pg_tupK (K := K) (n := 2) (by rfl) (pgs_cons (pg_name (i := 3) sc__law_line.nd rfl (by first | exact Or.inl rfl | exact Or.inr rfl)) (pgs_cons (pg_name (i := 4) sc__law_line.nd rfl (by first | exact Or.inl rfl | exact Or.inr rfl)) pgs_nil))))
      (RTk.PSsn.of (pss_cons (ps_if (pt_cmpR op_notN (pv 4) pe_non (nomark _)) (pss_one (ps_expr (pe_bm PySem.F.plainAttrs_list PySem.F.slot_list_append PySem.F.type_list_append mt_append (pe_dget (hu_of hr) (pv 0) pe_str (fun _ _ => rfl)) (pa_cons (pe_tup (pa_cons (pe_ix ix_tup (pv 2) pe_int (fun _ _ => rfl)) (pa_cons (pv 4) pa_nil))) pa_nil)))) pss_nil)
      (pss_one (ps_ret (pv 3)))))), ?_⟩
  dsimp only [RTk.sqN, RTk.lS, RTk.Endn.at, cxK4]
  walk_at "in"
  have hm := R.lm_
  have hh := R.lh_ hd
  have hf := R.lfr_
  dsimp only [RTk.asgN]
  have hp0 := hp.same hA.sm
  walk_at "go"
  refine ⟨hw, hp0, hok, fun H2 q s2 fq hq => ?_⟩
  obtain ⟨a, hpt, _⟩ := hp0
  have R2 := R.same s2
  have hm2 := s2 _ _ hm
  have hf2 := s2 _ _ hf
  have hp2 := s2 _ _ hpt
  clear hm hh hf hpt fq
  dsimp only at hQ
  revert hq hQ
  generalize lawT wy r = lt
  obtain ⟨o, ow⟩ := lt
  intro hQ hq
  dsimp only at hQ hq
  cases ow with
  | none =>
    walk_at "go"
    exact hQ ad H2 s R2 (RR.Mv.same s2) (Lx.refl _) rfl
  | some wd =>
    have hq : H2 q = some (.tup [vO o, .str wd]) := hq
    walk_at "go"
    intro p9 fp9
    obtain ⟨R3, M3⟩ := R2.lfail r.nm wd fp9
    have hf3 := same_new fp9 (.tup [.str r.nm, .str wd]) _ _ hf2
    have hz : (frLL s.fr.length ad).length < sizeLine := by unfold frLL; rw [List.length_map, List.length_range, sizeLine_eq]; omega
    walk_at "go"
    exact hQ _ _ _ R3 (M3.sameL s2) (lx_laT ad _ p9) rfl
theorem lawT_len {wy : Int} {r : Row} (h : r.Ok) (z : Str) (e : (lawT wy r).1 = some z) : z.length ≤ 30010 := by
  obtain ⟨l1, l2, l3, l4, hx⟩ := row_len h
  unfold lawT at e
  split at e
  · cases e
    have h1 := RN.len_toString r.lv
    have h2 : r.lv.natAbs.log2 < 6 := by
      by_cases c : r.lv.natAbs = 0
      · rw [c]; decide
      · exact (Nat.log2_lt c).mpr (by omega)
    rw [len_app, len_app]
    show r.nm.length + 1 + _ ≤ _
    omega
  · split at e
    · split at e
      · cases e
      · cases e; decide
    · split at e
      · cases e
      · cases e
        have hl := RTk.runR_len "{}" 0 1 10000 r.xs [] r.ms fun x h => (hx x h).2
        rw [runR_snd] at hl
        have h3 : r.xs.length * 10000 ≤ 2 * 10000 := Nat.mul_le_mul_right _ l3
        rw [len_app]
        by_cases c : wy = 3
        · rw [if_pos c]; show _ + 1 ≤ _; omega
        · rw [if_neg c]; show _ + 0 ≤ _; omega
theorem line_hs (s : LS) (nm : Str) (ow : Option Str) : (s.line nm ow).hs = s.hs ∧ (s.line nm ow).st = s.st := by cases ow <;> exact ⟨rfl, rfl⟩
theorem seqn_of {a b : RTk.TSn} {k : Nat} {D : RTk.Endn} {σ : L2.St} {H : Hp} (Mid : Nat → L2.St → Hp → Prop) (hA : ∀ b' : RTk.TSn, (∀ j σ' H', Mid j σ' H' → b' j D σ' H') → RTk.sqN a b' k D σ H) (hB : ∀ j σ' H', Mid j σ' H' → b j D σ' H') : RTk.sqN a b k D σ H := hA b hB
/-- the law's streams behind a record -/
def LS.em (s : LS) (z en nm : Str) (t : Option Str × Option Str) : LS := match t with
  | (some x, none) => s.wr z (txt s.st z ++ x ++ en)
  | (some x, some w) => (s.fail nm w).wr z (txt s.st z ++ x ++ en)
  | (none, ow) => s.line nm ow
structure LSz (s : LS) (d : Lh) : Prop where
  st : s.st.length ≤ 900
  fr : s.fr.length ≤ 100000
  en : d.en.length ≤ 1000
  tx : ∀ z, (txt s.st z).length ≤ 8000000
def spLToStream (K : PySem.W.Frag) : RTk.SpN := fun n vs H Q => ∃ (s : LS) (ad : Lo → Addr) (i : Nat) (wy : Int) (en z : Str) (gt : Option Addr) (G : Hp) (p : Addr) (r : Row), vs = [.ref (ad .m), .ref (ad (.h i)), .ref p] ∧ LR s ad H ∧ s.hs[i]? = some ⟨wy, en, some z, gt⟩ ∧ WyOk wy ∧ LAp s ad G H ∧ RowAt K n G p r ∧ r.Ok ∧ LSz s ⟨wy, en, some z, gt⟩ ∧
  ∀ k ad' H' s', LR s' ad' H' → LM s ad H s' ad' H' → Lx ad ad' → s' = s.em z en r.nm (lawT wy r) → Q k .non H'
theorem ok_ltostream {f : Addr} (T : Txt P w K mg) (F : Stands K "_law_to_stream" "_law_to_stream" s__law_to_stream [] f) (c__law_line : RTk.CallK P w K mg base 2 (He.ga K "_law_line") ["_law_m", "_law_h", "_law_row_here"] (spLLine K)) : RTk.CallK P w K mg base 3 f ["_law_m", "_law_h", "_law_row_here"] (spLToStream K) := by
  refine RTk.callK0 F sc__law_to_stream (fun n vs H Q h => ?_) (fun cdv A outer s0 H vs Q n hr h => ?_) (fun _ _ _ _ _ _ us hl => match us, hl with | [_, _, _], _ => rfl)
  · obtain ⟨s, ad, i, wy, en, z, gt, G, p, r, rfl, _⟩ := h; rfl
  obtain ⟨s, ad, i, wy, en, z, gt, G, p, r, rfl, R, hd, hw, hA, hp, hok, ⟨hz1, hz2, hz3, hz4⟩, hQ⟩ := h
  refine ⟨_, (RTk.psn_cons (RTk.psn_set (i := 3) sc__law_to_stream.nd rfl (by first | exact Or.inl rfl | exact Or.inr rfl) (RTk.pen_fn T.g__law_line c__law_line (hr.mono (by first | decide | exact Nat.le_refl _)) (by rfl) (RTk.PAn.of (pa_cons (pv 0) (pa_cons (pv 1) (pa_cons (pv 2) pa_nil))))))
      (RTk.PSsn.of (pss_one (ps_if (pt_cmpR op_notN (pv 3) pe_non (nomark _)) (pss_one (ps_dput (hu_of hr) (pe_dget (hu_of hr) (pv 0) pe_str (fun _ _ => rfl)) (pe_dget (hu_of hr) (pv 1) pe_str (fun _ _ => rfl)) (pe_op op_add_str (pe_op op_add_str (pe_dget2 (hu_of hr) (pe_dget (hu_of hr) (pv 0) pe_str (fun _ _ => rfl)) (pe_dget (hu_of hr) (pv 1) pe_str (fun _ _ => rfl)) pe_str ⟨rfl, rfl, rfl, rfl⟩) (pv 3)) (pe_dget (hu_of hr) (pv 1) pe_str (fun _ _ => rfl))) rfl)) pss_nil)))), ?_⟩
  try dsimp only [cxK4]
  walk_at "in"
  dsimp only [RTk.sqN, RTk.lS, RTk.Endn.at, RTk.asgN]
  refine ⟨_, rfl, _, rfl, _, rfl, s, ad, i, _, G, p, r, rfl, R, hd, hw, hA, hp, hok, by omega, fun ad2 H2 s2 R2 M2 X2 e => ?_⟩
  have hlen := lawT_len (wy := wy) hok
  have e := e
  dsimp only at e
  revert e hlen
  generalize lawT wy r = lt at hQ
  obtain ⟨o, ow⟩ := lt
  intro hlen e
  obtain ⟨g1, g2⟩ := line_hs s r.nm ow
  have e2m : ad2 .m = ad .m := X2 _ (fun _ h => nomatch h) (fun _ h => nomatch h)
  have e2h : ad2 (.h i) = ad (.h i) := X2 _ (fun _ h => nomatch h) (fun _ h => nomatch h)
  have hd2 : s2.hs[i]? = some ⟨wy, en, some z, gt⟩ := by rw [e, g1]; exact hd
  have hfs : s2.st = s.st := by rw [e, g2]
  have hm2 := R2.lm_
  have hh2 := R2.lh_ hd2
  have hf2 := R2.lst_
  rw [e2m] at hm2
  rw [e2h] at hh2
  dsimp only at e hlen ⊢
  cases o with
  | none =>
    walk_at "go"
    exact hQ n ad2 H2 s2 R2 M2 X2 (by rw [e]; cases ow <;> rfl)
  | some x =>
    have hzl := hlen x rfl
    have hsz : (strK s2.st).length < sizeLine := by unfold strK; rw [List.length_map, sizeLine_eq, hfs]; omega
    have hen : en.length ≤ 1000 := hz3
    have hz4 := hz4 z
    obtain ⟨R3, M3⟩ := R2.lwr z (txt s2.st z ++ x ++ en)
    have fin := hQ n _ _ _ R3 (M2.trans M3) X2 (by rw [hfs, e]; cases ow <;> rfl)
    cases hx : s2.st.lookup z with
    | none =>
      have hv : valV (strK s2.st) (Sum.inr z) = none := by rw [valV_strK, hx]; rfl
      have et : txt s2.st z = "" := by unfold txt; rw [hx]; rfl
      rw [et] at fin
      have k1 : ("" : Str).length + x.length ≤ sizeLine := by rw [sizeLine_eq]; show 0 + _ ≤ _; omega
      have k2 : (("" : Str) ++ x).length + en.length ≤ sizeLine := by rw [len_app, sizeLine_eq]; show 0 + _ + _ ≤ _; omega
      walk_at "go"
      exact fin
    | some u =>
      have hv : valV (strK s2.st) (Sum.inr z) = some (.str u) := by rw [valV_strK, hx]; rfl
      have et : txt s2.st z = u := by unfold txt; rw [hx]; rfl
      rw [et] at fin
      rw [← hfs, et] at hz4
      have k1 : u.length + x.length ≤ sizeLine := by rw [sizeLine_eq]; omega
      have k2 : (u ++ x).length + en.length ≤ sizeLine := by rw [len_app, sizeLine_eq]; omega
      walk_at "go"
      exact fin
/-- a record comes to a handler that emits nothing -/
def spLToNone (K : PySem.W.Frag) : RTk.SpN := fun n vs H Q => ∃ (s : LS) (ad : Lo → Addr) (i : Nat) (wy : Int) (en : Str) (gt : Option Addr) (m : V) (p : Addr), vs = [m, .ref (ad (.h i)), .ref p] ∧ LR s ad H ∧ s.hs[i]? = some ⟨wy, en, none, gt⟩ ∧
  ∀ k H' s', LR s' ad H' → LM s ad H s' ad H' → s' = s.setD i ⟨wy, en, none, some p⟩ → Q k .non H'
theorem ok_ltonone {f : Addr} (T : Txt P w K mg) (F : Stands K "_law_to_none" "_law_to_none" s__law_to_none [] f) : RTk.CallK P w K mg base 1 f ["_law_m", "_law_h", "_law_row_here"] (spLToNone K) := by
  refine RTk.callK0 F sc__law_to_none (fun n vs H Q h => ?_) (fun cdv A outer s0 H vs Q n hr h => ?_) (fun _ _ _ _ _ _ us hl => match us, hl with | [_, _, _], _ => rfl)
  · obtain ⟨s, ad, i, wy, en, gt, m, p, rfl, _⟩ := h; rfl
  obtain ⟨s, ad, i, wy, en, gt, m, p, rfl, R, hd, hQ⟩ := h
  refine ⟨_, (RTk.PSsn.of (pss_one (ps_dput (hu_of hr) (pv 1) pe_str (pv 2) rfl))), ?_⟩
  dsimp only [RTk.sqN, RTk.lS, RTk.Endn.at]
  walk_at "in"
  have hh := R.lh_ hd
  obtain ⟨R2, M2⟩ := R.lsetD hd ⟨wy, en, none, some p⟩
  have fin := hQ n _ _ R2 M2 rfl
  cases gt with
  | none =>
    walk_at "go"
    exact fin
  | some q =>
    walk_at "go"
    exact fin
end
end K17

set_option Elab.async false
set_option linter.all false
set_option maxRecDepth 100000
set_option maxHeartbeats 0
namespace K17
open PySem PySem.Spec PyProof.Rows L2 RC
section
variable {P : Program} {w : World} {K : PySem.W.Frag} {mg : Str → Option Value} {base : Heap}
theorem app_nil8 (x : Str) : x ++ ("" : Str) = x := TL.ext_tl (by
  have e : TL.tl (x ++ ("" : Str)) = TL.tl x ++ TL.tl ("" : Str) := TL.tl_append _ _
  rw [e]; exact List.append_nil _)
/-! ### what a formatter makes of a row is the law's text -/
def rcOf (now : Int) (ln : Str) (r : Row) : Rc := ⟨r.nm, r.lv, ln, r.ms, now, r.xs⟩
def foW (wy : Int) : Option (List (Str ⊕ Str)) := if wy = 0 then none else if wy = 1 then some [.inr "message"] else if wy = 2 then some [.inr "name", .inl ":", .inr "levelno"] else if wy = 3 then some [.inr "message", .inl "!"] else if wy = 4 then some [.inr "nope"] else some []
def TxR : TxO → Option Str × Option Str → Prop
  | .tx t, p => p = (some (tx t), none)
  | .msg, p => p = (none, some ("message" : Str))
  | .fld _, p => p = (none, some ("field" : Str))
def badM (ms : Str) (xs : List V) : Bool := !xs.isEmpty && !decide ((Txt.count ms "{}" : Int) = xs.length)
def msgB (o : Option SS) (ms : Str) (xs : List V) : Prop := match o with
  | some t => tx t = repsM xs ms ∧ badM ms xs = false
  | none => badM ms xs = true
theorem msg_of {now : Int} {ln : Str} {r : Row} (h : r.Ok) : ∃ o, MsgO (rcOf now ln r) o ∧ msgB o r.ms r.xs := by
  obtain ⟨nm, lv, ms, xs⟩ := r
  obtain ⟨_, _, h3⟩ := h
  have al : ∀ z : Str, ∃ o, MsgO (rcOf now ln ⟨nm, lv, z, []⟩) o ∧ msgB o z [] := fun z => ⟨_, .inl ⟨rfl, rfl⟩, tx_toList z, rfl⟩
  simp only [rowMenu, List.mem_cons, List.not_mem_nil, or_false, Prod.mk.injEq] at h3
  rcases h3 with ⟨rfl, rfl⟩ | ⟨rfl, rfl⟩ | ⟨rfl, rfl⟩ | ⟨rfl, rfl⟩ | ⟨rfl, rfl⟩ | ⟨rfl, rfl⟩ | ⟨rfl, rfl⟩ | ⟨rfl, rfl⟩ | ⟨rfl, rfl⟩ | ⟨rfl, rfl⟩ | ⟨rfl, rfl⟩
  · exact al _
  · exact al _
  · exact al _
  · exact al _
  · refine ⟨some ("x 7 y" : Str).cps.toList, .inr ⟨(fun z => nomatch z), ?_⟩, (by decide +kernel : tx ("x 7 y" : Str).cps.toList = repsM [.int 7] "x {} y"), (by decide +kernel : badM "x {} y" [.int 7] = false)⟩
    have e1 : ("x {} y" : Str).cps.toList = 120 :: 32 :: 123 :: 125 :: 32 :: 121 :: [] := by decide +kernel
    have e2 : ("x 7 y" : Str).cps.toList = 120 :: 32 :: (argS (.int 7) ++ (32 :: 121 :: [])) := by decide +kernel
    show PM ("x {} y" : Str).cps.toList [argS (.int 7)] _
    rw [e1, e2]
    exact PM.ch (o := some _) (by decide) (by decide) (PM.ch (o := some _) (by decide) (by decide) (PM.arg (o := some _) (PM.ch (o := some _) (by decide) (by decide) (PM.ch (o := some _) (by decide) (by decide) PM.nil))))
  · refine ⟨some ("g-2" : Str).cps.toList, .inr ⟨(fun z => nomatch z), ?_⟩, (by decide +kernel : tx ("g-2" : Str).cps.toList = repsM [.str "g", .int (-2)] "{}{}"), (by decide +kernel : badM "{}{}" [.str "g", .int (-2)] = false)⟩
    have e1 : ("{}{}" : Str).cps.toList = 123 :: 125 :: 123 :: 125 :: [] := by decide +kernel
    have e2 : ("g-2" : Str).cps.toList = argS (.str "g") ++ (argS (.int (-2)) ++ []) := by decide +kernel
    show PM ("{}{}" : Str).cps.toList [argS (.str "g"), argS (.int (-2))] _
    rw [e1, e2]
    exact PM.arg (o := some _) (PM.arg (o := some _) PM.nil)
  · exact al _
  · exact al _
  · refine ⟨none, .inr ⟨(fun z => nomatch z), ?_⟩, (by decide +kernel : badM "i" [.int 1] = true)⟩
    show PM ("i" : Str).cps.toList [argS (.int 1)] none
    rw [show ("i" : Str).cps.toList = [105] from by decide +kernel]
    exact PM.ch (o := none) (by decide) (by decide) PM.left
  · refine ⟨none, .inr ⟨(fun z => nomatch z), ?_⟩, (by decide +kernel : badM "{}" [.int 1, .int 2] = true)⟩
    show PM ("{}" : Str).cps.toList [argS (.int 1), argS (.int 2)] none
    rw [show ("{}" : Str).cps.toList = 123 :: 125 :: [] from by decide +kernel]
    exact PM.arg (o := none) PM.left
  · refine ⟨none, .inr ⟨(fun z => nomatch z), ?_⟩, (by decide +kernel : badM "{j}" [.int 3] = true)⟩
    show PM ("{j}" : Str).cps.toList [argS (.int 3)] none
    rw [show ("{j}" : Str).cps.toList = 123 :: 106 :: 125 :: [] from by decide +kernel]
    exact PM.bad (.inl rfl) (by decide) (.inr (.inl (by decide)))
theorem law_tx {now : Int} {ln : Str} {r : Row} {wy : Int} (h : r.Ok) (hw : WyOk wy) : ∃ o, HfO (rcOf now ln r) (foW wy) o ∧ TxR o (lawT wy r) := by
  obtain ⟨o, ho, hb⟩ := msg_of (ln := ln) h
  have m1 : ∀ wy : Int, (wy = 0 ∨ wy = 1 ∨ wy = 3) → badM r.ms r.xs = true → lawT wy r = (none, some ("message" : Str)) := fun wy hy hb => by
    unfold lawT
    rw [if_neg (by rcases hy with rfl | rfl | rfl <;> decide), if_neg (by rcases hy with rfl | rfl | rfl <;> decide), if_pos (show (!r.xs.isEmpty && !decide ((Txt.count r.ms "{}" : Int) = r.xs.length)) = true from hb)]
  have m2 : ∀ wy : Int, (wy = 0 ∨ wy = 1 ∨ wy = 3) → badM r.ms r.xs = false → lawT wy r = (some (repsM r.xs r.ms ++ Str.ofString (if wy = 3 then "!" else "")), none) := fun wy hy hb => by
    unfold lawT
    rw [if_neg (by rcases hy with rfl | rfl | rfl <;> decide), if_neg (by rcases hy with rfl | rfl | rfl <;> decide), if_neg (by show ¬ badM r.ms r.xs = true; rw [hb]; decide)]
  rcases hw with rfl | rfl | rfl | rfl | rfl | rfl
  · cases o with
    | some t => exact ⟨_, .msgT ho, by rw [m2 0 (.inl rfl) hb.2, ← hb.1]; exact congrArg (fun z => (some z, none)) (show tx t ++ ("" : Str) = tx t from app_nil8 _)⟩
    | none => exact ⟨_, .msgE ho, m1 0 (.inl rfl) hb⟩
  · cases o with
    | some t => exact ⟨_, .fm (FmO.val (.msgT rfl ho) FmO.nil), by rw [m2 1 (.inr (.inl rfl)) hb.2, ← hb.1]; show _ = (some (tx (t ++ [])), none); rw [List.append_nil]; exact congrArg (fun z => (some z, none)) (show tx t ++ ("" : Str) = tx t from app_nil8 _)⟩
    | none => exact ⟨_, .fm (FmO.msg (.msgE rfl ho)), m1 1 (.inr (.inl rfl)) hb⟩
  · have h1 : FldO (rcOf now ln r) "name" (.tx (argS (.str r.nm))) := FldO.val (by decide +kernel) rfl (by decide +kernel)
    have h2 : FldO (rcOf now ln r) "levelno" (.tx (argS (.int r.lv))) := FldO.val (by decide +kernel) rfl (by decide +kernel)
    refine ⟨_, .fm (FmO.val h1 (FmO.txt (FmO.val h2 FmO.nil))), ?_⟩
    show lawT 2 r = (some (tx (r.nm.cps.toList ++ ((":" : Str).cps.toList ++ ((Str.ofString (toString r.lv)).cps.toList ++ [])))), none)
    have e1 : lawT 2 r = (some (r.nm ++ ":" ++ Str.ofString (toString r.lv)), none) := rfl
    rw [e1, List.append_nil, ← List.append_assoc]
    have e2 : (r.nm ++ (":" : Str) ++ Str.ofString (toString r.lv)).cps.toList = r.nm.cps.toList ++ (":" : Str).cps.toList ++ (Str.ofString (toString r.lv)).cps.toList := by
      have a1 : (r.nm ++ (":" : Str) ++ Str.ofString (toString r.lv)).cps.toList = (r.nm ++ (":" : Str)).cps.toList ++ (Str.ofString (toString r.lv)).cps.toList := TL.tl_append _ _
      have a2 : (r.nm ++ (":" : Str)).cps.toList = r.nm.cps.toList ++ (":" : Str).cps.toList := TL.tl_append _ _
      rw [a1, a2]
    rw [← e2, tx_toList]
  · cases o with
    | some t =>
      refine ⟨_, .fm (FmO.val (.msgT rfl ho) (FmO.txt FmO.nil)), ?_⟩
      rw [m2 3 (.inr (.inr rfl)) hb.2, ← hb.1]
      show _ = (some (tx (t ++ (("!" : Str).cps.toList ++ []))), none)
      rw [List.append_nil]
      have a1 : (tx t ++ ("!" : Str)).cps.toList = (tx t).cps.toList ++ ("!" : Str).cps.toList := TL.tl_append _ _
      have a2 : (tx t).cps.toList = t := rfl
      rw [a2] at a1
      rw [← a1, tx_toList]
      rfl
    | none => exact ⟨_, .fm (FmO.msg (.msgE rfl ho)), m1 3 (.inr (.inr rfl)) hb⟩
  · exact ⟨_, .fm (FmO.fld (.bad (by decide +kernel) (by decide +kernel))), rfl⟩
  · exact ⟨_, .fm FmO.nil, rfl⟩
end
end K17

set_option Elab.async false
set_option linter.all false
set_option maxRecDepth 100000
set_option maxHeartbeats 0

namespace K17
open PySem PySem.Spec PyProof.Rows L2 RC
section
variable {P : Program} {w : World} {K : PySem.W.Frag} {mg : Str → Option Value} {base : Heap}
/-! ### the law's formatters -/
theorem plM : PlB ("{message}" : Str).cps.toList [.inr ("message" : Str).cps.toList] := by
  rw [show ("{message}" : Str).cps.toList = 123 :: (("message" : Str).cps.toList ++ 125 :: []) from by decide +kernel]
  exact .fld (by decide +kernel) (by decide +kernel) (by decide +kernel) (by decide +kernel) .nil
theorem plNL : PlB ("{name}:{levelno}" : Str).cps.toList [.inr ("name" : Str).cps.toList, .inl 58, .inr ("levelno" : Str).cps.toList] := by
  rw [show ("{name}:{levelno}" : Str).cps.toList = 123 :: (("name" : Str).cps.toList ++ 125 :: (58 :: 123 :: (("levelno" : Str).cps.toList ++ 125 :: []))) from by decide +kernel]
  exact .fld (by decide +kernel) (by decide +kernel) (by decide +kernel) (by decide +kernel) (.ch (by decide) (by decide) (.fld (by decide +kernel) (by decide +kernel) (by decide +kernel) (by decide +kernel) .nil))
theorem pdM : RP.PD ("$message!" : Str).cps.toList (some [.inr ("message" : Str).cps.toList, .inl 33]) := by
  rw [show ("$message!" : Str).cps.toList = 36 :: ((("message" : Str).cps.toList) ++ [33]) from by decide +kernel]
  refine RP.PD.fld (n := ("message" : Str).cps.toList) (k := 7) (o := some [.inl 33]) (by decide +kernel) (by decide +kernel) ?_
  rw [show (("message" : Str).cps.toList ++ ([33] : List Nat)).drop 7 = ([33] : List Nat) from by decide +kernel]
  exact RP.PD.ch (o := some []) (by decide) .nil
theorem plN : PlB ("{nope}" : Str).cps.toList [.inr ("nope" : Str).cps.toList] := by
  rw [show ("{nope}" : Str).cps.toList = 123 :: (("nope" : Str).cps.toList ++ 125 :: []) from by decide +kernel]
  exact .fld (by decide +kernel) (by decide +kernel) (by decide +kernel) (by decide +kernel) .nil
theorem ok0 (qs : List (Str ⊕ Str)) (h : qs = [.inr "message"] ∨ qs = [.inr "name", .inl ":", .inr "levelno"] ∨ qs = [.inr "message", .inl "!"] ∨ qs = [.inr "nope"] ∨ qs = []) : PsOk qs := by
  rcases h with rfl | rfl | rfl | rfl | rfl
  all_goals refine ⟨by decide, fun z hz => ?_, fun n hn => ?_⟩
  all_goals simp only [List.mem_cons, List.not_mem_nil, or_false, false_or, reduceCtorEq, Sum.inl.injEq, Sum.inr.injEq] at *
  all_goals first | (subst hz; decide) | (subst hn; decide) | (rcases hn with rfl | rfl <;> decide)
theorem fm_new {H0 H H2 : Hp} {p dx : Addr} {ps : List PtT} {qs : List (Str ⊕ Str)} (s : Same H0 H) (hp : H p = none) (hd : H dx = none) (k : ∀ b u, b ≠ p → upd (upd H dx (.own p)) p (.ins (CFm K) dx []) b = some u → H2 b = some u)
    (hF : FmAt K (rst (fun b => upd (upd H dx (.own p)) p (.ins (CFm K) dx []) b ≠ none ∧ b ≠ p) H2) p (joinP ps)) (e : joinP ps = qs) (ok : PsOk qs) : Same H H2 ∧ FormV K (nw H0 H2) (some qs) (.ref p) := by
  refine ⟨made_same hp hd k, p, rfl, ?_, ok⟩
  rw [← e]
  refine hF.same fun b o e => ?_
  have e2 : H2 b = some o := rst_same _ _ e
  by_cases c : H0 b = none
  · exact nw_at e2 c
  · exfalso
    obtain ⟨u, hu⟩ := Option.ne_none_iff_exists'.mp c
    have c2 := s _ _ hu
    have n1 : b ≠ p := fun z => by rw [z, hp] at c2; cases c2
    have n2 : b ≠ dx := fun z => by rw [z, hd] at c2; cases c2
    rw [rst_none ⟨by rw [upd_ne n1, upd_ne n2, c2]; exact fun z => (nomatch z), n1⟩] at e
    cases e
def spLFmts (K : PySem.W.Frag) : Sp := fun vs H Q _ => vs = [] ∧ ∀ (H' : Hp) (p : Addr) (ws : List V), Same H H' → H p = none → H' p = some (.lst ws) → ws.length = 6 → (∀ i : Nat, i < 6 → ∃ v, ws[i]? = some v ∧ FormV K (nw H H') (foW i) v) → Q (.ref p) H'
theorem ok_lfmts {f : Addr} (T : Txt P w K mg) (F : Stands K "_law_formatters" "_law_formatters" s__law_formatters [] f)
    (c_Formatter_init_d3 : Callable P w K mg base 5 (He.ma K (He.ga K "Formatter") "__init__") ["self", "fmt", "style", "validate", "defaults"] [.str "{", .bl true, .non] (spFmInit K))
    (c_Formatter_init_d2 : Callable P w K mg base 5 (He.ma K (He.ga K "Formatter") "__init__") ["self", "fmt", "style", "validate", "defaults"] [.bl true, .non] (spFmInit K))
    (c_Formatter_init_d1 : Callable P w K mg base 5 (He.ma K (He.ga K "Formatter") "__init__") ["self", "fmt", "style", "validate", "defaults"] [.non] (spFmInit K)) : Callable P w K mg base 7 f [] [] (spLFmts K) := by
  refine F.call0 sc__law_formatters (fun vs H Q E h => ?_) (fun cdv A outer s H vs Q E hr h => ?_) (fun _ _ _ _ _ _ us hl => match us, hl with | [], _ => rfl)
  · obtain ⟨rfl, _⟩ := h; rfl
  obtain ⟨rfl, hQ⟩ := h
  refine ⟨_, (pss_cons (ps_set (i := 0) sc__law_formatters.nd rfl (by first | exact Or.inl rfl | exact Or.inr rfl) (pe_lst (pa_cons pe_non (pa_cons (pe_mk T.k_Formatter T.g_Formatter c_Formatter_init_d3 (hr.mono (by first | decide | exact Nat.le_refl _)) (by rfl) (pa_cons pe_str pa_nil)) (pa_cons (pe_mk T.k_Formatter T.g_Formatter c_Formatter_init_d3 (hr.mono (by first | decide | exact Nat.le_refl _)) (by rfl) (pa_cons pe_str pa_nil)) (pa_cons (pe_mk T.k_Formatter T.g_Formatter c_Formatter_init_d2 (hr.mono (by first | decide | exact Nat.le_refl _)) (by rfl) (pa_cons pe_str (pa_cons pe_str pa_nil))) pa_nil))))))
      (pss_one (ps_ret (pe_op op_cat (pv 0) (pe_lst (pa_cons (pe_mk T.k_Formatter T.g_Formatter c_Formatter_init_d3 (hr.mono (by first | decide | exact Nat.le_refl _)) (by rfl) (pa_cons pe_str pa_nil)) (pa_cons (pe_mk T.k_Formatter T.g_Formatter c_Formatter_init_d1 (hr.mono (by first | decide | exact Nat.le_refl _)) (by rfl) (pa_cons pe_str (pa_cons pe_str (pa_cons pe_bl pa_nil)))) pa_nil))))))), ?_⟩
  walk_at "in"
  walk_at "go"
  intro p1 x1 hp1 hd1 _
  refine ⟨p1, x1, false, true, "{message}", _, rfl, upd_same, by decide, plM, (fun _ => rfl), fun H1 k1 hF1 => ⟨rfl, ?_⟩⟩
  obtain ⟨s1, v1⟩ := fm_new (H0 := H) (fun _ _ e => e) hp1 hd1 k1 hF1 (show _ = [.inr "message"] from by decide +kernel) (ok0 _ (.inl rfl))
  clear hp1 hd1 k1 hF1
  walk_at "go"
  intro p2 x2 hp2 hd2 _
  refine ⟨p2, x2, false, true, "{name}:{levelno}", _, rfl, upd_same, by decide, plNL, (fun _ => rfl), fun H2 k2 hF2 => ⟨rfl, ?_⟩⟩
  obtain ⟨s2, v2⟩ := fm_new (H0 := H) s1 hp2 hd2 k2 hF2 (show _ = [.inr "name", .inl ":", .inr "levelno"] from by decide +kernel) (ok0 _ (.inr (.inl rfl)))
  clear hp2 hd2 k2 hF2
  walk_at "go"
  intro p3 x3 hp3 hd3 _
  refine ⟨p3, x3, true, true, "$message!", _, rfl, upd_same, by decide, pdM, (fun _ => rfl), fun H3 k3 hF3 => ⟨rfl, ?_⟩⟩
  obtain ⟨s3, v3⟩ := fm_new (H0 := H) (s1.trans s2) hp3 hd3 k3 hF3 (show _ = [.inr "message", .inl "!"] from by decide +kernel) (ok0 _ (.inr (.inr (.inl rfl))))
  clear hp3 hd3 k3 hF3
  walk_at "go"
  intro q1 fq1
  have t1 := same_new fq1 (.lst [V.non, V.ref p1, V.ref p2, V.ref p3])
  have hq1 : upd H3 q1 (.lst [V.non, V.ref p1, V.ref p2, V.ref p3]) q1 = some (.lst [V.non, V.ref p1, V.ref p2, V.ref p3]) := upd_same
  generalize upd H3 q1 (.lst [V.non, V.ref p1, V.ref p2, V.ref p3]) = H4 at t1 hq1 ⊢
  have u4 := (s1.trans s2).trans (s3.trans t1)
  walk_at "go"
  intro p4 x4 hp4 hd4 _
  refine ⟨p4, x4, false, true, "{nope}", _, rfl, upd_same, by decide, plN, (fun _ => rfl), fun H5 k4 hF4 => ⟨rfl, ?_⟩⟩
  obtain ⟨s4, v4⟩ := fm_new (H0 := H) u4 hp4 hd4 k4 hF4 (show _ = [.inr "nope"] from by decide +kernel) (ok0 _ (.inr (.inr (.inr (.inl rfl)))))
  clear hp4 hd4 k4 hF4
  walk_at "go"
  intro p5 x5 hp5 hd5 _
  refine ⟨p5, x5, false, false, "", _, rfl, upd_same, by decide, (by rw [show ("" : Str).cps.toList = [] from by decide +kernel]; exact PlB.nil : PlB ("" : Str).cps.toList []), (fun z => nomatch z), fun H6 k5 hF5 => ⟨rfl, ?_⟩⟩
  obtain ⟨s5, v5⟩ := fm_new (H0 := H) (u4.trans s4) hp5 hd5 k5 hF5 (show _ = [] from by decide +kernel) (ok0 _ (.inr (.inr (.inr (.inr rfl)))))
  clear hp5 hd5 k5 hF5
  walk_at "go"
  intro q2 fq2
  have t2 := same_new fq2 (.lst [V.ref p4, V.ref p5])
  have hq2 : upd H6 q2 (.lst [V.ref p4, V.ref p5]) q2 = some (.lst [V.ref p4, V.ref p5]) := upd_same
  generalize upd H6 q2 (.lst [V.ref p4, V.ref p5]) = H7 at t2 hq2 ⊢
  have hq1' := t2 _ _ (s5 _ _ (s4 _ _ hq1))
  have u7 := (u4.trans s4).trans (s5.trans t2)
  walk_at "go"
  intro q3 fq3
  have t3 := same_new fq3 (.lst ([V.non, V.ref p1, V.ref p2, V.ref p3] ++ [V.ref p4, V.ref p5]))
  have e5 := t3
  have e4 := t2.trans t3
  have e3 := s5.trans e4
  have e2 := s4.trans e3
  have e1 := t1.trans e2
  have f3 := s3.trans e1
  have f2 := s2.trans f3
  refine hQ _ q3 _ (u7.trans t3) (u7.free fq3) upd_same rfl fun i hi => ?_
  match i, hi with
  | 0, _ => exact ⟨_, rfl, rfl⟩
  | 1, _ => exact ⟨_, rfl, v1.same (nw_sm f2)⟩
  | 2, _ => exact ⟨_, rfl, v2.same (nw_sm f3)⟩
  | 3, _ => exact ⟨_, rfl, v3.same (nw_sm e1)⟩
  | 4, _ => exact ⟨_, rfl, v4.same (nw_sm e3)⟩
  | 5, _ => exact ⟨_, rfl, v5.same (nw_sm e4)⟩
end
end K17

set_option Elab.async false
set_option linter.all false
set_option maxRecDepth 100000
set_option maxHeartbeats 0

namespace K17
open PySem PySem.Spec PyProof.Rows L2 RC
section
variable {P : Program} {w : World} {K : PySem.W.Frag} {mg : Str → Option Value} {base : Heap}
/-! ### the record of a row; files from outside -/
theorem valV_mem {kvs : List (Key × V)} {k : Key} {v : V} (h : valV kvs k = some v) : ∃ e ∈ kvs, e.2 = v := by
  unfold valV at h
  obtain ⟨e, he, z⟩ := Option.map_eq_some_iff.mp h
  exact ⟨e, List.mem_of_find?_eq_some he, z⟩
theorem nms0_ok (K : PySem.W.Frag) : NmsOk (nms0 K) := fun k v h => by
  obtain ⟨e, he, rfl⟩ := valV_mem h
  obtain ⟨q, hq, rfl⟩ := List.mem_map.mp he
  simp only [kv_FIRST_NAMES, List.mem_cons, List.not_mem_nil, or_false] at hq
  rcases hq with rfl | rfl | rfl | rfl | rfl | rfl <;> exact ⟨_, rfl⟩
theorem lvl_len (K : PySem.W.Frag) {lv : Int} (h : lv ∈ rowLevels) : (lvName (nms0 K) lv).length ≤ 20 := by
  simp only [rowLevels, List.mem_cons, List.not_mem_nil, or_false] at h
  rcases h with rfl | rfl | rfl | rfl | rfl | rfl
  · rw [show lvName (nms0 K) 0 = "NOTSET" from rfl]; decide
  · rw [show lvName (nms0 K) 10 = "DEBUG" from rfl]; decide
  · rw [show lvName (nms0 K) 30 = "WARNING" from rfl]; decide
  · rw [show lvName (nms0 K) 31 = ("Level " : Str) ++ (toString (31 : Int) : Str) from rfl]; decide +kernel
  · rw [show lvName (nms0 K) 50 = "CRITICAL" from rfl]; decide
  · rw [show lvName (nms0 K) (-4) = ("Level " : Str) ++ (toString (-4 : Int) : Str) from rfl]; decide +kernel
theorem row_arg {r : Row} (h : r.Ok) : (∀ x ∈ r.xs, PlainV x) ∧ ∀ x ∈ r.xs, PArg x := by
  obtain ⟨nm, lv, ms, xs⟩ := r
  obtain ⟨_, _, h3⟩ := h
  simp only [rowMenu, List.mem_cons, List.not_mem_nil, or_false, Prod.mk.injEq] at h3
  rcases h3 with ⟨rfl, rfl⟩ | ⟨rfl, rfl⟩ | ⟨rfl, rfl⟩ | ⟨rfl, rfl⟩ | ⟨rfl, rfl⟩ | ⟨rfl, rfl⟩ | ⟨rfl, rfl⟩ | ⟨rfl, rfl⟩ | ⟨rfl, rfl⟩ | ⟨rfl, rfl⟩ | ⟨rfl, rfl⟩ <;> refine ⟨fun x hx => ?_, fun x hx => ?_⟩ <;> simp only [List.mem_cons, List.not_mem_nil, or_false] at hx
  all_goals (rcases hx with rfl | rfl)
  all_goals first | exact .int _ | exact .str _ | exact .inr ⟨_, rfl, by decide⟩ | exact .inl ⟨_, rfl, by decide⟩
theorem rcOf_ok (K : PySem.W.Frag) {now : Int} (hnw : now.natAbs < 2 ^ 63) {r : Row} (h : r.Ok) : (rcOf now (lvName (nms0 K) r.lv) r).Ok := by
  obtain ⟨l1, l2, l3, l4, _⟩ := row_len h
  exact { nm := by show r.nm.length ≤ 2000; omega
          l := by show r.lv.natAbs < 2 ^ 63; omega
          lnl := by have := lvl_len K h.lv; show (lvName (nms0 K) r.lv).length ≤ 2000; omega
          ms := by show r.ms.length ≤ 2000; omega
          nsl := by show r.xs.length ≤ 100; omega
          nsv := (row_arg h).2
          ck := hnw }
def spLRec (K : PySem.W.Frag) : Sp := fun vs H Q _ => ∃ (M : FS) (ad : Ro → Addr) (p : Addr) (k : Nat) (r : Row), vs = [.ref (ad .y), .ref p] ∧ YR K M ad H ∧ RowAt K k H p r ∧ r.Ok ∧ ∀ (H' : Hp) (x : Addr), Same H H' → RcAt K (nw H H') x (rcOf M.now (lvName (nms0 K) r.lv) r) → Q (.ref x) H'
theorem ok_lrec {f : Addr} (T : Txt P w K mg) (F : Stands K "_law_record" "_law_record" s__law_record [] f) (c_Yard_make_record_d1 : Callable P w K mg base 6 (He.ma K (He.ga K "Yard") "make_record") ["self", "name", "level", "msg", "args", "extra"] [.non] (spMakeRecord K)) : Callable P w K mg base 7 f ["_law_yard_here", "_law_row_here"] [] (spLRec K) := by
  refine F.call0 sc__law_record (fun vs H Q E h => ?_) (fun cdv A outer s0 H vs Q E hr h => ?_) (fun _ _ _ _ _ _ us hl => match us, hl with | [_, _], _ => rfl)
  · obtain ⟨M, ad, p, k, r, rfl, _⟩ := h; rfl
  obtain ⟨M, ad, p, k, r, rfl, R, ⟨a, hp, hf⟩, hok, hQ⟩ := h
  refine ⟨_, (pss_one (ps_ret (pe_mt T.c_Yard T.m_Yard_make_record c_Yard_make_record_d1 (hr.mono (by first | decide | exact Nat.le_refl _)) (pv 0) (pa_cons (pe_ix ix_tup (pv 1) pe_int (fun _ _ => rfl)) (pa_cons (pe_ix ix_tup (pv 1) pe_int (fun _ _ => rfl)) (pa_cons (pe_ix ix_tup (pv 1) pe_int (fun _ _ => rfl)) (pa_cons (pe_ix ix_tup (pv 1) pe_int (fun _ _ => rfl)) pa_nil))))))), ?_⟩
  walk_at "in"
  have hy := R.y_
  obtain ⟨l1, l2, l3, l4, _⟩ := row_len hok
  walk_at "go"
  refine ⟨.inr hf.sq, (row_arg hok).1, by omega, hy, rfl, rfl, rfl, rfl, rfl, R.na_, R.nu_, nms0_ok K, by omega, fun H8 x g e s8 fx fg fe hr8 hg8 he8 => ?_⟩
  obtain ⟨dx, hr8⟩ := hr8
  exact hQ H8 x s8 ⟨dx, g, e, nw_at hr8 fx, nw_at hg8 fg, nw_at he8 fe⟩
/-- the law's record as a component -/
def cLw (L : LS) (bd : Lo → Addr) : RS.Comp := ⟨Lo, M1 L bd, bd⟩
theorem LAp.of {H : Hp} {s l : Addr} {n : Nat} {L : LS} {bd : Lo → Addr} {G : Hp} {cs : List RS.Comp} (W : RS.Wd H s l n (cLw L bd :: RS.cG G :: cs)) : LAp L bd G H :=
  ⟨W.g1, fun b o e => (List.pairwise_cons.mp W.pw).1 (RS.cG G) List.mem_cons_self b o e⟩
/-- all that was laid since, draws between -/
theorem _root_.RS.Wd.layOld {H H' G : Hp} {s l : Addr} {n k : Nat} {cs : List RS.Comp} (W : RS.Wd H s l n (RS.cG G :: cs)) (e : Old s l H H') (st : Stm H' s l k) : RS.Wd H' s l k (RS.cG (gAdd G H H') :: cs) ∧ Same G (gAdd G H H') ∧ ∀ b o, H b = none → H' b = some o → gAdd G H H' b = some o := by
  have g0 := W.g0
  have key : ∀ b o, gAdd G H H' b = some o → (H b = none ∧ H' b = some o) ∨ (H b ≠ none ∧ G b = some o) := fun b o h => by
    unfold gAdd at h
    by_cases c : H b = none
    · rw [if_pos c] at h; exact .inl ⟨c, h⟩
    · rw [if_neg c] at h; exact .inr ⟨c, h⟩
  have W' := W.old e st
  have h1 := List.pairwise_cons.mp W.pw
  have nst : ∀ b, H b = none → b ≠ s ∧ b ≠ l := fun b hb => stm_new W.stm hb
  refine ⟨⟨st, fun d hd => ?_, List.pairwise_cons.mpr ⟨fun d hd => ?_, h1.2⟩, fun d hd => ?_⟩, fun b o h => ?_, fun b o h1 h2 => ?_⟩
  · rcases List.mem_cons.mp hd with rfl | hd
    · refine ⟨fun b o h => ?_, fun _ _ _ _ _ _ z => z⟩
      rcases key b o h with ⟨_, h⟩ | ⟨_, h⟩
      · exact h
      · exact W'.g0 _ _ h
    · exact W'.rep d (List.mem_cons_of_mem _ hd)
  · intro r u er r' u' er' z
    rcases key r' u' er' with ⟨hn, _⟩ | ⟨_, hg⟩
    · have := (W.rep d (List.mem_cons_of_mem _ hd)).at_ r u er
      have z : r' = d.ad r := z
      rw [← z, hn] at this; cases this
    · exact h1.1 d hd r u er r' u' hg z
  · rcases List.mem_cons.mp hd with rfl | hd
    · have a := W.os _ List.mem_cons_self
      refine ⟨fun r u h => ?_, fun r u h => ?_⟩
      · rcases key r u h with ⟨hn, _⟩ | ⟨_, hg⟩
        · exact (nst r hn).1
        · exact a.1 r u hg
      · rcases key r u h with ⟨hn, _⟩ | ⟨_, hg⟩
        · exact (nst r hn).2
        · exact a.2 r u hg
    · exact W.os d (List.mem_cons_of_mem _ hd)
  · unfold gAdd
    rw [if_neg (by rw [g0 _ _ h]; exact fun z => nomatch z)]; exact h
  · unfold gAdd
    rw [if_pos h1]; exact h2
end
end K17

set_option Elab.async false
set_option linter.all false
set_option maxRecDepth 100000
set_option maxHeartbeats 0

namespace K17
open PySem PySem.Spec PyProof.Rows L2 RC
section
variable {P : Program} {w : World} {K : PySem.W.Frag} {mg : Str → Option Value} {base : Heap}
/-! ### a handler made, and its record -/
theorem made_mk {s l h dx : Addr} {n : Nat} {M : FS} {ad : Ro → Addr} {H H2 : Hp} {cs : List RS.Comp} (W : RS.Wd H s l n (cF K M ad :: cs)) (hh : H h = none) (hdx : H dx = none) (hne : dx ≠ h) (d : Hd) (lf : Addr) (k : ∀ b o, b ≠ h → b ≠ ad .md → upd (upd H dx (.own h)) h (.ins (kdC K d.kd) dx []) b = some o → H2 b = some o)
    (k2 : upd (upd H dx (.own h)) h (.ins (kdC K d.kd) dx []) lf = none) (k3 : H2 h = some (.ins (kdC K d.kd) dx (d.F lf (ad .y)))) (k4 : H2 lf = some (.lst [])) (k5 : H2 (ad .md) = some (.lst (M.md ++ [.ref h]))) :
    ∃ ad', RS.Wd H2 s l n (cF K (M.mk1 h d) ad' :: cs) ∧ ad' .y = ad .y ∧ (∀ j, j < M.hs.length → ad' (.h j) = ad (.h j)) ∧ ad' (.h M.hs.length) = h := by
  have R : YR K M ad H := W.hd
  obtain ⟨R1, M1⟩ := R.mk1 (H1 := H2) (l := lf) hh hdx (Ne.symm hne) d k k2 k4 k5
  rw [upd_self k3] at R1 M1
  exact ⟨_, W.mv (c' := cF K (M.mk1 h d) _) R1 M1, rfl, fun j hj => if_neg (by omega), if_pos rfl⟩
theorem made_fin {s l t : Addr} {n : Nat} {M : FS} {ad : Ro → Addr} {L : LS} {bd : Lo → Addr} {H : Hp} {cs : List RS.Comp} {Q : VK} {x : V} (kd : Option Str) (W : RS.Wd H s l n (cF K M ad :: cLw L bd :: cs)) (ft : H t = none) (hl : L.hs.length ≤ 900)
    (k : ∀ p H' bd', RS.Wd H' s l n (RS.cell p (.tup [x, .ref (bd' (.h L.hs.length))]) :: cF K M ad :: cLw (L.addH (lh0 kd)) bd' :: cs) → (∀ r, r ≠ .h L.hs.length → bd' r = bd r) → Q (.ref p) H') :
    spLHandler [.ref (bd .m), .str (kdW kd), .ref t] (upd H t (.dK (toldK kd))) (fun v H2 => 2 ≤ sizeLine ∧ ∀ p, H2 p = none → Q (.ref p) (upd H2 p (.tup [x, v]))) E0 := by
  have W2 := (W.new (o := .dK (toldK kd)) ft).up2
  refine ⟨L, bd, t, kd, rfl, W2.hd, upd_same, fun r u er z => (List.pairwise_cons.mp W2.pw).1 (RS.cell t (.dK (toldK kd))) (by simp) () _ rfl r u er z, by omega, fun bd' H' R' MV x1 => ⟨by decide, fun p fp => ?_⟩⟩
  have W3 := (W2.mv (c' := cLw (L.addH (lh0 kd)) bd') R' MV).up1.tl
  exact k p _ bd' (W3.up1.new fp) x1
def spLMade (K : PySem.W.Frag) : Sp := fun vs H Q _ => ∃ (s l : Addr) (n : Nat) (M : FS) (ad : Ro → Addr) (L : LS) (bd : Lo → Addr) (cs : List RS.Comp), vs = [.ref s, .ref (ad .y), .ref (bd .m)] ∧ RS.Wd H s l n (cF K M ad :: cLw L bd :: cs) ∧ n ≤ 900000 ∧ M.md.length ≤ 900 ∧ L.hs.length ≤ 900 ∧
  ∀ (H' : Hp) (ad' : Ro → Addr) (bd' : Lo → Addr) (kd : Option Str) (h p : Addr), RS.Wd H' s l (n + 2) (RS.cell p (.tup [.ref (ad' (.h M.hs.length)), .ref (bd' (.h L.hs.length))]) :: cF K (M.mk1 h ⟨.non, "\n", kd⟩) ad' :: cLw (L.addH (lh0 kd)) bd' :: cs) → ad' .y = ad .y → (∀ j, j < M.hs.length → ad' (.h j) = ad (.h j)) → bd' .m = bd .m → (∀ j, j < L.hs.length → bd' (.h j) = bd (.h j)) → (∀ z, kd = some z → z.length ≤ 10) → Q (.ref p) H'
theorem ok_lmade {f : Addr} (T : Txt P w K mg) (F : Stands K "_law_made" "_law_made" s__law_made [] f)
    (c__law_draw : Callable P w K mg base 1 (He.ga K "_law_draw") ["_law_stream", "_law_many"] [] spDraw)
    (c__law_pick : Callable P w K mg base 2 (He.ga K "_law_pick") ["_law_stream", "_law_some"] [] (spPick K))
    (c__law_handler : Callable P w K mg base 1 (He.ga K "_law_handler") ["_law_m", "_law_kind", "_law_told"] [] spLHandler)
    (c_NullHandler_init : Callable P w K mg base 2 (He.ma K (He.ga K "NullHandler") "__init__") ["self", "yard"] [] (spHandlerInit K))
    (c_StreamHandler_init : Callable P w K mg base 3 (He.ma K (He.ga K "StreamHandler") "__init__") ["self", "yard", "stream"] [] (spStreamInit K))
    (c_StreamHandler_init_d1 : Callable P w K mg base 3 (He.ma K (He.ga K "StreamHandler") "__init__") ["self", "yard", "stream"] [.str "stderr"] (spStreamInit K)) :
    Callable P w K mg base 6 f ["_law_stream", "_law_yard_here", "_law_m"] [] (spLMade K) := by
  refine F.call0 sc__law_made (fun vs H Q E h => ?_) (fun cdv A outer s0 H vs Q E hr h => ?_) (fun _ _ _ _ _ _ us hl => match us, hl with | [_, _, _], _ => rfl)
  · obtain ⟨s, l, n, M, ad, L, bd, cs, rfl, _⟩ := h; rfl
  obtain ⟨s, l, n, M, ad, L, bd, cs, rfl, W, hn, hmd, hhs, hQ⟩ := h
  refine ⟨_, (pss_cons (ps_if (pt_cmpR op_eq (pe_fn T.g__law_draw c__law_draw (hr.mono (by first | decide | exact Nat.le_refl _)) (by rfl) (pa_cons (pv 0) (pa_cons pe_int pa_nil))) pe_int (nomark _)) (pss_one (ps_ret (pe_tup (pa_cons (pe_mk T.k_NullHandler T.g_NullHandler c_NullHandler_init (hr.mono (by first | decide | exact Nat.le_refl _)) (by rfl) (pa_cons (pv 1) pa_nil)) (pa_cons (pe_fn T.g__law_handler c__law_handler (hr.mono (by first | decide | exact Nat.le_refl _)) (by rfl) (pa_cons (pv 2) (pa_cons pe_str (pa_cons pe_dnewK pa_nil)))) pa_nil))))) pss_nil)
      (pss_cons (ps_set (i := 3) sc__law_made.nd rfl (by first | exact Or.inl rfl | exact Or.inr rfl) (pe_fn T.g__law_pick c__law_pick (hr.mono (by first | decide | exact Nat.le_refl _)) (by rfl) (pa_cons (pv 0) (pa_cons (pe_lst (pa_cons pe_str (pa_cons pe_str (pa_cons pe_str (pa_cons pe_str pa_nil))))) pa_nil))))
      (pss_cons (ps_if (pt_cmpR op_eq (pv 3) pe_str (nomark _)) (pss_one (ps_ret (pe_tup (pa_cons (pe_mk T.k_StreamHandler T.g_StreamHandler c_StreamHandler_init_d1 (hr.mono (by first | decide | exact Nat.le_refl _)) (by rfl) (pa_cons (pv 1) pa_nil)) (pa_cons (pe_fn T.g__law_handler c__law_handler (hr.mono (by first | decide | exact Nat.le_refl _)) (by rfl) (pa_cons (pv 2) (pa_cons pe_str (pa_cons (pe_disp (pps_cons pe_str (pv 3) pps_nil) (by rfl) (by rfl) (fun z => by cases z) (by decide)) pa_nil)))) pa_nil))))) pss_nil)
      (pss_one (ps_ret (pe_tup (pa_cons (pe_mk T.k_StreamHandler T.g_StreamHandler c_StreamHandler_init (hr.mono (by first | decide | exact Nat.le_refl _)) (by rfl) (pa_cons (pv 1) (pa_cons (pv 3) pa_nil))) (pa_cons (pe_fn T.g__law_handler c__law_handler (hr.mono (by first | decide | exact Nat.le_refl _)) (by rfl) (pa_cons (pv 2) (pa_cons pe_str (pa_cons (pe_disp (pps_cons pe_str (pv 3) pps_nil) (by rfl) (by rfl) (fun z => by cases z) (by decide)) pa_nil)))) pa_nil)))))))), ?_⟩
  have cN : HCls K (CNu K) := ⟨T.c_NullHandler, T.n_NullHandler_filters, T.n_NullHandler_yard, T.n_NullHandler_level, T.n_NullHandler_formatter, T.n_NullHandler_name, T.n_NullHandler_terminator, T.n_NullHandler_closed⟩
  walk_at "in"
  -- a stream handler of the name z
  have mkS : ∀ (z : Str) (H1 : Hp) (h dx : Addr) (Q2 : VK), z.length ≤ 10 → RS.Wd H1 s l (n + 2) (cF K M ad :: cLw L bd :: cs) → H1 h = none → H1 dx = none → dx ≠ h → (∀ H2 t, RS.Wd H2 s l (n + 2) (cF K M ad :: cLw L bd :: cs) → H2 t = none → True) →
      (∀ H2 ad', RS.Wd H2 s l (n + 2) (cF K (M.mk1 h ⟨.non, "\n", some z⟩) ad' :: cLw L bd :: cs) → ad' .y = ad .y → (∀ j, j < M.hs.length → ad' (.h j) = ad (.h j)) → ad' (.h M.hs.length) = h → Q2 .non H2) → spStreamInit K [.ref h, .ref (ad .y), .str z] (upd (upd H1 dx (.own h)) h (.ins (CRo K) dx [])) Q2 E0 := fun z H1 h dx Q2 hz W1 hh hdx hne _ k => by
    have R1 : YR K M ad H1 := W1.hd
    have up : ∀ b o, H1 b = some o → upd (upd H1 dx (.own h)) h (.ins (CRo K) dx []) b = some o := fun b o e => by
      rw [upd_ne (ne_of_none e hh), upd_ne (ne_of_none e hdx)]; exact e
    have npy : h ≠ ad .y := fun q => by have := R1.y_; rw [← q, hh] at this; cases this
    refine ⟨h, dx, ad .y, _, ad .md, z, _, M.md, rfl, upd_same, npy, up _ _ R1.y_, rfl, rfl, up _ _ R1.md_, by omega, fun H2 lf k1 k2 k3 k4 k5 => ?_⟩
    obtain ⟨ad', W2, y2, h2, p2⟩ := made_mk W1 hh hdx hne ⟨.non, "\n", some z⟩ lf k1 k2 k3 k4 k5
    exact k H2 ad' W2 y2 h2 p2
  refine seq_of (fun σ' H' => RS.Wd H' s l (n + 1) (cF K M ad :: cLw L bd :: cs) ∧ σ' = L2.start nm__law_made [.ref s, .ref (ad .y), .ref (bd .m)]) (fun b' kb => ?_) (fun σ' H' hm => ?_)
  · refine ⟨_, rfl, s, l, n, 5, rfl, W.stm, by omega, by decide, by decide, fun H1 c o1 st1 c0 c1 => ?_⟩
    have W1 := W.old o1 st1
    by_cases cz : c = 0
    · subst cz
      have e0 : decide (V.int 0 = V.int 0) = true := decide_eq_true rfl
      walk_at "go"
      intro h dx hh hdx hne
      have R1 : YR K M ad H1 := W1.hd
      have up : ∀ b o, H1 b = some o → upd (upd H1 dx (.own h)) h (.ins (CNu K) dx []) b = some o := fun b o e => by
        rw [upd_ne (ne_of_none e hh), upd_ne (ne_of_none e hdx)]; exact e
      have npy : h ≠ ad .y := fun q => by have := R1.y_; rw [← q, hh] at this; cases this
      refine ⟨h, _, dx, ad .y, _, ad .md, _, M.md, rfl, upd_same, cN, npy, up _ _ R1.y_, rfl, rfl, up _ _ R1.md_, by omega, fun H2 ⟨lf, k1, k2, k3, k4, k5⟩ => ⟨rfl, ?_⟩⟩
      obtain ⟨ad', W2, y2, h2, p2⟩ := made_mk W1 hh hdx hne ⟨.non, "\n", none⟩ lf k1 k2 k3 k4 k5
      refine ⟨_, rfl, ?_⟩
      intro t ft
      refine made_fin (x := .ref h) none W2 ft hhs (fun p H' bd' W3 x1 => ?_)
      rw [← p2] at W3
      exact hQ H' ad' bd' none (ad' (.h M.hs.length)) p (W3.mono (by omega)) y2 h2 (x1 _ (fun z => nomatch z)) (fun j hj => x1 _ (fun z => by cases z; omega)) (fun z e => nomatch e)
    · have e0 : decide (V.int c = V.int 0) = false := decide_eq_false fun z => cz (V.int.inj z)
      walk_at "go"
      exact kb _ _ ⟨W1, rfl⟩
  obtain ⟨W1, rfl⟩ := hm
  clear W
  refine seq_of (fun σ' H' => ∃ z : Str, z.length ≤ 10 ∧ RS.Wd H' s l (n + 2) (cF K M ad :: cLw L bd :: cs) ∧ σ' = [some (.ref s), some (.ref (ad .y)), some (.ref (bd .m)), some (.str z)]) (fun b' kb => ?_) (fun σ' H2 hm => ?_)
  · walk_at "go"
    intro N fN
    obtain ⟨m1, m2⟩ := stm_new W1.stm fN
    have W2 := W1.new (o := .lst [.str "out", .str "err", .str "stderr", .str ""]) fN
    refine ⟨s, l, N, n + 1, _, rfl, W2.stm, by omega, m1, m2, upd_same, by decide, by decide, fun H3 x o3 st3 hx => ?_⟩
    have W3 := (W2.old o3 st3).tl
    obtain ⟨z, rfl, hz⟩ : ∃ z : Str, x = .str z ∧ z.length ≤ 10 := by
      simp only [List.mem_cons, List.not_mem_nil, or_false] at hx
      rcases hx with rfl | rfl | rfl | rfl <;> exact ⟨_, rfl, by decide⟩
    exact kb _ _ ⟨z, hz, W3, rfl⟩
  obtain ⟨z, hz, W2, rfl⟩ := hm
  clear W1
  by_cases cz : z = "stderr"
  · subst cz
    have e0 : decide (V.str "stderr" = V.str (Str.ofString "stderr")) = true := decide_eq_true rfl
    walk_at "go"
    intro h dx hh hdx hne
    refine mkS "stderr" H2 h dx _ (by decide) W2 hh hdx hne (fun _ _ _ _ => trivial) (fun H3 ad' W3 y3 h3 p3 => ⟨rfl, ?_⟩)
    refine ⟨_, rfl, ?_⟩
    intro t ft
    refine ⟨_, rfl, upd_same, [(Sum.inr "stream", .str "stderr")], rfl, by show 1 ≤ 15; decide, ?_⟩
    rw [upd_upd]
    refine made_fin (x := .ref h) (some "stderr") W3 ft hhs (fun p H' bd' W4 x1 => ?_)
    rw [← p3] at W4
    exact hQ H' ad' bd' (some "stderr") (ad' (.h M.hs.length)) p W4 y3 h3 (x1 _ (fun z => nomatch z)) (fun j hj => x1 _ (fun z => by cases z; omega)) (fun z e => by cases e; decide)
  · have e0 : decide (V.str z = V.str (Str.ofString "stderr")) = false := decide_eq_false fun q => cz (V.str.inj q)
    walk_at "go"
    intro h dx hh hdx hne
    refine mkS z H2 h dx _ hz W2 hh hdx hne (fun _ _ _ _ => trivial) (fun H3 ad' W3 y3 h3 p3 => ⟨rfl, ?_⟩)
    refine ⟨_, rfl, ?_⟩
    intro t ft
    refine ⟨_, rfl, upd_same, [(Sum.inr "stream", .str z)], rfl, by show 1 ≤ 15; decide, ?_⟩
    rw [upd_upd]
    refine made_fin (x := .ref h) (some z) W3 ft hhs (fun p H' bd' W4 x1 => ?_)
    rw [← p3] at W4
    exact hQ H' ad' bd' (some z) (ad' (.h M.hs.length)) p W4 y3 h3 (x1 _ (fun z => nomatch z)) (fun j hj => x1 _ (fun z => by cases z; omega)) (fun z e => by cases e; exact hz)
end
end K17

set_option Elab.async false
set_option linter.all false
set_option maxRecDepth 100000
set_option maxHeartbeats 0

namespace K17
open PySem PySem.Spec PyProof.Rows L2 RC
section
variable {P : Program} {w : World} {K : PySem.W.Frag} {mg : Str → Option Value} {base : Heap}
/-! ### something of a handler is set -/
structure HRel (K : PySem.W.Frag) (G : Hp) (d : Hd) (e : Lh) : Prop where
  kd : e.kd = d.kd
  en : e.en = d.tm
  enl : e.en.length ≤ 10
  wy : WyOk e.wy
  fo : FormV K G (foW e.wy) d.fv
theorem HRel.same {G G' : Hp} (s : Same G G') {d : Hd} {e : Lh} (h : HRel K G d e) : HRel K G' d e := { h with fo := h.fo.same s }
structure Fmts (K : PySem.W.Frag) (G : Hp) (F : Addr) : Prop where
  ex : ∃ ws, G F = some (.lst ws) ∧ ws.length = 6 ∧ ∀ i : Nat, i < 6 → ∃ v, ws[i]? = some v ∧ FormV K G (foW i) v
theorem Fmts.same {G G' : Hp} {F : Addr} (s : Same G G') (h : Fmts K G F) : Fmts K G' F := ⟨let ⟨ws, h1, h2, h3⟩ := h.ex; ⟨ws, s _ _ h1, h2, fun i hi => let ⟨v, a, b⟩ := h3 i hi; ⟨v, a, b.same s⟩⟩⟩
theorem kv_len (e : Lh) : e.kv.length ≤ 9 := by
  obtain ⟨wy, en, kd, gt⟩ := e
  cases kd with
  | some z => exact Nat.le_refl 9
  | none =>
    cases gt with
    | some p => exact Nat.le_refl 9
    | none => exact Nat.le_succ 8
def spLDeed (K : PySem.W.Frag) : Sp := fun vs H Q _ => ∃ (s l F : Addr) (n i : Nat) (M : FS) (ad : Ro → Addr) (L : LS) (bd : Lo → Addr) (G : Hp) (cs : List RS.Comp) (d : Hd) (e : Lh), vs = [.ref s, .ref (ad (.h i)), .ref (bd (.h i)), .ref F] ∧ RS.Wd H s l n (cF K M ad :: cLw L bd :: RS.cG G :: cs) ∧ M.hs[i]? = some d ∧ L.hs[i]? = some e ∧ HRel K G d e ∧ Fmts K G F ∧ n ≤ 900000 ∧
  ∀ (H' : Hp) (d' : Hd) (e' : Lh), RS.Wd H' s l (n + 3) (cF K (M.setD i d') ad :: cLw (L.setD i e') bd :: RS.cG G :: cs) → HRel K G d' e' → Q (.bl true) H'
theorem ok_ldeed {f : Addr} (T : Txt P w K mg) (F : Stands K "_law_deed" "_law_deed" s__law_deed [] f)
    (c__law_draw : Callable P w K mg base 1 (He.ga K "_law_draw") ["_law_stream", "_law_many"] [] spDraw)
    (c__law_pick : Callable P w K mg base 2 (He.ga K "_law_pick") ["_law_stream", "_law_some"] [] (spPick K))
    (c__law_same : Callable P w K mg base 5 (He.ga K "_law_same") ["_law_found", "_law_due"] [] (spSame 4))
    (c_StreamHandler_setStream : Callable P w K mg base 1 (He.ma K (He.ga K "StreamHandler") "setStream") ["self", "stream"] [] (spSetS K))
    (c_StreamHandler_setFormatter : Callable P w K mg base 1 (He.ma K (He.ga K "StreamHandler") "setFormatter") ["self", "formatter"] [] (spSetV K true (fun d v => some { d with fv := v })))
    (c_StreamHandler_setTerminator : Callable P w K mg base 1 (He.ma K (He.ga K "StreamHandler") "setTerminator") ["self", "text"] [] (spSetV K true (fun d v => match v with | .str z => some { d with tm := z } | _ => none)))
    (c_NullHandler_setFormatter : Callable P w K mg base 1 (He.ma K (He.ga K "NullHandler") "setFormatter") ["self", "formatter"] [] (spSetV K false (fun d v => some { d with fv := v })))
    (c_NullHandler_setTerminator : Callable P w K mg base 1 (He.ma K (He.ga K "NullHandler") "setTerminator") ["self", "text"] [] (spSetV K false (fun d v => match v with | .str z => some { d with tm := z } | _ => none))) :
    Callable P w K mg base 6 f ["_law_stream", "_law_handler_here", "_law_h", "_law_formatters_here"] [] (spLDeed K) := by
  refine F.call0 sc__law_deed (fun vs H Q E h => ?_) (fun cdv A outer s0 H vs Q E hr h => ?_) (fun _ _ _ _ _ _ us hl => match us, hl with | [_, _, _, _], _ => rfl)
  · obtain ⟨s, l, F9, n, i, M, ad, L, bd, G, cs, d, e, rfl, _⟩ := h; rfl
  obtain ⟨s, l, F9, n, i, M, ad, L, bd, G, cs, ⟨fv, tm, kd⟩, ⟨wy, en, kd2, gt⟩, rfl, W, hd, he, ⟨hk, hen, henl, hwy, hfo⟩, ⟨ws, hF, hwl, hw⟩, hn, hQ⟩ := h
  dsimp only at hk hen henl hwy hfo
  subst hk hen
  refine ⟨_, (pss_cons (ps_set (i := 4) sc__law_deed.nd rfl (by first | exact Or.inl rfl | exact Or.inr rfl) (pe_fn T.g__law_draw c__law_draw (hr.mono (by first | decide | exact Nat.le_refl _)) (by rfl) (pa_cons (pv 0) (pa_cons pe_int pa_nil))))
      (pss_cons (ps_if (PW.pt (pw_and (pt_cmpR op_eq (pv 4) pe_int (nomark _)) (pw_and1 (pt_cmpR op_eq (pe_dget (hu_of hr) (pv 2) pe_str (fun _ _ => rfl)) pe_str (nomark _))))) (pss_cons (ps_set (i := 5) sc__law_deed.nd rfl (by first | exact Or.inl rfl | exact Or.inr rfl) (pe_fn T.g__law_pick c__law_pick (hr.mono (by first | decide | exact Nat.le_refl _)) (by rfl) (pa_cons (pv 0) (pa_cons (pe_lst (pa_cons pe_str (pa_cons pe_str (pa_cons pe_str (pa_cons pe_str pa_nil))))) pa_nil))))
      (pss_cons (ps_asg (pe_tup (pa_cons (pe_ifExp (pt_cmpR op_eq (pv 5) (pe_dget (hu_of hr) (pv 2) pe_str (fun _ _ => rfl)) (nomark _)) pe_non (pe_dget (hu_of hr) (pv 2) pe_str (fun _ _ => rfl))) (pa_cons (pv 5) pa_nil))) (RG.pg_tupK (K := K) (n := 2) (by rfl) (pgs_cons (pg_name (i := 6) sc__law_deed.nd rfl (by first | exact Or.inl rfl | exact Or.inr rfl)) (pgs_cons (pg_sub (pv 2) pe_str (RF.set_dict (hu_of hr))) pgs_nil))))
      (pss_one (ps_ret (pe_and (pe_fn T.g__law_same c__law_same (hr.mono (by first | decide | exact Nat.le_refl _)) (by rfl) (pa_cons (pe_mt T.c_StreamHandler T.m_StreamHandler_setStream c_StreamHandler_setStream (hr.mono (by first | decide | exact Nat.le_refl _)) (pv 1) (pa_cons (pv 5) pa_nil)) (pa_cons (pv 6) pa_nil))) (pe_one (pe_cmpR op_eq (pe_fld (pv 1) rfl) (pv 5) (nomark _)))))))) pss_nil)
      (pss_cons (ps_if (pt_cmpR op_eq (pv 4) pe_int (nomark _)) (pss_cons (ps_dput (hu_of hr) (pv 2) pe_str (pe_fn T.g__law_pick c__law_pick (hr.mono (by first | decide | exact Nat.le_refl _)) (by rfl) (pa_cons (pv 0) (pa_cons (pe_lst (pa_cons pe_str (pa_cons pe_str (pa_cons pe_str (pa_cons pe_str pa_nil))))) pa_nil))) rfl)
      (pss_one (ps_ret (pe_cmpR op_isN (RA.PE.or (pe_mt T.c_StreamHandler T.m_StreamHandler_setTerminator c_StreamHandler_setTerminator (hr.mono (by first | decide | exact Nat.le_refl _)) (pv 1) (pa_cons (pe_dget (hu_of hr) (pv 2) pe_str (fun _ _ => rfl)) pa_nil)) (pe_mt T.c_NullHandler T.m_NullHandler_setTerminator c_NullHandler_setTerminator (hr.mono (by first | decide | exact Nat.le_refl _)) (pv 1) (pa_cons (pe_dget (hu_of hr) (pv 2) pe_str (fun _ _ => rfl)) pa_nil))) pe_non (nomark _))))) pss_nil)
      (pss_cons (ps_dput (hu_of hr) (pv 2) pe_str (pe_fn T.g__law_draw c__law_draw (hr.mono (by first | decide | exact Nat.le_refl _)) (by rfl) (pa_cons (pv 0) (pa_cons pe_int pa_nil))) rfl)
      (pss_one (ps_ret (pe_cmpR op_isN (RA.PE.or (pe_mt T.c_StreamHandler T.m_StreamHandler_setFormatter c_StreamHandler_setFormatter (hr.mono (by first | decide | exact Nat.le_refl _)) (pv 1) (pa_cons (pe_ix ix_list (pv 3) (pe_dget (hu_of hr) (pv 2) pe_str (fun _ _ => rfl)) (fun _ _ => rfl)) pa_nil)) (pe_mt T.c_NullHandler T.m_NullHandler_setFormatter c_NullHandler_setFormatter (hr.mono (by first | decide | exact Nat.le_refl _)) (pv 1) (pa_cons (pe_ix ix_list (pv 3) (pe_dget (hu_of hr) (pv 2) pe_str (fun _ _ => rfl)) (fun _ _ => rfl)) pa_nil))) pe_non (nomark _)))))))), ?_⟩
  walk_at "in"
  refine seq_of (fun σ' H' => ∃ c : Int, 0 ≤ c ∧ RS.Wd H' s l (n + 1) (cF K M ad :: cLw L bd :: RS.cG G :: cs) ∧ σ' = [some (.ref s), some (.ref (ad (.h i))), some (.ref (bd (.h i))), some (.ref F9), some (.int c), none, none]) (fun b' kb => ?_) (fun σ' H1 hm => ?_)
  · refine ⟨_, rfl, s, l, n, 3, rfl, W.stm, by omega, by decide, by decide, fun H1 c o1 st1 c0 c1 => ?_⟩
    exact kb _ _ ⟨c, c0, W.old o1 st1, rfl⟩
  obtain ⟨c, c0, W1, rfl⟩ := hm
  clear W
  have R1 : YR K M ad H1 := W1.hd
  have Rl1 : LR L bd H1 := W1.up1.hd
  have hh1 := Rl1.lh_ he
  refine seq_of (fun σ' H' => H1 = H' ∧ σ' = [some (.ref s), some (.ref (ad (.h i))), some (.ref (bd (.h i))), some (.ref F9), some (.int c), none, none]) (fun b' kb => ?_) (fun σ' H' hm => ?_)
  · by_cases cz : c = 0
    · subst cz
      have e0 : decide (V.int 0 = V.int 0) = true := decide_eq_true rfl
      cases kd2 with
      | none =>
        have e1 : decide (V.str (kdW none) = V.str (Str.ofString "stream")) = false := by decide
        walk_at "go"
        exact kb _ _ ⟨rfl, rfl⟩
      | some z =>
        have e1 : decide (V.str (kdW (some z)) = V.str (Str.ofString "stream")) = true := decide_eq_true rfl
        walk_at "go"
        intro N fN
        obtain ⟨m1, m2⟩ := stm_new W1.stm fN
        have W2 := W1.new (o := .lst [.str "out", .str "err", .str "stderr", .str ""]) fN
        refine ⟨s, l, N, n + 1, _, rfl, W2.stm, by omega, m1, m2, upd_same, by decide, by decide, fun H3 x o3 st3 hx => ?_⟩
        have W3 := (W2.old o3 st3).tl
        obtain ⟨t, rfl⟩ : ∃ t : Str, x = .str t := by
          simp only [List.mem_cons, List.not_mem_nil, or_false] at hx
          rcases hx with rfl | rfl | rfl | rfl <;> exact ⟨_, rfl⟩
        clear W1 W2 R1 Rl1 hh1 o3 st3 hx fN m1 m2
        have Rl3 : LR L bd H3 := W3.up1.hd
        have hh3 := Rl3.lh_ he
        dsimp only [gName]
        refine seq_of (fun σ' H' => RS.Wd H' s l (n + 2) (cF K M ad :: cLw (L.setD i ⟨wy, en, some t, gt⟩) bd :: RS.cG G :: cs) ∧ σ' = [some (.ref s), some (.ref (ad (.h i))), some (.ref (bd (.h i))), some (.ref F9), some (.int 0), some (.str t), some (if t = z then V.non else V.str z)]) (fun b2 kb2 => ?_) (fun σ' H4 hm => ?_)
        · have fin : ∀ q o, H3 q = none → RS.Wd (upd (upd H3 q o) (bd (.h i)) (.dK (Lh.kv ⟨wy, en, some t, gt⟩))) s l (n + 2) (cF K M ad :: cLw (L.setD i ⟨wy, en, some t, gt⟩) bd :: RS.cG G :: cs) := fun q o fq => by
            have W4 := (W3.new (o := o) fq).up2
            have Rl4 : LR L bd _ := W4.hd
            obtain ⟨R5, M5⟩ := Rl4.lsetD he ⟨wy, en, some t, gt⟩
            exact (W4.mv (c' := cLw (L.setD i ⟨wy, en, some t, gt⟩) bd) R5 M5).up1.tl.up1
          by_cases ct : t = z
          · have e2 : decide (V.str t = V.str z) = true := decide_eq_true (by rw [ct])
            rw [if_pos ct] at kb2
            walk_at "go"
            intro q fq
            have hh4 := same_new fq (.tup [.non, .str t]) _ _ hh3
            have hq4 := upd_same (H := H3) (a := q) (o := .tup [.non, .str t])
            walk_at "go"
            exact kb2 _ _ ⟨fin q _ fq, rfl⟩
          · have e2 : decide (V.str t = V.str z) = false := decide_eq_false fun q => ct (V.str.inj q)
            rw [if_neg ct] at kb2
            walk_at "go"
            intro q fq
            have hh4 := same_new fq (.tup [.str z, .str t]) _ _ hh3
            have hq4 := upd_same (H := H3) (a := q) (o := .tup [.str z, .str t])
            walk_at "go"
            exact kb2 _ _ ⟨fin q _ fq, rfl⟩
        obtain ⟨W4, rfl⟩ := hm
        have R4 : YR K M ad H4 := W4.hd
        have hs4 := R4.hS_ hd
        refine ⟨_, rfl, _, _, _, rfl, hs4, rfl, _, rfl, ?_⟩
        refine ⟨M, ad, i, fv, en, z, t, rfl, R4, hd, fun H5 M5 R5 MV e5 => ?_⟩
        subst e5
        have W5 := W4.mv (c' := cF K (M.setD i ⟨fv, en, some t⟩) ad) R5 MV
        have hd5 : (M.setD i ⟨fv, en, some t⟩).hs[i]? = some ⟨fv, en, some t⟩ := List.getElem?_set_self (List.getElem?_eq_some_iff.mp hd).1
        have hs5 := R5.hS_ hd5
        have hd9 : SameD H5 4 (if t = z then V.non else V.str z) (if t = z then V.non else V.str z) := by
          by_cases ct : t = z
          · rw [if_pos ct]; exact .non _
          · rw [if_neg ct]; exact .str _ _
        refine ⟨_, rfl, _, _, rfl, hd9, fun H6 s6 => ?_⟩
        have hs6 := s6 _ _ hs5
        have e3 : decide (V.str t = V.str t) = true := decide_eq_true rfl
        have fin := hQ H6 _ _ ((W5.same s6).mono (by omega)) ⟨rfl, rfl, henl, hwy, hfo⟩
        walk_at "go"
        rw [e3]
        exact fin
    · have e0 : decide (V.int c = V.int 0) = false := decide_eq_false fun z => cz (V.int.inj z)
      walk_at "go"
      exact kb _ _ ⟨rfl, rfl⟩
  obtain ⟨rfl, rfl⟩ := hm
  have setT : ∀ (en2 : Str) (H2 : Hp) (Q2 : VK), en2.length ≤ 10 → RS.Wd H2 s l (n + 2) (cF K M ad :: cLw (L.setD i ⟨wy, en2, kd2, gt⟩) bd :: RS.cG G :: cs) → (∀ H3, RS.Wd H3 s l (n + 2) (cF K (M.setD i ⟨fv, en2, kd2⟩) ad :: cLw (L.setD i ⟨wy, en2, kd2, gt⟩) bd :: RS.cG G :: cs) → Q2 .non H3) →
      spSetV K kd2.isSome (fun d v => match v with | .str z => some { d with tm := z } | _ => none) [.ref (ad (.h i)), .str en2] H2 Q2 E0 := fun en2 H2 Q2 hl W2 k => by
    refine ⟨M, ad, i, _, ⟨fv, en2, kd2⟩, .str en2, rfl, W2.hd, hd, rfl, rfl, fun H3 M3 R3 MV e3 => ?_⟩
    subst e3
    exact k H3 (W2.mv (c' := cF K (M.setD i ⟨fv, en2, kd2⟩) ad) R3 MV)
  have setF : ∀ (w2 : Int) (v : V) (H2 : Hp) (Q2 : VK), RS.Wd H2 s l (n + 2) (cF K M ad :: cLw (L.setD i ⟨w2, en, kd2, gt⟩) bd :: RS.cG G :: cs) → (∀ H3, RS.Wd H3 s l (n + 2) (cF K (M.setD i ⟨v, en, kd2⟩) ad :: cLw (L.setD i ⟨w2, en, kd2, gt⟩) bd :: RS.cG G :: cs) → Q2 .non H3) →
      spSetV K kd2.isSome (fun d v => some { d with fv := v }) [.ref (ad (.h i)), v] H2 Q2 E0 := fun w2 v H2 Q2 W2 k => by
    refine ⟨M, ad, i, _, ⟨v, en, kd2⟩, v, rfl, W2.hd, hd, rfl, rfl, fun H3 M3 R3 MV e3 => ?_⟩
    subst e3
    exact k H3 (W2.mv (c' := cF K (M.setD i ⟨v, en, kd2⟩) ad) R3 MV)
  refine seq_of (fun σ' H' => H1 = H' ∧ σ' = [some (.ref s), some (.ref (ad (.h i))), some (.ref (bd (.h i))), some (.ref F9), some (.int c), none, none]) (fun b' kb => ?_) (fun σ' H' hm => ?_)
  · by_cases cz : c = 1
    · subst cz
      have e0 : decide (V.int 1 = V.int 1) = true := decide_eq_true rfl
      have eP : ∀ e2 : Str, putK (Lh.kv ⟨wy, en, kd2, gt⟩) (Sum.inr "end") (.str e2) = Lh.kv ⟨wy, e2, kd2, gt⟩ := fun e2 => by cases kd2 <;> cases gt <;> rfl
      have hsz : (Lh.kv ⟨wy, en, kd2, gt⟩).length < sizeLine := by have := kv_len ⟨wy, en, kd2, gt⟩; rw [sizeLine_eq]; omega
      walk_at "go"
      intro N fN
      obtain ⟨m1, m2⟩ := stm_new W1.stm fN
      have W2 := W1.new (o := .lst [.str "\n", .str "", .str "; ", .str "\n\n"]) fN
      refine ⟨s, l, N, n + 1, _, rfl, W2.stm, by omega, m1, m2, upd_same, by decide, by decide, fun H3 x o3 st3 hx => ?_⟩
      have W3 := (W2.old o3 st3).tl
      obtain ⟨en2, rfl, hl2⟩ : ∃ t : Str, x = .str t ∧ t.length ≤ 10 := by
        simp only [List.mem_cons, List.not_mem_nil, or_false] at hx
        rcases hx with rfl | rfl | rfl | rfl <;> exact ⟨_, rfl, by decide⟩
      clear W1 W2 R1 Rl1 hh1 o3 st3 hx fN m1 m2
      have Rl3 : LR L bd H3 := W3.up1.hd
      have hh3 := Rl3.lh_ he
      obtain ⟨R4, M4⟩ := Rl3.lsetD he ⟨wy, en2, kd2, gt⟩
      refine ⟨_, rfl, _, _, rfl, RW.dput_s hh3 hsz, ?_⟩
      rw [eP]
      have W4 := (W3.up1.mv (c' := cLw (L.setD i ⟨wy, en2, kd2, gt⟩) bd) R4 M4).up1
      have hh4 := upd_same (H := H3) (a := bd (.h i)) (o := .dK (Lh.kv ⟨wy, en2, kd2, gt⟩))
      generalize upd H3 (bd (.h i)) (.dK (Lh.kv ⟨wy, en2, kd2, gt⟩)) = H4 at W4 hh4 ⊢
      have R5 : YR K M ad H4 := W4.hd
      have fin : ∀ H5, RS.Wd H5 s l (n + 2) (cF K (M.setD i ⟨fv, en2, kd2⟩) ad :: cLw (L.setD i ⟨wy, en2, kd2, gt⟩) bd :: RS.cG G :: cs) → Q (.bl true) H5 := fun H5 W5 => hQ H5 _ _ (W5.mono (by omega)) ⟨rfl, rfl, hl2, hwy, hfo⟩
      cases kd2 with
      | some z =>
        have hs4 := R5.hS_ hd
        refine .inl ⟨_, rfl, _, _, _, rfl, hs4, rfl, ?_⟩
        refine ⟨_, rfl, _, _, rfl, RW.dget_s hh4 rfl, ?_⟩
        try dsimp only [tNil]
        refine setT en2 H4 _ hl2 W4 (fun H5 W5 => ?_)
        walk_at "go"
        exact fin H5 W5
      | none =>
        have hs4 := R5.hN_ hd
        refine .inr ⟨_, rfl, _, _, _, rfl, hs4, rfl, ?_⟩
        refine ⟨_, rfl, _, _, rfl, RW.dget_s hh4 rfl, ?_⟩
        try dsimp only [tNil]
        refine setT en2 H4 _ hl2 W4 (fun H5 W5 => ?_)
        walk_at "go"
        exact fin H5 W5
    · have e0 : decide (V.int c = V.int 1) = false := decide_eq_false fun z => cz (V.int.inj z)
      walk_at "go"
      exact kb _ _ ⟨rfl, rfl⟩
  obtain ⟨rfl, rfl⟩ := hm
  refine seq_of (fun σ' H' => ∃ w2 : Nat, w2 < 6 ∧ RS.Wd H' s l (n + 2) (cF K M ad :: cLw (L.setD i ⟨w2, en, kd2, gt⟩) bd :: RS.cG G :: cs) ∧ σ' = [some (.ref s), some (.ref (ad (.h i))), some (.ref (bd (.h i))), some (.ref F9), some (.int c), none, none]) (fun b' kb => ?_) (fun σ' H4 hm => ?_)
  · have eP : ∀ w2 : Int, putK (Lh.kv ⟨wy, en, kd2, gt⟩) (Sum.inr "way") (.int w2) = Lh.kv ⟨w2, en, kd2, gt⟩ := fun e2 => by cases kd2 <;> cases gt <;> rfl
    have hsz : (Lh.kv ⟨wy, en, kd2, gt⟩).length < sizeLine := by have := kv_len ⟨wy, en, kd2, gt⟩; rw [sizeLine_eq]; omega
    refine ⟨_, rfl, s, l, n + 1, 6, rfl, W1.stm, by omega, by decide, by decide, fun H3 w2 o3 st3 a0 a1 => ?_⟩
    have W3 := W1.old o3 st3
    clear W1 R1 Rl1 hh1 o3 st3
    obtain ⟨w2, rfl⟩ := Int.eq_ofNat_of_zero_le a0
    have Rl3 : LR L bd H3 := W3.up1.hd
    have hh3 := Rl3.lh_ he
    obtain ⟨R4, M4⟩ := Rl3.lsetD he ⟨w2, en, kd2, gt⟩
    refine ⟨_, rfl, _, _, rfl, RW.dput_s hh3 hsz, ?_⟩
    rw [eP]
    exact kb _ _ ⟨w2, by omega, (W3.up1.mv (c' := cLw (L.setD i ⟨w2, en, kd2, gt⟩) bd) R4 M4).up1, rfl⟩
  obtain ⟨w2, hw2, W4, rfl⟩ := hm
  have R4 : YR K M ad H4 := W4.hd
  have hd2 : (L.setD i ⟨w2, en, kd2, gt⟩).hs[i]? = some ⟨w2, en, kd2, gt⟩ := List.getElem?_set_self (List.getElem?_eq_some_iff.mp he).1
  have Rl4 : LR (L.setD i ⟨w2, en, kd2, gt⟩) bd H4 := W4.up1.hd
  have hh4 := Rl4.lh_ hd2
  have hF4 : H4 F9 = some (.lst ws) := W4.g2 _ _ hF
  obtain ⟨v, hv, hfv⟩ := hw w2 hw2
  have hav : atI ws (w2 : Int) = some v := atI_nat hv
  have fin : ∀ H5, RS.Wd H5 s l (n + 2) (cF K (M.setD i ⟨v, en, kd2⟩) ad :: cLw (L.setD i ⟨w2, en, kd2, gt⟩) bd :: RS.cG G :: cs) → Q (.bl true) H5 := fun H5 W5 => hQ H5 _ _ (W5.mono (by omega)) ⟨rfl, rfl, henl, (show WyOk (w2 : Int) from by unfold WyOk; omega), hfv⟩
  cases kd2 with
  | some z =>
    have hs4 := R4.hS_ hd
    refine .inl ⟨_, rfl, _, _, _, rfl, hs4, rfl, ?_⟩
    refine ⟨_, rfl, ?_⟩
    refine ⟨_, rfl, _, _, rfl, RW.dget_s hh4 rfl, ?_⟩
    refine ⟨F9, ws, w2, v, rfl, rfl, SqL.of hF4, hav, ?_⟩
    dsimp only [tNil]
    refine setF w2 v H4 _ W4 (fun H5 W5 => ?_)
    walk_at "go"
    exact fin H5 W5
  | none =>
    have hs4 := R4.hN_ hd
    refine .inr ⟨_, rfl, _, _, _, rfl, hs4, rfl, ?_⟩
    refine ⟨_, rfl, ?_⟩
    refine ⟨_, rfl, _, _, rfl, RW.dget_s hh4 rfl, ?_⟩
    refine ⟨F9, ws, w2, v, rfl, rfl, SqL.of hF4, hav, ?_⟩
    dsimp only [tNil]
    refine setF w2 v H4 _ W4 (fun H5 W5 => ?_)
    walk_at "go"
    exact fin H5 W5
end
end K17

set_option Elab.async false
set_option linter.all false
set_option maxRecDepth 100000
set_option maxHeartbeats 0

namespace K17
open PySem PySem.Spec PyProof.Rows L2 RC
section
variable {P : Program} {w : World} {K : PySem.W.Frag} {mg : Str → Option Value} {base : Heap}
/-! ### whether a yard is as it is told -/
structure LkOk (s : FS) (L : LS) : Prop where
  st : L.st = s.st
  fr : L.fr = s.fr
  l64 : s.st.length < 64
  nd : (s.st.map (·.1)).Nodup
  frl : s.fr.length ≤ 1000000
def spLLike (K : PySem.W.Frag) : Sp := fun vs H Q _ => ∃ (s : FS) (ad : Ro → Addr) (L : LS) (bd : Lo → Addr), vs = [.ref (ad .y), .ref (bd .m)] ∧ YR K s ad H ∧ LR L bd H ∧ LkOk s L ∧ ∀ H', Same H H' → Q (.bl true) H'
theorem fr_same {s : FS} {ad : Ro → Addr} {L : LS} {bd : Lo → Addr} {H : Hp} {a b : Addr} {n : Nat} (R : YR K s ad H) (Rl : LR L bd H) (e : L.fr = s.fr) (hl : s.fr.length ≤ 1000000) (ha : H a = some (.lst (frL s.fr.length ad))) (hb : H b = some (.lst (frLL L.fr.length bd))) : SameD H (n + 3) (.ref a) (.ref b) := by
  have l1 : (frL s.fr.length ad).length = s.fr.length := by unfold frL; rw [List.length_map, List.length_range]
  have l2 : (frLL L.fr.length bd).length = s.fr.length := by unfold frLL; rw [List.length_map, List.length_range, e]
  refine .lst ha hb (by rw [l1, l2]) (by rw [l1]; exact hl) fun i x y hx hy => ?_
  have hi : i < s.fr.length := by rw [← l1]; exact (List.getElem?_eq_some_iff.mp hx).1
  unfold frL at hx
  unfold frLL at hy
  rw [e] at hy
  rw [List.getElem?_map, List.getElem?_range hi] at hx hy
  cases hx
  cases hy
  obtain ⟨f, hf⟩ : ∃ f, s.fr[i]? = some f := ⟨s.fr[i], by simp [hi]⟩
  refine .tup (R.ft_ hf) (Rl.lft_ (by rw [e]; exact hf)) rfl (by show 2 ≤ 1000000; decide) fun j x y hx hy => ?_
  rw [hx] at hy
  cases hy
  match j, hx with
  | 0, hx => cases hx; exact .str _ _
  | 1, hx => cases hx; exact .str _ _
theorem ok_llike {f : Addr} (T : Txt P w K mg) (F : Stands K "_law_is_like" "_law_is_like" s__law_is_like [] f) (c_Yard_files : Callable P w K mg base 2 (He.ma K (He.ga K "Yard") "files") ["self"] [] (spFiles K))
    (c_Yard_failures : Callable P w K mg base 1 (He.ma K (He.ga K "Yard") "failures") ["self"] [] (spFails K)) (c_Yard_streams : Callable P w K mg base 1 (He.ma K (He.ga K "Yard") "streams") ["self"] [] (spStreams K))
    (c_Yard_text : Callable P w K mg base 1 (He.ma K (He.ga K "Yard") "text") ["self", "stream"] [] (spText K)) (c__law_same : Callable P w K mg base 5 (He.ga K "_law_same") ["_law_found", "_law_due"] [] (spSame 4)) : Callable P w K mg base 6 f ["_law_yard_here", "_law_m"] [] (spLLike K) := by
  refine F.call0 sc__law_is_like (fun vs H Q E h => ?_) (fun cdv A outer s0 H vs Q E hr h => ?_) (fun _ _ _ _ _ _ us hl => match us, hl with | [_, _], _ => rfl)
  · obtain ⟨s, ad, L, bd, rfl, _⟩ := h; rfl
  obtain ⟨s, ad, L, bd, rfl, R, Rl, ⟨ef, er, hl, nd, hfr⟩, hQ⟩ := h
  refine ⟨_, (pss_cons (ps_par (by rfl) sc__law_is_like.nd (i := 2) (j := 3) rfl rfl (by decide) rfl rfl (pa_cons (pe_mt0 T.c_Yard T.m_Yard_files c_Yard_files (hr.mono (by first | decide | exact Nat.le_refl _)) (pv 0)) (pa_cons (pe_mt0 T.c_Yard T.m_Yard_failures c_Yard_failures (hr.mono (by first | decide | exact Nat.le_refl _)) (pv 0)) pa_nil)) (by rfl))
      (pss_cons (ps_set (i := 4) sc__law_is_like.nd rfl (by first | exact Or.inl rfl | exact Or.inr rfl) (pe_mt0 T.c_Yard T.m_Yard_streams c_Yard_streams (hr.mono (by first | decide | exact Nat.le_refl _)) (pv 0)))
      (pss_cons (ps_set (i := 5) sc__law_is_like.nd rfl (by first | exact Or.inl rfl | exact Or.inr rfl) (pe_callTy (call_dictP rfl) (by rfl) T.b_dict (by decide +kernel) (pa_cons (pe_lock (pe_lc (own := [("_law_name", 6)]) (by rfl) sc__law_is_like.nd (pi_keys (pe_dget (hu_of hr) (pv 1) pe_str (fun _ _ => rfl))) (blkOk_by (own := [("_law_name", 6)]) (N := nm__law_is_like) (sc := defScope s__law_is_like) (by decide +kernel)) (fun _ _ _ _ _ => (pg_name (i := 6) sc__law_is_like.nd rfl (by first | exact Or.inl rfl | exact Or.inr rfl))) (fun _ _ _ _ _ => pts_nil) (fun _ _ _ _ _ => (pe_tup (pa_cons (pv 6) (pa_cons (pe_ix (ixK (K := K) rIxL ix_list) (pe_dget (hu_of hr) (pe_dget (hu_of hr) (pv 1) pe_str (fun _ _ => rfl)) (pv 6) (fun _ _ => rfl)) pe_int (fun _ _ => rfl)) pa_nil)))))) pa_nil)))
      (pss_cons (ps_if (PW.pt (pw_or (pt_not (pt_val (pe_fn T.g__law_same c__law_same (hr.mono (by first | decide | exact Nat.le_refl _)) (by rfl) (pa_cons (pv 2) (pa_cons (pv 5) pa_nil))))) (pw_or1 (pt_not (pt_val (pe_fn T.g__law_same c__law_same (hr.mono (by first | decide | exact Nat.le_refl _)) (by rfl) (pa_cons (pv 3) (pa_cons (pe_dget (hu_of hr) (pv 1) pe_str (fun _ _ => rfl)) pa_nil)))))))) (pss_one (ps_ret pe_bl)) pss_nil)
      (pss_cons (ps_if (pt_not (pt_val (pe_fn T.g__law_same c__law_same (hr.mono (by first | decide | exact Nat.le_refl _)) (by rfl) (pa_cons (pv 4) (pa_cons (pe_callB cr_sortedS (by rfl) T.b_sorted (by decide +kernel) (pa_cons (pe_lock (pe_lc (own := [("_law_name", 6)]) (by rfl) sc__law_is_like.nd (pi_keys (pe_dget (hu_of hr) (pv 1) pe_str (fun _ _ => rfl))) (blkOk_by (own := [("_law_name", 6)]) (N := nm__law_is_like) (sc := defScope s__law_is_like) (by decide +kernel)) (fun _ _ _ _ _ => (pg_name (i := 6) sc__law_is_like.nd rfl (by first | exact Or.inl rfl | exact Or.inr rfl))) (fun _ _ _ _ _ => (pts_one (pt_cmpR op_ne (pe_dget (hu_of hr) (pe_dget (hu_of hr) (pv 1) pe_str (fun _ _ => rfl)) (pv 6) (fun _ _ => rfl)) pe_str (nomark _)))) (fun _ _ _ _ _ => (pv 6)))) pa_nil)) pa_nil))))) (pss_one (ps_ret pe_bl)) pss_nil)
      (pss_cons (ps_dput (hu_of hr) (pv 2) pe_str pe_str rfl)
      (pss_cons (ps_expr (pe_bm PySem.F.plainAttrs_list PySem.F.slot_list_append PySem.F.type_list_append mt_append (pv 3) (pa_cons (pe_tup (pa_cons pe_str (pa_cons pe_str pa_nil))) pa_nil)))
      (pss_cons (ps_expr (pe_bm PySem.F.plainAttrs_list PySem.F.slot_list_append PySem.F.type_list_append mt_append (pv 4) (pa_cons pe_str pa_nil)))
      (pss_one (ps_ret (pe_callB (cr_all rfl) (by rfl) T.b_all (by decide +kernel) (pa_cons (pe_lc (own := [("_law_name", 6)]) (by rfl) sc__law_is_like.nd (pi_list (pe_lst (pa_cons pe_str (pa_cons pe_str (pa_cons pe_str (pa_cons pe_str pa_nil)))))) (blkOk_by (own := [("_law_name", 6)]) (N := nm__law_is_like) (sc := defScope s__law_is_like) (by decide +kernel)) (fun _ _ _ _ _ => (pg_name (i := 6) sc__law_is_like.nd rfl (by first | exact Or.inl rfl | exact Or.inr rfl))) (fun _ _ _ _ _ => pts_nil) (fun _ _ _ _ _ => (pe_fn T.g__law_same c__law_same (hr.mono (by first | decide | exact Nat.le_refl _)) (by rfl) (pa_cons (pe_mt T.c_Yard T.m_Yard_text c_Yard_text (hr.mono (by first | decide | exact Nat.le_refl _)) (pv 0) (pa_cons (pv 6) pa_nil)) (pa_cons (pe_dget2 (hu_of hr) (pe_dget (hu_of hr) (pv 1) pe_str (fun _ _ => rfl)) (pv 6) pe_str ⟨rfl, rfl, rfl, rfl⟩) pa_nil))))) pa_nil)))))))))))), ?_⟩
  walk_at "in"
  refine ⟨_, rfl, ad .y, _, _, rfl, R.y_, rfl, s, ad, rfl, R, fun p1 H1 s1 f1 h1 => ?_⟩
  have R1 := R.same s1
  refine ⟨_, rfl, ad .y, _, _, rfl, R1.y_, rfl, s, ad, rfl, R1, fun p2 f2 => ?_⟩
  have s2 := same_new f2 (.lst (frL s.fr.length ad))
  have h2 := upd_same (H := H1) (a := p2) (o := .lst (frL s.fr.length ad))
  have h1' := s2 _ _ h1
  have n2 := s1.free f2
  generalize upd H1 p2 (.lst (frL s.fr.length ad)) = H2 at s2 h2 h1' ⊢
  have R2 := R1.same s2
  walk_at "go"
  refine ⟨R2.y_, rfl, s, ad, rfl, R2, hl, nd, fun H3 p3 ys s3 f3 h3 pm1 so1 => ?_⟩
  have R3 := R2.same s3
  have Rl3 := Rl.same ((s1.trans s2).trans s3)
  have S3 := (s1.trans s2).trans s3
  have n3 := s1.free (s2.free f3)
  have h13 := s3 _ _ h1'
  have h23 := s3 _ _ h2
  have n23 : p2 ≠ p3 := ne_of_none h2 f3
  have n13 : p1 ≠ p3 := ne_of_none h1' f3
  have n12 : p1 ≠ p2 := ne_of_none h1 f2
  have hm := Rl3.lm_
  have hf := Rl3.lfi_
  clear R1 R2 h1 h2 h1'
  have nmf : bd .m ≠ bd .fi := fun z => nomatch Rl3.inj .m .fi _ _ rfl rfl z
  have nms : bd .m ≠ bd .st := fun z => nomatch Rl3.inj .m .st _ _ rfl rfl z
  dsimp only [gName]
  refine seq_of (fun σ' H' => ∃ p4, σ' = [some (.ref (ad .y)), some (.ref (bd .m)), some (.ref p1), some (.ref p2), some (.ref p3), some (.ref p4), none] ∧ Same H3 H' ∧ H3 p4 = none ∧ H' p4 = some (.dK [])) (fun b' kb => ?_) (fun σ' H' hm2 => ?_)
  · walk_at "go"
    refine ⟨hf, trivial, fun od => ?_⟩
    have k0 : upd H3 (bd .fi) (.frz od (.dK [])) (bd .fi) = some (.frz od (.dK [])) := upd_same
    have hm0 : upd H3 (bd .fi) (.frz od (.dK [])) (bd .m) = some (.dK (mkv L.now bd)) := by rw [upd_ne nmf]; exact hm
    walk_at "go"
    refine .inl ⟨_, k0, fun D hD => ?_⟩
    refine lc_it walk_keys (fun i H' => H' = upd (upd H3 (bd .fi) (.frz od (.dK []))) D (.lst [])) rfl (fun i H' _ h => ?_) (fun i x H' H'' hi => nomatch hi) (fun H' h => ?_)
    · subst h; rw [upd_ne (Ne.symm (upd_none hD).1)]; exact upd_same
    · subst h
      refine ⟨by rw [upd_ne (Ne.symm (upd_none hD).1)]; exact upd_same, ?_⟩
      rw [unlock hf hD]
      have hD3 := (upd_none hD).2
      refine ⟨D, [], [], rfl, SqL.of upd_same, .nil, fun p fp => ?_⟩
      exact kb _ _ ⟨p, rfl, (same_new hD3 _).trans (same_new fp _), (upd_none fp).2, upd_same⟩
  obtain ⟨p4, rfl, s4, f4, h4⟩ := hm2
  have R4 := R3.same s4
  have Rl4 := Rl3.same s4
  have S4 := S3.trans s4
  have h14 := s4 _ _ h13
  have h24 := s4 _ _ h23
  have h34 := s4 _ _ h3
  have n14 : p1 ≠ p4 := ne_of_none h13 f4
  have n24 : p2 ≠ p4 := ne_of_none h23 f4
  have n34 : p3 ≠ p4 := ne_of_none h3 f4
  have d1 : SameD H' 4 (.ref p1) (.ref p4) := .dic (ts := []) h14 h4 .nil (by decide) (by decide)
  have d2 : SameD H' 4 (.ref p2) (.ref (bd .fr)) := fr_same (n := 1) R4 Rl4 er hfr h24 Rl4.lfr_
  clear R3 Rl3 hm hf h13 h23 h3
  have hm4 := Rl4.lm_
  have hst4 := Rl4.lst_
  refine seq_of (fun σ' H5 => σ' = [some (.ref (ad .y)), some (.ref (bd .m)), some (.ref p1), some (.ref p2), some (.ref p3), some (.ref p4), none] ∧ Same H' H5) (fun b' kb => ?_) (fun σ' H5 hm2 => ?_)
  · refine ⟨_, rfl, _, rfl, ⟨_, _, rfl, d1, fun H5 s5 => ?_⟩⟩
    have d2' := d2.same s5
    have hm5 := s5 _ _ hm4
    walk_at "go"
    intro H6 s6
    walk_at "go"
    exact kb _ _ ⟨rfl, s5.trans s6⟩
  obtain ⟨rfl, s5⟩ := hm2
  have R5 := R4.same s5
  have Rl5 := Rl4.same s5
  have S5 := S4.trans s5
  have h15 := s5 _ _ h14
  have h25 := s5 _ _ h24
  have h35 := s5 _ _ h34
  clear d1 d2 R4 Rl4 hm4 hst4 h14 h24 h34 h4 s4
  have hm5 := Rl5.lm_
  have hst5 := Rl5.lst_
  refine seq_of (fun σ' H6 => σ' = [some (.ref (ad .y)), some (.ref (bd .m)), some (.ref p1), some (.ref p2), some (.ref p3), some (.ref p4), none] ∧ Same H5 H6) (fun b' kb => ?_) (fun σ' H6 hm2 => ?_)
  · walk_at "go"
    refine ⟨hst5, trivial, fun od => ?_⟩
    have k0 : upd H5 (bd .st) (.frz od (.dK (strK L.st))) (bd .st) = some (.frz od (.dK (strK L.st))) := upd_same
    have hm0 : upd H5 (bd .st) (.frz od (.dK (strK L.st))) (bd .m) = some (.dK (mkv L.now bd)) := by rw [upd_ne nms]; exact hm5
    have back : ∀ H', Same (upd H5 (bd .st) (.frz od (.dK (strK L.st)))) H' → Same H5 (upd H' (bd .st) (.dK (strK L.st))) := fun H' s b o e => by
      by_cases c : b = bd .st
      · rw [c, upd_same]; rw [c, hst5] at e; exact e
      · rw [upd_ne c]; exact s _ _ (by rw [upd_ne c]; exact e)
    generalize upd H5 (bd .st) (.frz od (.dK (strK L.st))) = H0 at k0 hm0 back ⊢
    have lnd : (L.st.map (·.1)).Nodup := by rw [ef]; exact nd
    have l64 : L.st.length < 64 := by rw [ef]; exact hl
    walk_at "go"
    refine .inl ⟨_, k0, fun D hD => ?_⟩
    have nD : D ≠ bd .st := fun z => by rw [z, k0] at hD; cases hD
    refine lc_it walk_keys (fun i H' => Same H0 H' ∧ H' D = some (.lst ((liveS (L.st.take i)).map V.str))) ⟨same_new hD _, upd_same⟩ (fun i H' _ h => h.1 _ _ k0) (fun i x H9 H2 hi hP hx => ?_) (fun H2 hP => ?_)
    · obtain ⟨rfl, kx, vx, hx, rfl⟩ := hx
      obtain ⟨s2, d2⟩ := hP
      unfold strK at hx
      rw [List.getElem?_map] at hx
      obtain ⟨e, he0, hee⟩ := Option.map_eq_some_iff.mp hx
      cases hee
      have he : e ∈ L.st := List.mem_of_getElem? he0
      have hm2 := s2 _ _ hm0
      have k2 := s2 _ _ k0
      have rd2 : Rd H2 (bd .st) (.dK (strK L.st)) := .inr ⟨od, k2⟩
      have vv : valV (strK L.st) (Sum.inr e.1) = some (.str e.2) := (valV_strK e.1 L.st).trans (congrArg (Option.map V.str) (lk_nd lnd he))
      have etk := List.take_add_one (l := L.st) (i := i)
      rw [he0] at etk
      have ln : ((liveS (L.st.take i)).map V.str).length < sizeLine := by
        have h1 := List.length_filter_le (fun e => !decide (e.2 = ("" : Str))) (L.st.take i)
        have h2 : (L.st.take i).length ≤ L.st.length := by rw [List.length_take]; exact Nat.min_le_right _ _
        unfold liveS
        rw [List.length_map, List.length_map, sizeLine_eq]; omega
      have el : liveS (L.st.take (i + 1)) = liveS (L.st.take i) ++ if e.2 = "" then [] else [e.1] := by
        unfold liveS
        rw [etk, List.filter_append, List.map_append]
        congr 1
        by_cases c : e.2 = ""
        · simp [c]
        · rw [if_neg c]; simp [c]
      by_cases c : e.2 = ""
      · rw [if_pos c, List.append_nil] at el
        rw [el]
        walk_at "go"
        exact d2
      · rw [if_neg c] at el
        rw [el]
        walk_at "go"
        rw [upd_same, List.map_append]; rfl
    · obtain ⟨s2, d2⟩ := hP
      refine ⟨s2 _ _ k0, ?_⟩
      have b2 := back _ s2
      have d3 : upd H2 (bd .st) (.dK (strK L.st)) D = some (.lst ((liveS (L.st.take (strK L.st).length)).map V.str)) := by rw [upd_ne nD]; exact d2
      rw [show (strK L.st).length = L.st.length from List.length_map _, List.take_length] at d3
      refine ⟨D, liveS L.st, rfl, SqL.of d3, ?_, fun zs p hp hs hn => ?_⟩
      · have h1 := List.length_filter_le (fun e => !decide (e.2 = ("" : Str))) L.st
        unfold liveS
        rw [List.length_map]; omega
      have s6 := b2.trans (same_new hn (.lst (zs.map V.str)))
      have hp6 := upd_same (H := upd H2 (bd .st) (.dK (strK L.st))) (a := p) (o := .lst (zs.map V.str))
      have h36 := s6 _ _ h35
      generalize upd (upd H2 (bd .st) (.dK (strK L.st))) p (.lst (zs.map V.str)) = H6 at s6 hp6 h36 ⊢
      rw [ef] at hp
      obtain rfl : ys = zs := RE.uniq (pm1.trans hp.symm) (RE.sorted_pw so1) (RE.sorted_pw hs)
      have lys : (ys.map V.str).length ≤ 1000000 := by
        have h1 := List.length_filter_le (fun e => !decide (e.2 = ("" : Str))) s.st
        have h2 := pm1.length_eq
        unfold liveS at h2
        rw [List.length_map] at h2
        rw [List.length_map]; omega
      have d3 : SameD H6 4 (.ref p3) (.ref p) := .lst h36 hp6 rfl lys fun i x y hx hy => by
        rw [hx] at hy
        cases hy
        rw [List.getElem?_map] at hx
        obtain ⟨z, _, rfl⟩ := Option.map_eq_some_iff.mp hx
        exact .str _ _
      walk_at "go"
      intro H7 s7
      walk_at "go"
      exact kb _ _ ⟨rfl, s6.trans s7⟩
  obtain ⟨rfl, s6⟩ := hm2
  have R6 := R5.same s6
  have Rl6 := Rl5.same s6
  have S6 := S5.trans s6
  have h16 := s6 _ _ h15
  have h26 := s6 _ _ h25
  have h36 := s6 _ _ h35
  clear R5 Rl5 hm5 hst5 h15 h25 h35 s5 s6 R6 Rl6
  have n1 : H p1 = none := f1
  have n3' : H p3 = none := n3
  have l2 : (frL s.fr.length ad).length < sizeLine := by unfold frL; rw [List.length_map, List.length_range, sizeLine_eq]; omega
  have l1 : ([] : List (Key × V)).length < sizeLine := by decide
  have l3 : (ys.map V.str).length < sizeLine := by
    have h1 := List.length_filter_le (fun e => !decide (e.2 = ("" : Str))) s.st
    have h2 := pm1.length_eq
    unfold liveS at h2
    rw [List.length_map] at h2
    rw [List.length_map, sizeLine_eq]; omega
  walk_at "go"
  intro t ft
  have sX1 := RW.same_put (p := p1) (o := .dK (putK [] (Sum.inr "more") (V.str "more"))) S6 n1
  have k2 : upd H6 p1 (.dK (putK [] (Sum.inr "more") (V.str "more"))) p2 = some (.lst (frL s.fr.length ad)) := by rw [upd_ne (Ne.symm n12)]; exact h26
  have k3 : upd H6 p1 (.dK (putK [] (Sum.inr "more") (V.str "more"))) p3 = some (.lst (ys.map V.str)) := by rw [upd_ne (Ne.symm n13)]; exact h36
  generalize upd H6 p1 (.dK (putK [] (Sum.inr "more") (V.str "more"))) = X1 at sX1 k2 k3 ft ⊢
  have sX2 := sX1.trans (same_new ft (.tup [V.str "more", V.str "field"]))
  have m2 := same_new ft (.tup [V.str "more", V.str "field"]) _ _ k2
  have m3 := same_new ft (.tup [V.str "more", V.str "field"]) _ _ k3
  generalize upd X1 t (.tup [V.str "more", V.str "field"]) = X2 at sX2 m2 m3 ⊢
  walk_at "go"
  have sX3 := RW.same_put (p := p2) (o := .lst (frL s.fr.length ad ++ [.ref t])) sX2 n2
  have S7 : Same H (upd (upd X2 p2 (.lst (frL s.fr.length ad ++ [.ref t]))) p3 (.lst (ys.map V.str ++ [V.str "more"]))) := RW.same_put sX3 n3'
  generalize upd (upd X2 p2 (.lst (frL s.fr.length ad ++ [.ref t]))) p3 (.lst (ys.map V.str ++ [V.str "more"])) = H7 at S7 ⊢
  have R7 := R.same S7
  have Rl7 := Rl.same S7
  have hm7 := Rl7.lm_
  have hs7 := Rl7.lst_
  intro N fN
  have sN := same_new fN (.lst [V.str "out", V.str "err", V.str "stderr", V.str ""])
  have hN : upd H7 N (.lst [V.str "out", V.str "err", V.str "stderr", V.str ""]) N = some (.lst [V.str "out", V.str "err", V.str "stderr", V.str ""]) := upd_same
  have R8 := R7.same sN
  have hm8 := sN _ _ hm7
  have hs8 := sN _ _ hs7
  have S8 := S7.trans sN
  generalize upd H7 N (.lst [V.str "out", V.str "err", V.str "stderr", V.str ""]) = H8 at sN hN R8 hm8 hs8 S8 ⊢
  clear hm7 hs7 R7 Rl7
  walk_at "go"
  intro D fD
  refine lc_it (walk_list (xs := [V.str "out", V.str "err", V.str "stderr", V.str ""])) (fun i H' => Same H8 H' ∧ H' D = some (.lst ((List.replicate i true).map V.bl))) ⟨same_new fD _, upd_same⟩ (fun i H' _ h => SqL.of (h.1 _ _ hN)) (fun i x H0 H9 hi hP hy0 => ?_) (fun H9 hP => ?_)
  · obtain ⟨rfl, hx⟩ := hy0
    obtain ⟨sP, dP⟩ := hP
    obtain ⟨z, rfl⟩ : ∃ z : Str, x = .str z := by
      match i, hx with
      | 0, hx => exact ⟨_, (Option.some.inj hx).symm⟩
      | 1, hx => exact ⟨_, (Option.some.inj hx).symm⟩
      | 2, hx => exact ⟨_, (Option.some.inj hx).symm⟩
      | 3, hx => exact ⟨_, (Option.some.inj hx).symm⟩
    have R9 := R8.same sP
    have hm9 := sP _ _ hm8
    have hs9 := sP _ _ hs8
    have hy9 := R9.y_
    have lR : ((List.replicate i true).map V.bl).length < sizeLine := by rw [List.length_map, List.length_replicate, sizeLine_eq]; have : i < 4 := hi; omega
    refine ⟨rfl, yes_if ?_⟩
    refine ⟨_, rfl, ad .y, _, _, rfl, hy9, rfl, _, rfl, s, ad, z, rfl, R9, ?_⟩
    have hv : valV (strK L.st) (Sum.inr z) = (s.st.lookup z).map V.str := by rw [ef]; exact valV_strK z s.st
    have hd9 : SameD H9 4 (.str (txt s.st z)) (.str (txt s.st z)) := .str _ _
    unfold txt at hd9
    unfold txt
    cases e : s.st.lookup z with
    | none =>
      rw [e] at hv hd9
      have hv : valV (strK L.st) (Sum.inr z) = none := hv
      have hd9 : SameD H9 4 (.str "") (.str "") := hd9
      walk_at "go"
      refine ⟨hd9, fun H10 s10 => ?_⟩
      have dQ := s10 _ _ dP
      walk_at "go"
      rw [upd_same, List.replicate_succ', List.map_append]; rfl
    | some u =>
      rw [e] at hv hd9
      have hv : valV (strK L.st) (Sum.inr z) = some (.str u) := hv
      have hd9 : SameD H9 4 (.str u) (.str u) := hd9
      walk_at "go"
      refine ⟨hd9, fun H10 s10 => ?_⟩
      have dQ := s10 _ _ dP
      walk_at "go"
      rw [upd_same, List.replicate_succ', List.map_append]; rfl
  · obtain ⟨sP, dP⟩ := hP
    refine ⟨D, List.replicate 4 true, rfl, SqL.of dP, ?_⟩
    exact hQ _ (S8.trans sP)
end
end K17

set_option Elab.async false
set_option linter.all false
set_option maxRecDepth 100000
set_option maxHeartbeats 0
namespace K17
open PySem PySem.Spec PyProof.Rows L2 RC
section
variable {P : Program} {w : World} {K : PySem.W.Frag} {mg : Str → Option Value} {base : Heap}
/-! ### a yard and the law's record, side by side -/
theorem putS_keys (ts : List (Str × Str)) (s t : Str) : (putS ts s t).map (·.1) = if s ∈ ts.map (·.1) then ts.map (·.1) else ts.map (·.1) ++ [s] := by
  unfold putS
  have e : ts.any (fun e => decide (e.1 = s)) = decide (s ∈ ts.map (·.1)) := by
    rw [Bool.eq_iff_iff, List.any_eq_true, decide_eq_true_eq, List.mem_map]
    exact ⟨fun ⟨e, h, z⟩ => ⟨e, h, of_decide_eq_true z⟩, fun ⟨e, h, z⟩ => ⟨e, h, decide_eq_true z⟩⟩
  rw [e]
  by_cases c : s ∈ ts.map (·.1)
  · rw [decide_eq_true c, if_pos rfl, if_pos c, List.map_map]
    refine List.map_congr_left fun e _ => ?_
    show (if e.1 = s then (e.1, t) else e).1 = e.1
    split <;> rfl
  · rw [decide_eq_false c, if_neg (fun z => nomatch z), if_neg c, List.map_append]; rfl
theorem put_nd {ts : List (Str × Str)} (h : (ts.map (·.1)).Nodup) (s t : Str) : ((putS ts s t).map (·.1)).Nodup := by
  rw [putS_keys]
  by_cases c : s ∈ ts.map (·.1)
  · rw [if_pos c]; exact h
  · rw [if_neg c]
    exact List.nodup_append.mpr ⟨h, List.nodup_cons.mpr ⟨(by simp), List.nodup_nil⟩, fun a ha b hb => by rw [List.mem_singleton.mp hb]; exact fun z => c (z ▸ ha)⟩
theorem txt_put (fs : List (Str × Str)) (k t x : Str) : txt (putS fs k t) x = if x = k then t else txt fs x := by
  unfold txt
  rw [lookup_putS]
  split <;> rfl
structure JR (K : PySem.W.Frag) (M : FS) (L : LS) (G : Hp) (cf ct : Nat) : Prop where
  st : L.st = M.st
  fr : L.fr = M.fr
  nd : (M.st.map (·.1)).Nodup
  now : M.now.natAbs < 2 ^ 63
  sl : M.st.length ≤ cf
  tx : ∀ k, (txt M.st k).length ≤ ct
  frl : M.fr.length ≤ cf
  ml : M.md.length = M.hs.length
  hl : L.hs.length = M.hs.length
  hr : ∀ (i : Nat) (d : Hd), M.hs[i]? = some d → ∃ e, L.hs[i]? = some e ∧ HRel K G d e
section
variable {M : FS} {L : LS} {G G' : Hp} {cf ct a b : Nat}
theorem JR.mono (J : JR K M L G cf ct) (h1 : cf ≤ a) (h2 : ct ≤ b) : JR K M L G a b := { J with sl := Nat.le_trans J.sl h1, tx := fun k => Nat.le_trans (J.tx k) h2, frl := Nat.le_trans J.frl h1 }
theorem JR.sameG (J : JR K M L G cf ct) (s : Same G G') : JR K M L G' cf ct := { J with hr := fun i d h => let ⟨e, h2, h3⟩ := J.hr i d h; ⟨e, h2, h3.same s⟩ }
theorem JR.wr (J : JR K M L G cf ct) (k t : Str) (ht : t.length ≤ ct + b) : JR K (M.wr k t) (L.wr k t) G (cf + 1) (ct + b) :=
  { J with
    st := by show putS L.st k t = putS M.st k t; rw [J.st]
    nd := put_nd J.nd k t
    sl := Nat.le_trans (putS_length M.st k t) (Nat.succ_le_succ J.sl)
    tx := fun x => by
      show (txt (putS M.st k t) x).length ≤ _
      rw [txt_put]
      split
      · exact ht
      · have := J.tx x; omega
    frl := Nat.le_succ_of_le J.frl }
theorem JR.fail (J : JR K M L G cf ct) (n w : Str) : JR K (M.fail n w) (L.fail n w) G (cf + 1) ct :=
  { J with
    fr := by show L.fr ++ _ = M.fr ++ _; rw [J.fr]
    sl := Nat.le_succ_of_le J.sl
    frl := by show (M.fr ++ _).length ≤ _; rw [List.length_append]; exact Nat.succ_le_succ J.frl }
theorem JR.set (J : JR K M L G cf ct) {i : Nat} {d : Hd} {e : Lh} (hi : i < M.hs.length) (h : HRel K G d e) : JR K (M.setD i d) (L.setD i e) G cf ct :=
  { J with
    ml := by show _ = (M.hs.set i d).length; rw [List.length_set]; exact J.ml
    hl := by show (L.hs.set i e).length = (M.hs.set i d).length; rw [List.length_set, List.length_set]; exact J.hl
    hr := fun j d' hj => by
      have hj : (M.hs.set i d)[j]? = some d' := hj
      show ∃ e', (L.hs.set i e)[j]? = some e' ∧ _
      by_cases c : j = i
      · subst c
        rw [List.getElem?_set_self hi] at hj
        cases hj
        exact ⟨e, List.getElem?_set_self (by rw [J.hl]; exact hi), h⟩
      · rw [List.getElem?_set_ne (Ne.symm c)] at hj
        obtain ⟨e', g1, g2⟩ := J.hr j d' hj
        exact ⟨e', (List.getElem?_set_ne (Ne.symm c)).trans g1, g2⟩ }
theorem JR.lset (J : JR K M L G cf ct) {i : Nat} {d : Hd} {e : Lh} (hd : M.hs[i]? = some d) (h : HRel K G d e) : JR K M (L.setD i e) G cf ct := by
  have hi := (List.getElem?_eq_some_iff.mp hd).1
  have := J.set hi h
  have e2 : M.setD i d = M := by
    unfold FS.setD
    have : M.hs.set i d = M.hs := by
      refine List.ext_getElem? fun j => ?_
      by_cases c : j = i
      · subst c; rw [List.getElem?_set_self hi, hd]
      · rw [List.getElem?_set_ne (Ne.symm c)]
    rw [this]
  rw [e2] at this
  exact this
theorem JR.made (J : JR K M L G cf ct) (h : Addr) (kd : Option Str) : JR K (M.mk1 h ⟨.non, "\n", kd⟩) (L.addH (lh0 kd)) G cf ct :=
  { J with
    ml := by show (M.md ++ [_]).length = (M.hs ++ [_]).length; rw [List.length_append, List.length_append, J.ml]; rfl
    hl := by show (L.hs ++ [_]).length = (M.hs ++ [_]).length; rw [List.length_append, List.length_append, J.hl]; rfl
    hr := fun j d' hj => by
      have hj : (M.hs ++ [⟨.non, "\n", kd⟩])[j]? = some d' := hj
      show ∃ e', (L.hs ++ [lh0 kd])[j]? = some e' ∧ _
      by_cases c : j < M.hs.length
      · rw [List.getElem?_append_left c] at hj
        obtain ⟨e', g1, g2⟩ := J.hr j d' hj
        exact ⟨e', by rw [List.getElem?_append_left (by rw [J.hl]; exact c)]; exact g1, g2⟩
      · rw [List.getElem?_append_right (by omega)] at hj
        have : j - M.hs.length = 0 := by
          have := (List.getElem?_eq_some_iff.mp hj).1
          simp at this; omega
        rw [this] at hj
        cases hj
        refine ⟨lh0 kd, ?_, ⟨rfl, rfl, (by show ("\n" : Str).length ≤ 10; decide), .inl rfl, rfl⟩⟩
        rw [List.getElem?_append_right (by rw [J.hl]; omega), J.hl, this]; rfl }
theorem JR.emit (J : JR K M L G cf ct) {d : Hd} {z : Str} {e : Lh} {r : Row} {o : TxO} (h : HRel K G d e) (hz : d.kd = some z) (hr : r.Ok) (ho : TxR o (lawT e.wy r)) : JR K (M.em d r.nm o) (L.em z e.en r.nm (lawT e.wy r)) G (cf + 1) (ct + 40000) := by
  have hl := lawT_len (wy := e.wy) hr
  unfold FS.em
  rw [hz]
  cases o with
  | tx t =>
    have ho : lawT e.wy r = (some (K17.tx t), none) := ho
    have hl := hl (K17.tx t) (by rw [ho])
    rw [ho]
    show JR K (M.wr z (txt M.st z ++ (K17.tx t ++ d.tm))) (L.wr z (txt L.st z ++ K17.tx t ++ e.en)) G _ _
    rw [app_assoc, h.en, J.st]
    refine J.wr _ _ ?_
    rw [len_app, len_app]
    have h1 := J.tx z
    have h2 := h.enl
    rw [h.en] at h2
    omega
  | msg =>
    have ho : lawT e.wy r = (none, some ("message" : Str)) := ho
    rw [ho]
    exact (J.fail r.nm "message").mono (by omega) (by omega)
  | fld n =>
    have ho : lawT e.wy r = (none, some ("field" : Str)) := ho
    rw [ho]
    exact (J.fail r.nm "field").mono (by omega) (by omega)
theorem JR.like (J : JR K M L G cf ct) (h : cf < 64) : LkOk M L := ⟨J.st, J.fr, Nat.lt_of_le_of_lt J.sl h, J.nd, by have := J.frl; omega⟩
end
theorem em_hs (s : FS) (d : Hd) (nm : Str) (o : TxO) : (s.em d nm o).hs = s.hs := by
  unfold FS.em
  cases d.kd with
  | none => rfl
  | some z => cases o <;> rfl
theorem lem_hs (s : LS) (z en nm : Str) (t : Option Str × Option Str) : (s.em z en nm t).hs = s.hs := by
  obtain ⟨a, b⟩ := t
  cases a <;> cases b <;> rfl
/-! ### two yards -/
structure Yd where
  M : FS
  ad : Ro → Addr
  L : LS
  bd : Lo → Addr
/-- places of a yard and its handlers stay -/
structure YSame (a b : Yd) : Prop where
  y : b.ad .y = a.ad .y
  m : b.bd .m = a.bd .m
  h : ∀ i, i < a.M.hs.length → b.ad (.h i) = a.ad (.h i)
  g : ∀ i, i < a.M.hs.length → b.bd (.h i) = a.bd (.h i)
  l : a.M.hs.length ≤ b.M.hs.length
theorem YSame.refl (a : Yd) : YSame a a := ⟨rfl, rfl, fun _ _ => rfl, fun _ _ => rfl, Nat.le_refl _⟩
/-- an entry: which yard, the handler, its record -/
def Ent (G : Hp) (a b : Yd) (p : Addr) : Prop := (∃ i, i < a.M.hs.length ∧ G p = some (.tup [.int 0, .ref (a.ad (.h i)), .ref (a.bd (.h i))])) ∨ ∃ i, i < b.M.hs.length ∧ G p = some (.tup [.int 1, .ref (b.ad (.h i)), .ref (b.bd (.h i))])
theorem Ent.mv {G G' : Hp} {a b a' b' : Yd} {p : Addr} (h : Ent G a b p) (s : Same G G') (ha : YSame a a') (hb : YSame b b') : Ent G' a' b' p := by
  rcases h with ⟨i, h1, h2⟩ | ⟨i, h1, h2⟩
  · exact .inl ⟨i, Nat.lt_of_lt_of_le h1 ha.l, by rw [ha.h i h1, ha.g i h1]; exact s _ _ h2⟩
  · exact .inr ⟨i, Nat.lt_of_lt_of_le h1 hb.l, by rw [hb.h i h1, hb.g i h1]; exact s _ _ h2⟩
structure DW (K : PySem.W.Frag) (H : Hp) (s l : Addr) (n : Nat) (a b : Yd) (G : Hp) (F MD YS RL : Addr) (ts : List Addr) (cf ct : Nat) : Prop where
  W : RS.Wd H s l n [cF K a.M a.ad, cLw a.L a.bd, cF K b.M b.ad, cLw b.L b.bd, RS.cG G, RS.cell MD (.lst (ts.map V.ref))]
  Ja : JR K a.M a.L G cf ct
  Jb : JR K b.M b.L G cf ct
  ys : G YS = some (.lst [.ref (a.ad .y), .ref (b.ad .y)])
  rl : G RL = some (.lst [.ref (a.bd .m), .ref (b.bd .m)])
  F : Fmts K G F
  en : ∀ p ∈ ts, Ent G a b p
/-- the yard of which is chosen in front; the way back -/
structure Act (K : PySem.W.Frag) (H : Hp) (s l : Addr) (n : Nat) (a b : Yd) (G : Hp) (F MD YS RL : Addr) (ts : List Addr) (cf ct : Nat) (u : Int) (c : Yd) (cs : List RS.Comp) : Prop where
  D : DW K H s l n a b G F MD YS RL ts cf ct
  W : RS.Wd H s l n (cF K c.M c.ad :: cLw c.L c.bd :: RS.cG G :: cs)
  J : JR K c.M c.L G cf ct
  ay : atI [V.ref (a.ad .y), V.ref (b.ad .y)] u = some (.ref (c.ad .y))
  am : atI [V.ref (a.bd .m), V.ref (b.bd .m)] u = some (.ref (c.bd .m))
  md : RS.cell MD (.lst (ts.map V.ref)) ∈ cs
  back : ∀ (H' : Hp) (n' : Nat) (c' : Yd) (G' : Hp) (x y : Nat), RS.Wd H' s l n' (cF K c'.M c'.ad :: cLw c'.L c'.bd :: RS.cG G' :: cs) → JR K c'.M c'.L G' x y → YSame c c' → Same G G' → cf ≤ x → ct ≤ y → ∃ a' b', DW K H' s l n' a' b' G' F MD YS RL ts x y
theorem DW.act {H : Hp} {s l F MD YS RL : Addr} {n : Nat} {a b : Yd} {G : Hp} {ts : List Addr} {cf ct : Nat} (D : DW K H s l n a b G F MD YS RL ts cf ct) (u : Int) (hu : u = 0 ∨ u = 1) : ∃ cs, Act K H s l n a b G F MD YS RL ts cf ct u (if u = 0 then a else b) cs := by
  rcases hu with rfl | rfl
  · refine ⟨[cF K b.M b.ad, cLw b.L b.bd, RS.cell MD (.lst (ts.map V.ref))], ⟨D, D.W.perm (.cons _ (.cons _ ((List.perm_append_comm (l₁ := [RS.cG G]) (l₂ := [cF K b.M b.ad, cLw b.L b.bd])).append_right [RS.cell MD (.lst (ts.map V.ref))]))), D.Ja, rfl, rfl, by simp, fun H' n' c' G' x y W' J' ys sG hx hy => ?_⟩⟩
    refine ⟨c', b, ⟨W'.perm (.cons _ (.cons _ ((List.perm_append_comm (l₁ := [cF K b.M b.ad, cLw b.L b.bd]) (l₂ := [RS.cG G'])).append_right [RS.cell MD (.lst (ts.map V.ref))]))), J', (D.Jb.sameG sG).mono hx hy, ?_, ?_, D.F.same sG, fun p hp => (D.en p hp).mv sG ys (YSame.refl b)⟩⟩
    · have e : c'.ad .y = a.ad .y := ys.y
      rw [e]; exact sG _ _ D.ys
    · have e : c'.bd .m = a.bd .m := ys.m
      rw [e]; exact sG _ _ D.rl
  · refine ⟨[cF K a.M a.ad, cLw a.L a.bd, RS.cell MD (.lst (ts.map V.ref))], ⟨D, D.W.perm ((List.perm_append_comm (l₁ := [cF K b.M b.ad, cLw b.L b.bd, RS.cG G]) (l₂ := [cF K a.M a.ad, cLw a.L a.bd])).append_right [RS.cell MD (.lst (ts.map V.ref))]), D.Jb, rfl, rfl, by simp, fun H' n' c' G' x y W' J' ys sG hx hy => ?_⟩⟩
    refine ⟨a, c', ⟨W'.perm ((List.perm_append_comm (l₁ := [cF K a.M a.ad, cLw a.L a.bd]) (l₂ := [cF K c'.M c'.ad, cLw c'.L c'.bd, RS.cG G'])).append_right [RS.cell MD (.lst (ts.map V.ref))]), (D.Ja.sameG sG).mono hx hy, J', ?_, ?_, D.F.same sG, fun p hp => (D.en p hp).mv sG (YSame.refl a) ys⟩⟩
    · have e : c'.ad .y = b.ad .y := ys.y
      rw [e]; exact sG _ _ D.ys
    · have e : c'.bd .m = b.bd .m := ys.m
      rw [e]; exact sG _ _ D.rl
end
end K17

set_option Elab.async false
set_option linter.all false
set_option maxRecDepth 100000
set_option maxHeartbeats 4000000
/-! A call of a local name that holds one of several defs, with a bound of the tokens that are out. -/
namespace RTk
open PySem PySem.Spec PyProof.Rows L2 RC
section
variable {X : Cx} {i k : Nat} {e : Expr} {es : List Expr} {tan : TAn} {x : Str} {p pos : Pos}
def callAN (i : Nat) (S : Addr → SpN → Prop) (t : TAn) : TEn := fun k σ H Q => ∃ f sp, σ[i]? = some (some (.ref f)) ∧ S f sp ∧ t k σ H fun j vs H1 => sp j vs H1 Q
theorem pen_callA {S : Addr → SpN → Prop} (A : ∀ f sp, S f sp → ∃ ps, CallK X.prog X.w X.K X.mg X.base k f ps sp) (hr : Room k X.A) (hN : X.N[i]? = some x) (hv : Vis X.env.scope x) (ha : PAn X (e :: es) tan)
    (hdb : (x == ("__debug__" : Str)) = false := by decide) (hcd : (x == ("__classdict__" : Str)) = false := by decide)
    (he : starEach (e :: es) X.env = (false, eval e X.env) :: starEach es X.env := by rfl) (hpl : (backTo pos (starEach es X.env)).any (·.1) = false := by rfl) : PEn X (.Call (.Name x p) (e :: es) [] pos) (callAN i S tan) := by
  refine ⟨fun pins s σ H Q n hn I h => ?_⟩
  obtain ⟨f, sp, hs, hS, ht⟩ := h
  obtain ⟨ps, fd, F, hb, kp⟩ := A f sp hS
  refine wpAny_Call_Name_kw (thk hn ((pe_var (pos := p) hN hv hdb hcd).run pins s σ H (fun v H1 => v = .ref f ∧ H1 = H) I ⟨.ref f, hs, rfl, rfl⟩) fun u s0 n0 ⟨v, H1, I1, r1, q1⟩ => ?_)
  obtain ⟨rfl, rfl⟩ := q1
  cases r1
  refine PySem.W.callWith_K (h₀ := X.base) I.ok.mod.kin kp (thn (ha.run pos pins s0 σ _ _ n n0 I1 ht) fun us s1 ⟨j, hj, vs, H1, I1, r, q⟩ => ⟨I1.kIn, ?_⟩) he hpl
  have hl : (us ++ []).length = ps.length := by rw [List.append_nil, ← r.length]; exact F.len _ _ _ _ q
  have hb2 := hb s1 us I1.kIn hl
  rw [List.append_nil] at hb2
  refine wpAny_call (codeAny_mono (F.run X.A X.stack s1 H1 ⟨us, []⟩ us vs Q j hj hr I1.env0 hb2 r q) fun z s2 hz => ?_)
  cases z with
  | error e => exact pass0 pins σ H1 s1 e s2 I1 hz
  | ok fl =>
    cases fl with
    | ret u =>
      obtain ⟨i, hi, hz⟩ := hz
      exact ⟨i, hi, I1.after hz⟩
    | next => exact False.elim hz
    | brk => exact False.elim hz
    | cont => exact False.elim hz
end
end RTk

set_option Elab.async false
set_option linter.all false
set_option maxRecDepth 100000
set_option maxHeartbeats 0

namespace K17
open PySem PySem.Spec PyProof.Rows L2 RC
section
variable {P : Program} {w : World} {K : PySem.W.Frag} {mg : Str → Option Value} {base : Heap}
/-! ### a turn -/
def bodyFor : Stmt → List Stmt
  | .For _ _ b _ _ => b
  | _ => []
abbrev b_turn : List Stmt := bodyFor ((defBody s_law).getD 4 (.Pass ⟨0, 0, 0, 0⟩))
abbrev b_make : List Stmt := bodyFor ((defBody s_law).getD 3 (.Pass ⟨0, 0, 0, 0⟩))
abbrev sgT (a s YS RL F MD : Addr) (o6 o7 o8 o9 o10 o11 o12 : Option V) : L2.St := [some (.ref a), some (.ref s), some (.ref YS), some (.ref RL), some (.ref F), some (.ref MD), o6, o7, o8, o9, o10, o11, o12]
def toS (K : PySem.W.Frag) (f : Addr) (sp : RTk.SpN) : Prop := (f = He.ga K "_law_to_stream" ∧ sp = spLToStream K) ∨ (f = He.ga K "_law_to_none" ∧ sp = spLToNone K)
theorem turn (T : Txt P w K mg) {f : Addr} {cdv : Value} {A : Around} {outer : List Env} {st0 : Shared} {E : XK} {H : Hp} (hr : Room 14 (A.deeper (envOfC "law" (defScope s_law) st0.heap.objs.size f cdv)))
    (c__law_draw : Callable P w K mg base 1 (He.ga K "_law_draw") ["_law_stream", "_law_many"] [] spDraw)
    (c__law_pick : Callable P w K mg base 2 (He.ga K "_law_pick") ["_law_stream", "_law_some"] [] (spPick K))
    (c__law_deed : Callable P w K mg base 6 (He.ga K "_law_deed") ["_law_stream", "_law_handler_here", "_law_h", "_law_formatters_here"] [] (spLDeed K))
    (c__law_row : RTk.CallK P w K mg base 3 (He.ga K "_law_row") ["_law_stream"] (spLRow K))
    (c__law_to_stream : RTk.CallK P w K mg base 3 (He.ga K "_law_to_stream") ["_law_m", "_law_h", "_law_row_here"] (spLToStream K))
    (c__law_to_none : RTk.CallK P w K mg base 1 (He.ga K "_law_to_none") ["_law_m", "_law_h", "_law_row_here"] (spLToNone K))
    (c__law_record : Callable P w K mg base 7 (He.ga K "_law_record") ["_law_yard_here", "_law_row_here"] [] (spLRec K))
    (c__law_is_like : Callable P w K mg base 6 (He.ga K "_law_is_like") ["_law_yard_here", "_law_m"] [] (spLLike K))
    (c_StreamHandler_handle : Callable P w K mg base 12 (He.ma K (He.ga K "StreamHandler") "handle") ["self", "record"] [] (spHandle K true))
    (c_NullHandler_handle : Callable P w K mg base 12 (He.ma K (He.ga K "NullHandler") "handle") ["self", "record"] [] (spHandle K false)) :
    ∃ t, PSs (cxOf CX0 P w K mg base nm_law "law" (defScope s_law) f cdv A outer st0 H E).nox b_turn t ∧ ∀ {a s l F MD YS RL : Addr} {n c : Nat} {A B : Yd} {G : Hp} {ts : List Addr} (H5 : Hp) (D' : Ends), DW K H5 s l n A B G F MD YS RL ts (c + 1) (50000 * (c + 1)) → ts ≠ [] → ts.length ≤ 20 → c < 24 → n ≤ 800000 →
      ∀ o6 o7 o8 o9 o10 o11 o12, (∀ σ H' n' A' B' G', n' ≤ n + 20 → DW K H' s l n' A' B' G' F MD YS RL ts (c + 2) (50000 * (c + 2)) → (∃ o7 o9 o10 o11 o12, σ = sgT a s YS RL F MD o6 o7 o8 o9 o10 o11 o12) → D'.nx σ H') → t D' (sgT a s YS RL F MD o6 o7 o8 o9 o10 o11 o12) H5 := by
  have hS : ∀ f sp, toS K f sp → ∃ ps, RTk.CallK P w K mg base 3 f ps sp := fun f sp h => by
    rcases h with ⟨rfl, rfl⟩ | ⟨rfl, rfl⟩
    · exact ⟨_, c__law_to_stream⟩
    · exact ⟨_, c__law_to_none.up (by decide)⟩
  refine ⟨_, (pss_cons (ps_asg (pe_fn T.g__law_pick c__law_pick (hr.mono (by first | decide | exact Nat.le_refl _)) (by rfl) (pa_cons (pv 1) (pa_cons (pv 5) pa_nil))) (RG.pg_tupK (K := K) (n := 3) (by rfl) (pgs_cons (pg_name (i := 7) sc_law.nd rfl (by first | exact Or.inl rfl | exact Or.inr rfl)) (pgs_cons (pg_name (i := 9) sc_law.nd rfl (by first | exact Or.inl rfl | exact Or.inr rfl)) (pgs_cons (pg_name (i := 10) sc_law.nd rfl (by first | exact Or.inl rfl | exact Or.inr rfl)) pgs_nil)))))
      (pss_cons (ps_if (pt_cmpR op_eq (pe_fn T.g__law_draw c__law_draw (hr.mono (by first | decide | exact Nat.le_refl _)) (by rfl) (pa_cons (pv 1) (pa_cons pe_int pa_nil))) pe_int (nomark _)) (pss_one (ps_if (pt_not (pt_val (pe_fn T.g__law_deed c__law_deed (hr.mono (by first | decide | exact Nat.le_refl _)) (by rfl) (pa_cons (pv 1) (pa_cons (pv 9) (pa_cons (pv 10) (pa_cons (pv 4) pa_nil))))))) (pss_one (ps_ret pe_bl)) pss_nil)) (RTk.pss_off (RTk.psn_cons (RTk.psn_set (i := 11) sc_law.nd rfl (by first | exact Or.inl rfl | exact Or.inr rfl) (RTk.pen_fn T.g__law_row c__law_row (hr.mono (by first | decide | exact Nat.le_refl _)) (by rfl) (RTk.PAn.of (pa_cons (pv 1) pa_nil))))
      (RTk.psn_cons (RTk.PSn.of (ps_if (pt_cmpR op_notBl (RA.PE.or (pe_mt T.c_StreamHandler T.m_StreamHandler_handle c_StreamHandler_handle (hr.mono (by first | decide | exact Nat.le_refl _)) (pv 9) (pa_cons (pe_fn T.g__law_record c__law_record (hr.mono (by first | decide | exact Nat.le_refl _)) (by rfl) (pa_cons (pe_ix ix_list (pv 2) (pv 7) (fun _ _ => rfl)) (pa_cons (pv 11) pa_nil))) pa_nil)) (pe_mt T.c_NullHandler T.m_NullHandler_handle c_NullHandler_handle (hr.mono (by first | decide | exact Nat.le_refl _)) (pv 9) (pa_cons (pe_fn T.g__law_record c__law_record (hr.mono (by first | decide | exact Nat.le_refl _)) (by rfl) (pa_cons (pe_ix ix_list (pv 2) (pv 7) (fun _ _ => rfl)) (pa_cons (pv 11) pa_nil))) pa_nil))) pe_bl (nomark _)) (pss_one (ps_ret pe_bl)) pss_nil))
      (RTk.psn_cons (RTk.PSn.of (ps_set (i := 12) sc_law.nd rfl (by first | exact Or.inl rfl | exact Or.inr rfl) (pe_dget (hu_of hr) (pe_disp (pps_cons pe_str (pe_glob (v := .ref _) (by rfl) T.g__law_to_stream rfl) (pps_cons pe_str (pe_glob (v := .ref _) (by rfl) T.g__law_to_none rfl) pps_nil)) (by rfl) (by rfl) (fun z => by cases z) (by decide)) (pe_dget (hu_of hr) (pv 10) pe_str (fun _ _ => rfl)) (fun _ _ => rfl))))
      (RTk.psn_cons (RTk.psn_expr (RTk.pen_callA (i := 12) (S := toS K) hS (hr.mono (by first | decide | exact Nat.le_refl _)) rfl (by first | exact Or.inl rfl | exact Or.inr rfl) (RTk.PAn.of (pa_cons (pe_ix ix_list (pv 3) (pv 7) (fun _ _ => rfl)) (pa_cons (pv 10) (pa_cons (pv 11) pa_nil))))))
      (RTk.PSsn.of pss_nil)))))))
      (pss_one (ps_if (pt_not (pt_val (pe_callB (cr_all rfl) (by rfl) T.b_all (by decide +kernel) (pa_cons (pe_lc (own := [("_law_k", 6)]) (by rfl) sc_law.nd (pi_range1 (by rfl) T.b_range (pa_cons pe_int pa_nil)) (blkOk_by (own := [("_law_k", 6)]) (N := nm_law) (sc := defScope s_law) (by decide +kernel)) (fun _ _ _ _ _ => (pg_name (i := 6) sc_law.nd rfl (by first | exact Or.inl rfl | exact Or.inr rfl))) (fun _ _ _ _ _ => pts_nil) (fun _ _ _ _ _ => (pe_fn T.g__law_is_like c__law_is_like (hr.mono (by first | decide | exact Nat.le_refl _)) (by rfl) (pa_cons (pe_ix (ixK (K := K) rIxL ix_list) (pv 2) (pv 6) (fun _ _ => rfl)) (pa_cons (pe_ix (ixK (K := K) rIxL ix_list) (pv 3) (pv 6) (fun _ _ => rfl)) pa_nil))))) pa_nil)))) (pss_one (ps_ret pe_bl)) pss_nil)))), ?_⟩
  walk_at "in"
  intro a s l F MD YS RL n c A B G ts H5 D' D5 hne htl hc hn o6 o7 o8 o9 o10 o11 o12 k'
  refine seq_of (fun σ' H6 => ∃ (u : Int) (i : Nat) (C : Yd) (cs : List RS.Comp), Act K H6 s l (n + 1) A B G F MD YS RL ts (c + 1) (50000 * (c + 1)) u C cs ∧ i < C.M.hs.length ∧ σ' = sgT a s YS RL F MD o6 (some (.int u)) o8 (some (.ref (C.ad (.h i)))) (some (.ref (C.bd (.h i)))) o11 o12) (fun b' kb => ?_) (fun σ' H6 hm => ?_)
  · have WM : RS.Wd H5 s l n [RS.cell MD (.lst (ts.map V.ref)), cF K A.M A.ad, cLw A.L A.bd, cF K B.M B.ad, cLw B.L B.bd, RS.cG G] := D5.W.perm (List.perm_append_comm (l₁ := [RS.cell MD (.lst (ts.map V.ref))]) (l₂ := [cF K A.M A.ad, cLw A.L A.bd, cF K B.M B.ad, cLw B.L B.bd, RS.cG G]))
    have hMD := WM.c0
    obtain ⟨mn1, mn2⟩ := WM.stmNe
    have l1 : 1 ≤ (ts.map V.ref).length := by rw [List.length_map]; exact Nat.one_le_iff_ne_zero.mpr fun z => hne (List.length_eq_zero_iff.mp z)
    refine ⟨_, rfl, _, rfl, s, l, MD, n, _, rfl, D5.W.stm, by omega, mn1, mn2, hMD, l1, by rw [List.length_map]; omega, fun H6 x oa sa hx => ?_⟩
    obtain ⟨p, hp, rfl⟩ := List.mem_map.mp hx
    have D6 : DW K H6 s l (n + 1) A B G F MD YS RL ts (c + 1) (50000 * (c + 1)) := { D5 with W := D5.W.old oa sa }
    clear WM hMD mn1 mn2 D5 oa sa hx
    rcases D6.en p hp with ⟨i, hi, hG⟩ | ⟨i, hi, hG⟩
    · obtain ⟨cs, AC⟩ := D6.act 0 (.inl rfl)
      rw [if_pos rfl] at AC
      have hpH : H6 p = _ := D6.W.st (by simp) _ _ hG
      walk_at "go"
      exact kb _ _ ⟨0, i, A, cs, AC, hi, rfl⟩
    · obtain ⟨cs, AC⟩ := D6.act 1 (.inr rfl)
      rw [if_neg (by decide)] at AC
      have hpH : H6 p = _ := D6.W.st (by simp) _ _ hG
      walk_at "go"
      exact kb _ _ ⟨1, i, B, cs, AC, hi, rfl⟩
  obtain ⟨u, i, C, cs, AC, hi, rfl⟩ := hm
  clear D5
  obtain ⟨d, hd⟩ : ∃ d, C.M.hs[i]? = some d := ⟨C.M.hs[i], by simp [hi]⟩
  obtain ⟨e, he, hr6⟩ := AC.J.hr i d hd
  refine seq_of (fun σ' H7 => ∃ n' A' B' G', n' ≤ n + 15 ∧ DW K H7 s l n' A' B' G' F MD YS RL ts (c + 2) (50000 * (c + 2)) ∧ ∃ o11 o12, σ' = sgT a s YS RL F MD o6 (some (.int u)) o8 (some (.ref (C.ad (.h i)))) (some (.ref (C.bd (.h i)))) o11 o12) (fun b' kb => ?_) (fun σ' H7 hm => ?_)
  · refine ⟨_, rfl, s, l, n + 1, 3, rfl, AC.W.stm, by omega, by decide, by decide, fun H7 q o7' st7 q0 q1 => ?_⟩
    have W7 := AC.W.old o7' st7
    clear o7' st7
    by_cases qz : q = 0
    · subst qz
      have e0 : decide (V.int 0 = V.int 0) = true := decide_eq_true rfl
      refine ⟨rfl, _, rfl, iteT' (by rw [e0]) ?_⟩
      refine ⟨_, rfl, _, rfl, _, rfl, _, rfl, s, l, F, n + 1 + 1, i, C.M, C.ad, C.L, C.bd, G, cs, d, e, rfl, W7, hd, he, hr6, AC.D.F, by omega, fun H8 d' e' W8 hr8 => ?_⟩
      obtain ⟨A', B', D8⟩ := AC.back H8 (n + 1 + 1 + 3) ⟨C.M.setD i d', C.ad, C.L.setD i e', C.bd⟩ G (c + 2) (50000 * (c + 2)) W8 ((AC.J.set hi hr8).mono (by omega) (by omega)) ⟨rfl, rfl, fun _ _ => rfl, fun _ _ => rfl, by show _ ≤ (C.M.hs.set i d').length; rw [List.length_set]; exact Nat.le_refl _⟩ (Same.refl G) (by omega) (by omega)
      walk_at "go"
      exact kb _ _ ⟨_, A', B', G, by omega, D8, _, _, rfl⟩
    · have e0 : decide (V.int q = V.int 0) = false := decide_eq_false fun z => qz (V.int.inj z)
      refine ⟨rfl, _, rfl, iteF' (by rw [e0]) ?_⟩
      refine seqn_of (fun j σ' H8 => ∃ (G' : Hp) (p : Addr) (r : Row), RS.Wd H8 s l (n + 5) (cF K C.M C.ad :: cLw C.L C.bd :: RS.cG G' :: cs) ∧ Same G G' ∧ RowAt K j G' p r ∧ r.Ok ∧ σ' = sgT a s YS RL F MD o6 (some (.int u)) o8 (some (.ref (C.ad (.h i)))) (some (.ref (C.bd (.h i)))) (some (.ref p)) o12) (fun b2 kb2 => ?_) (fun j σ' H8 hm => ?_)
      · dsimp only [RTk.sqN, RTk.lS, RTk.Endn.at, RTk.asgN]
        refine ⟨_, rfl, s, l, n + 1 + 1, rfl, W7.stm, by omega, fun j2 H8 p2 r oa sa hrow hok => ?_⟩
        obtain ⟨W8, sG, hnw⟩ := W7.up2.layOld oa sa
        exact kb2 _ _ _ ⟨_, p2, r, W8.dn2, sG, hrow.same fun b u e => hnw b u (nw_free e) (rst_same _ _ e), hok, rfl⟩
      obtain ⟨G2, p2, r, W8, sG, hrow, hok, rfl⟩ := hm
      clear W7
      have hYS : H8 YS = some (.lst [.ref (A.ad .y), .ref (B.ad .y)]) := W8.g2 _ _ (sG _ _ AC.D.ys)
      obtain ⟨o, ho, hx⟩ := law_tx (now := C.M.now) (ln := lvName (nms0 K) r.lv) hok hr6.wy
      have J8 := AC.J.sameG sG
      have hsz : SzOk C.M d o := ⟨by have := AC.J.sl; omega, by have := AC.J.frl; omega, by rw [← hr6.en]; have := hr6.enl; omega, fun z => Nat.le_trans (AC.J.tx z) (by omega), fun t z => by
        subst z
        have hx : lawT e.wy r = (some (tx t), none) := hx
        have := lawT_len (wy := e.wy) hok (tx t) (by rw [hx])
        rw [tx_len] at this
        omega⟩
      refine seqn_of (fun j2 σ' H9 => j = j2 ∧ ∃ (G' : Hp) (ad' : Ro → Addr), RS.Wd H9 s l (n + 5) (cF K (C.M.em d r.nm o) ad' :: cLw C.L C.bd :: RS.cG G' :: cs) ∧ Same G2 G' ∧ Fx C.ad ad' ∧ σ' = sgT a s YS RL F MD o6 (some (.int u)) o8 (some (.ref (C.ad (.h i)))) (some (.ref (C.bd (.h i)))) (some (.ref p2)) o12) (fun b2 kb2 => ?_) (fun j2 σ' H9 hm => ?_)
      · dsimp only [RTk.sqN, RTk.lS, RTk.Endn.at, RTk.asgN]
        have RM8 : YR K C.M C.ad H8 := W8.hd
        have hand : ∀ (x : Addr) (H9 : Hp) (Q2 : VK), Same H8 H9 → RcAt K (nw H8 H9) x (rcOf C.M.now (lvName (nms0 K) r.lv) r) → (∀ ad' H10 G', RS.Wd H10 s l (n + 5) (cF K (C.M.em d r.nm o) ad' :: cLw C.L C.bd :: RS.cG G' :: cs) → Same G2 G' → Fx C.ad ad' → Q2 (.bl true) H10) → spHandle K d.kd.isSome [.ref (C.ad (.h i)), .ref x] H9 Q2 E0 := fun x H9 Q2 s9 hrc k => by
          obtain ⟨W9, sG2, hnw⟩ := W8.up2.layAll s9
          have hrc3 := hrc.same (fun b u e => hnw b u (nw_free e) (rst_same _ _ e))
          have W9 := W9.dn2
          generalize gAdd G2 H8 H9 = G3 at W9 sG2 hrc3
          have W9' : RS.Wd H9 s l (n + 5) (cF K C.M C.ad :: RS.cG G3 :: cLw C.L C.bd :: cs) := W9.sw1
          refine ⟨C.M, C.ad, i, d, G3, x, rcOf C.M.now (lvName (nms0 K) r.lv) r, foW e.wy, o, rfl, W9.hd, hd, rfl, Ap.of W9', ((hr6.same sG).same sG2).fo, hrc3, rcOf_ok K AC.J.now hok, ho, hsz, fun ad' H10 s' R2 M2 X2 e9 => ?_⟩
          have e9 : s' = C.M.em d r.nm o := e9
          subst e9
          exact k ad' H10 G3 (W9.mv (c' := cF K (C.M.em d r.nm o) ad') R2 M2) sG2 X2
        obtain ⟨fv, tm, kd⟩ := d
        cases kd with
        | some z =>
          have hsH := RM8.hS_ hd
          refine .inl ⟨_, rfl, _, _, _, rfl, hsH, rfl, ?_⟩
          refine ⟨_, rfl, _, rfl, YS, _, u, _, rfl, rfl, SqL.of hYS, AC.ay, _, rfl, ?_⟩
          refine ⟨C.M, C.ad, p2, j, r, rfl, RM8, hrow.same (W8.st (by simp)), hok, fun H9 x s9 hrc => ?_⟩
          dsimp only [tNil]
          refine hand x H9 _ s9 hrc (fun ad' H10 G' W10 sG2 X2 => ?_)
          walk_at "go"
          exact kb2 _ _ _ ⟨rfl, G', ad', W10, sG2, X2, rfl⟩
        | none =>
          have hsH := RM8.hN_ hd
          refine .inr ⟨_, rfl, _, _, _, rfl, hsH, rfl, ?_⟩
          refine ⟨_, rfl, _, rfl, YS, _, u, _, rfl, rfl, SqL.of hYS, AC.ay, _, rfl, ?_⟩
          refine ⟨C.M, C.ad, p2, j, r, rfl, RM8, hrow.same (W8.st (by simp)), hok, fun H9 x s9 hrc => ?_⟩
          dsimp only [tNil]
          refine hand x H9 _ s9 hrc (fun ad' H10 G' W10 sG2 X2 => ?_)
          walk_at "go"
          exact kb2 _ _ _ ⟨rfl, G', ad', W10, sG2, X2, rfl⟩
      obtain ⟨rfl, G3, ad9, W9, sG2, X9, rfl⟩ := hm
      clear W8 hYS
      have Rl9 : LR C.L C.bd H9 := W9.up1.hd
      have hh9 := Rl9.lh_ he
      obtain ⟨wy, en, kd2, gt⟩ := e
      obtain rfl : kd2 = d.kd := hr6.kd
      refine seqn_of (fun j2 σ' H10 => j = j2 ∧ RS.Wd H10 s l (n + 5) (cF K (C.M.em d r.nm o) ad9 :: cLw C.L C.bd :: RS.cG G3 :: cs) ∧ σ' = sgT a s YS RL F MD o6 (some (.int u)) o8 (some (.ref (C.ad (.h i)))) (some (.ref (C.bd (.h i)))) (some (.ref p2)) (some (.ref (if d.kd.isSome = true then He.ga K "_law_to_stream" else He.ga K "_law_to_none")))) (fun b2 kb2 => ?_) (fun j2 σ' H10 hm => ?_)
      · dsimp only [RTk.sqN, RTk.lS, RTk.Endn.at, RTk.asgN]
        obtain ⟨fv, tm, kd⟩ := d
        cases kd with
        | some z =>
          dsimp only [tAsg, tDGet, tDisp]
          intro D fD
          have W10 := W9.new (o := .dK (mergeK [] [((Sum.inr "stream" : Key), V.ref (He.ga K "_law_to_stream")), (Sum.inr "null", .ref (He.ga K "_law_to_none"))])) fD
          have hh10 := same_new fD (.dK (mergeK [] [((Sum.inr "stream" : Key), V.ref (He.ga K "_law_to_stream")), (Sum.inr "null", .ref (He.ga K "_law_to_none"))])) _ _ hh9
          refine ⟨upd_same, [(Sum.inr "stream", .ref (He.ga K "_law_to_stream")), (Sum.inr "null", .ref (He.ga K "_law_to_none"))], rfl, by show 2 ≤ 15; decide, ?_⟩
          rw [upd_upd]
          refine ⟨_, rfl, _, _, rfl, RW.dget_s hh10 rfl, _, _, rfl, RW.dget_s upd_same rfl, ?_⟩
          exact kb2 _ _ _ ⟨rfl, W10.tl, rfl⟩
        | none =>
          dsimp only [tAsg, tDGet, tDisp]
          intro D fD
          have W10 := W9.new (o := .dK (mergeK [] [((Sum.inr "stream" : Key), V.ref (He.ga K "_law_to_stream")), (Sum.inr "null", .ref (He.ga K "_law_to_none"))])) fD
          have hh10 := same_new fD (.dK (mergeK [] [((Sum.inr "stream" : Key), V.ref (He.ga K "_law_to_stream")), (Sum.inr "null", .ref (He.ga K "_law_to_none"))])) _ _ hh9
          refine ⟨upd_same, [(Sum.inr "stream", .ref (He.ga K "_law_to_stream")), (Sum.inr "null", .ref (He.ga K "_law_to_none"))], rfl, by show 2 ≤ 15; decide, ?_⟩
          rw [upd_upd]
          refine ⟨_, rfl, _, _, rfl, RW.dget_s hh10 rfl, _, _, rfl, RW.dget_s upd_same rfl, ?_⟩
          exact kb2 _ _ _ ⟨rfl, W10.tl, rfl⟩
      obtain ⟨rfl, W10, rfl⟩ := hm
      clear W9 Rl9 hh9
      have hRL : H10 RL = some (.lst [.ref (A.bd .m), .ref (B.bd .m)]) := W10.g2 _ _ (sG2 _ _ (sG _ _ AC.D.rl))
      have Rl10 : LR C.L C.bd H10 := W10.up1.hd
      have A10 : LAp C.L C.bd G3 H10 := LAp.of W10.tl
      have hrow3 : RowAt K j G3 p2 r := hrow.same sG2
      have fin : ∀ (k2 : Nat) (H' : Hp) (L' : LS) (bd' : Lo → Addr), RS.Wd H' s l (n + 5) (cLw L' bd' :: cF K (C.M.em d r.nm o) ad9 :: RS.cG G3 :: cs) → JR K (C.M.em d r.nm o) L' G3 (c + 2) (50000 * (c + 2)) → Lx C.bd bd' → b' D' (sgT a s YS RL F MD o6 (some (.int u)) o8 (some (.ref (C.ad (.h i)))) (some (.ref (C.bd (.h i)))) (some (.ref p2)) (some (.ref (if d.kd.isSome = true then He.ga K "_law_to_stream" else He.ga K "_law_to_none")))) H' := fun k2 H' L' bd' W' J' X' => by
        obtain ⟨A', B', D8⟩ := AC.back H' (n + 5) ⟨C.M.em d r.nm o, ad9, L', bd'⟩ G3 (c + 2) (50000 * (c + 2)) W'.up1 J' ⟨X9 .y (fun _ h => nomatch h) (fun _ h => nomatch h), X' .m (fun _ h => nomatch h) (fun _ h => nomatch h), fun i _ => X9 (.h i) (fun _ h => nomatch h) (fun _ h => nomatch h), fun i _ => X' (.h i) (fun _ h => nomatch h) (fun _ h => nomatch h), by show _ ≤ (C.M.em d r.nm o).hs.length; rw [em_hs]; exact Nat.le_refl _⟩ (sG.trans sG2) (by omega) (by omega)
        exact kb _ _ ⟨_, A', B', G3, by omega, D8, _, _, rfl⟩
      have Jm : JR K C.M C.L G3 (c + 1) (50000 * (c + 1)) := J8.sameG sG2
      dsimp only [RTk.sqN, RTk.lS, RTk.Endn.at, RTk.asgN, RTk.lA]
      obtain ⟨fv, tm, kd⟩ := d
      cases kd with
      | some z =>
        refine ⟨He.ga K "_law_to_stream", spLToStream K, rfl, .inl ⟨rfl, rfl⟩, ?_⟩
        refine ⟨_, rfl, _, rfl, RL, _, u, _, rfl, rfl, SqL.of hRL, AC.am, _, rfl, _, rfl, ?_⟩
        refine ⟨C.L, C.bd, i, wy, en, z, gt, G3, p2, r, rfl, Rl10, he, hr6.wy, A10, hrow3, hok, ⟨by rw [Jm.st]; have := Jm.sl; omega, by rw [Jm.fr]; have := Jm.frl; omega, by have := hr6.enl; show en.length ≤ 1000; have h2 : en.length ≤ 10 := this; omega, fun x => by rw [Jm.st]; exact Nat.le_trans (Jm.tx x) (by omega)⟩, fun k2 bd' H' s' R' M' X' e9 => ?_⟩
        subst e9
        exact fin k2 H' _ bd' (W10.up1.mv (c' := cLw (C.L.em z en r.nm (lawT wy r)) bd') R' M') ((Jm.emit (((hr6.same sG).same sG2)) rfl hok hx).mono (by omega) (by omega)) X'
      | none =>
        refine ⟨He.ga K "_law_to_none", spLToNone K, rfl, .inr ⟨rfl, rfl⟩, ?_⟩
        refine ⟨_, rfl, _, rfl, RL, _, u, _, rfl, rfl, SqL.of hRL, AC.am, _, rfl, _, rfl, ?_⟩
        refine ⟨C.L, C.bd, i, wy, en, gt, _, p2, rfl, Rl10, he, fun k2 H' s' R' M' e9 => ?_⟩
        subst e9
        have h9 := (hr6.same sG).same sG2
        exact fin k2 H' _ C.bd (W10.up1.mv (c' := cLw (C.L.setD i ⟨wy, en, none, some p2⟩) C.bd) R' M') ((show JR K C.M (C.L.setD i ⟨wy, en, none, some p2⟩) G3 (c + 1) (50000 * (c + 1)) from Jm.lset hd (e := ⟨wy, en, none, some p2⟩) ⟨rfl, h9.en, h9.enl, h9.wy, h9.fo⟩).mono (by omega) (by omega)) (Lx.refl _)
  obtain ⟨n7, A7, B7, G7, hn7, D7, o11', o12', rfl⟩ := hm
  clear AC he hr6 hd
  have hYS : H7 YS = _ := D7.W.st (by simp) _ _ D7.ys
  have hRL : H7 RL = _ := D7.W.st (by simp) _ _ D7.rl
  walk_at "go"
  intro D fD
  have hYS1 := fun (H9 : Hp) (s9 : Same H7 H9) => s9 _ _ hYS
  have hRL1 := fun (H9 : Hp) (s9 : Same H7 H9) => s9 _ _ hRL
  refine lc_it walk_range (fun i H' => Same H7 H' ∧ H' D = some (.lst ((List.replicate i true).map V.bl))) ⟨same_new fD _, upd_same⟩ (fun _ _ _ _ => trivial) (fun j x H0 H9 hj hP hy0 => ?_) (fun H9 hP => ?_)
  · obtain ⟨rfl, rfl⟩ := hy0
    obtain ⟨sP, dP⟩ := hP
    have lR : ((List.replicate j true).map V.bl).length < sizeLine := by rw [List.length_map, List.length_replicate, sizeLine_eq]; have : j < (2 : Int).toNat := hj; have e : (2 : Int).toNat = 2 := rfl; omega
    have hj2 : j = 0 ∨ j = 1 := by have : j < (2 : Int).toNat := hj; have e : (2 : Int).toNat = 2 := rfl; omega
    refine ⟨rfl, yes_if ?_⟩
    rcases hj2 with rfl | rfl
    · refine ⟨_, rfl, _, rfl, YS, _, _, _, rfl, rfl, SqL.of (hYS1 _ sP), rfl, ?_⟩
      refine ⟨_, rfl, _, rfl, RL, _, _, _, rfl, rfl, SqL.of (hRL1 _ sP), rfl, ?_⟩
      have W9 := D7.W.same sP
      refine ⟨A7.M, A7.ad, A7.L, A7.bd, rfl, W9.hd, W9.up1.hd, D7.Ja.like (by omega), fun H10 s10 => ?_⟩
      refine ⟨_, s10 _ _ dP, lR, (fun b o hb => ?_), ?_⟩
      · rw [upd_ne (fun z => by rw [z, fD] at hb; cases hb)]; exact s10 _ _ (sP _ _ hb)
      · rw [upd_same, List.replicate_succ', List.map_append]; rfl
    · refine ⟨_, rfl, _, rfl, YS, _, _, _, rfl, rfl, SqL.of (hYS1 _ sP), rfl, ?_⟩
      refine ⟨_, rfl, _, rfl, RL, _, _, _, rfl, rfl, SqL.of (hRL1 _ sP), rfl, ?_⟩
      have W9 := D7.W.same sP
      refine ⟨B7.M, B7.ad, B7.L, B7.bd, rfl, W9.up2.hd, W9.up3.hd, D7.Jb.like (by omega), fun H10 s10 => ?_⟩
      refine ⟨_, s10 _ _ dP, lR, (fun b o hb => ?_), ?_⟩
      · rw [upd_ne (fun z => by rw [z, fD] at hb; cases hb)]; exact s10 _ _ (sP _ _ hb)
      · rw [upd_same, List.replicate_succ', List.map_append]; rfl
  · obtain ⟨sP, dP⟩ := hP
    refine ⟨D, List.replicate 2 true, rfl, SqL.of dP, ?_⟩
    walk_at "go"
    exact k' _ _ n7 A7 B7 G7 (by omega) { D7 with W := D7.W.same sP } ⟨_, _, _, _, _, rfl⟩
end
end K17

set_option Elab.async false
set_option linter.all false
set_option maxRecDepth 100000
set_option maxHeartbeats 0

namespace K17
open PySem PySem.Spec PyProof.Rows L2 RC
section
variable {P : Program} {w : World} {K : PySem.W.Frag} {mg : Str → Option Value} {base : Heap}
/-! ### the handlers made -/
/-- the yard of which is chosen in front, the list of entries behind -/
structure ActM (K : PySem.W.Frag) (H : Hp) (s l : Addr) (n : Nat) (a b : Yd) (G : Hp) (F MD YS RL : Addr) (ts : List Addr) (cf ct : Nat) (u : Int) (c : Yd) (o1 o2 : RS.Comp) : Prop where
  W : RS.Wd H s l n [cF K c.M c.ad, cLw c.L c.bd, RS.cG G, o1, o2, RS.cell MD (.lst (ts.map V.ref))]
  J : JR K c.M c.L G cf ct
  ay : atI [V.ref (a.ad .y), V.ref (b.ad .y)] u = some (.ref (c.ad .y))
  am : atI [V.ref (a.bd .m), V.ref (b.bd .m)] u = some (.ref (c.bd .m))
  le : c.M.hs.length ≤ a.M.hs.length + b.M.hs.length
  back : ∀ (H' : Hp) (n' : Nat) (c' : Yd) (G' : Hp) (ts' : List Addr), RS.Wd H' s l n' [cF K c'.M c'.ad, cLw c'.L c'.bd, RS.cG G', o1, o2, RS.cell MD (.lst (ts'.map V.ref))] → JR K c'.M c'.L G' cf ct → YSame c c' → Same G G' → (∀ p ∈ ts', p ∈ ts ∨ ∃ i, i < c'.M.hs.length ∧ G' p = some (.tup [.int u, .ref (c'.ad (.h i)), .ref (c'.bd (.h i))])) →
    ∃ a' b', DW K H' s l n' a' b' G' F MD YS RL ts' cf ct ∧ a'.M.hs.length + b'.M.hs.length + c.M.hs.length = a.M.hs.length + b.M.hs.length + c'.M.hs.length
theorem DW.actM {H : Hp} {s l F MD YS RL : Addr} {n : Nat} {a b : Yd} {G : Hp} {ts : List Addr} {cf ct : Nat} (D : DW K H s l n a b G F MD YS RL ts cf ct) (u : Int) (hu : u = 0 ∨ u = 1) : ∃ c o1 o2, ActM K H s l n a b G F MD YS RL ts cf ct u c o1 o2 := by
  rcases hu with rfl | rfl
  · refine ⟨a, cF K b.M b.ad, cLw b.L b.bd, ⟨D.W.perm (.cons _ (.cons _ ((List.perm_append_comm (l₁ := [RS.cG G]) (l₂ := [cF K b.M b.ad, cLw b.L b.bd])).append_right [RS.cell MD (.lst (ts.map V.ref))]))), D.Ja, rfl, rfl, Nat.le_add_right _ _, fun H' n' c' G' ts' W' J' ys sG hts => ?_⟩⟩
    refine ⟨c', b, ⟨W'.perm (.cons _ (.cons _ ((List.perm_append_comm (l₁ := [cF K b.M b.ad, cLw b.L b.bd]) (l₂ := [RS.cG G'])).append_right [RS.cell MD (.lst (ts'.map V.ref))]))), J', D.Jb.sameG sG, ?_, ?_, D.F.same sG, fun p hp => ?_⟩, by omega⟩
    · rw [ys.y]; exact sG _ _ D.ys
    · rw [ys.m]; exact sG _ _ D.rl
    · rcases hts p hp with h | h
      · exact (D.en p h).mv sG ys (YSame.refl b)
      · exact .inl h
  · refine ⟨b, cF K a.M a.ad, cLw a.L a.bd, ⟨D.W.perm ((List.perm_append_comm (l₁ := [cF K b.M b.ad, cLw b.L b.bd, RS.cG G]) (l₂ := [cF K a.M a.ad, cLw a.L a.bd])).append_right [RS.cell MD (.lst (ts.map V.ref))]), D.Jb, rfl, rfl, Nat.le_add_left _ _, fun H' n' c' G' ts' W' J' ys sG hts => ?_⟩⟩
    refine ⟨a, c', ⟨W'.perm ((List.perm_append_comm (l₁ := [cF K a.M a.ad, cLw a.L a.bd]) (l₂ := [cF K c'.M c'.ad, cLw c'.L c'.bd, RS.cG G'])).append_right [RS.cell MD (.lst (ts'.map V.ref))]), D.Ja.sameG sG, J', ?_, ?_, D.F.same sG, fun p hp => ?_⟩, by omega⟩
    · rw [ys.y]; exact sG _ _ D.ys
    · rw [ys.m]; exact sG _ _ D.rl
    · rcases hts p hp with h | h
      · exact (D.en p h).mv sG (YSame.refl a) ys
      · exact .inr h
theorem make (T : Txt P w K mg) {f : Addr} {cdv : Value} {A : Around} {outer : List Env} {st0 : Shared} {E : XK} {H : Hp} (hr : Room 14 (A.deeper (envOfC "law" (defScope s_law) st0.heap.objs.size f cdv)))
    (c__law_draw : Callable P w K mg base 1 (He.ga K "_law_draw") ["_law_stream", "_law_many"] [] spDraw)
    (c__law_made : Callable P w K mg base 6 (He.ga K "_law_made") ["_law_stream", "_law_yard_here", "_law_m"] [] (spLMade K)) :
    ∃ t, PSs (cxOf CX0 P w K mg base nm_law "law" (defScope s_law) f cdv A outer st0 H E).nox b_make t ∧ ∀ {a s l F MD YS RL : Addr} {n : Nat} {A B : Yd} {G : Hp} {ts : List Addr} (H5 : Hp) (D' : Ends), DW K H5 s l n A B G F MD YS RL ts 1 50000 → ts.length ≤ 20 → A.M.hs.length + B.M.hs.length = ts.length → n ≤ 800000 →
      ∀ o6 o7 o8 o9 o10 o11 o12, (∀ σ H' A' B' G' p, DW K H' s l (n + 3) A' B' G' F MD YS RL (ts ++ [p]) 1 50000 → A'.M.hs.length + B'.M.hs.length = (ts ++ [p]).length → (∃ o7, σ = sgT a s YS RL F MD o6 o7 o8 o9 o10 o11 o12) → D'.nx σ H') → t D' (sgT a s YS RL F MD o6 o7 o8 o9 o10 o11 o12) H5 := by
  refine ⟨_, (pss_cons (ps_set (i := 7) sc_law.nd rfl (by first | exact Or.inl rfl | exact Or.inr rfl) (pe_fn T.g__law_draw c__law_draw (hr.mono (by first | decide | exact Nat.le_refl _)) (by rfl) (pa_cons (pv 1) (pa_cons pe_int pa_nil))))
      (pss_one (ps_expr (pe_bm PySem.F.plainAttrs_list PySem.F.slot_list_append PySem.F.type_list_append mt_append (pv 5) (pa_cons (pe_op (opK (K := K) rCatT op_catT) (pe_tup (pa_cons (pv 7) pa_nil)) (pe_fn T.g__law_made c__law_made (hr.mono (by first | decide | exact Nat.le_refl _)) (by rfl) (pa_cons (pv 1) (pa_cons (pe_ix ix_list (pv 2) (pv 7) (fun _ _ => rfl)) (pa_cons (pe_ix ix_list (pv 3) (pv 7) (fun _ _ => rfl)) pa_nil))))) pa_nil))))), ?_⟩
  walk_at "in"
  intro a s l F MD YS RL n A B G ts H5 D' D5 htl hhs hn o6 o7 o8 o9 o10 o11 o12 k'
  refine seq_of (fun σ' H6 => ∃ u : Int, (u = 0 ∨ u = 1) ∧ DW K H6 s l (n + 1) A B G F MD YS RL ts 1 50000 ∧ σ' = sgT a s YS RL F MD o6 (some (.int u)) o8 o9 o10 o11 o12) (fun b' kb => ?_) (fun σ' H6 hm => ?_)
  · refine ⟨_, rfl, s, l, n, 2, rfl, D5.W.stm, by omega, by decide, by decide, fun H6 u oa sa u0 u1 => ?_⟩
    exact kb _ _ ⟨u, by omega, { D5 with W := D5.W.old oa sa }, rfl⟩
  obtain ⟨u, hu, D6, rfl⟩ := hm
  clear D5
  obtain ⟨C, o1, o2, AC⟩ := D6.actM u hu
  have hYS : H6 YS = _ := D6.W.st (by simp) _ _ D6.ys
  have hRL : H6 RL = _ := D6.W.st (by simp) _ _ D6.rl
  have hCl := AC.le
  have hml : C.M.md.length ≤ 900 := by rw [AC.J.ml]; omega
  have hll : C.L.hs.length ≤ 900 := by rw [AC.J.hl]; omega
  have hMD : H6 MD = some (.lst (ts.map V.ref)) := (AC.W.rep (RS.cell MD (.lst (ts.map V.ref))) (by simp)).at_ () _ rfl
  refine ⟨_, rfl, .inl ⟨rfl, _, SqL.of hMD⟩, ?_⟩
  refine ⟨_, rfl, by show 1 ≤ sizeLine; decide, fun q fq => ?_⟩
  have W7 := (AC.W.new (o := .tup [.int u]) fq).dn2
  have hYS7 := same_new fq (.tup [.int u]) _ _ hYS
  have hRL7 := same_new fq (.tup [.int u]) _ _ hRL
  refine ⟨_, rfl, _, rfl, _, rfl, YS, _, u, _, rfl, rfl, SqL.of hYS7, AC.ay, ?_⟩
  refine ⟨_, rfl, _, rfl, RL, _, u, _, rfl, rfl, SqL.of hRL7, AC.am, ?_⟩
  refine ⟨s, l, n + 1, C.M, C.ad, C.L, C.bd, _, rfl, W7, by omega, hml, hll, fun H8 ad' bd' kd h p W8 y8 h8 m8 g8 hz => ?_⟩
  have hp8 := W8.c0
  have W9 := W8.tl.up2
  have hq9 := W9.c0
  have W10 := W9.tl.up2
  clear W7 W8 W9 hYS7 hRL7
  refine ⟨q, p, [.int u], _, rfl, rfl, SqT.of hq9, SqT.of hp8, (fun z => nomatch z), by show 3 ≤ sizeLine; decide, (fun z => nomatch z), fun _ t ft => ?_⟩
  obtain ⟨W11, sG⟩ := W10.lay (o := .tup [.int u, .ref (ad' (.h C.M.hs.length)), .ref (bd' (.h C.L.hs.length))]) ft
  have ht : upd G t (.tup [.int u, .ref (ad' (.h C.M.hs.length)), .ref (bd' (.h C.L.hs.length))]) t = some (.tup [.int u, .ref (ad' (.h C.M.hs.length)), .ref (bd' (.h C.L.hs.length))]) := upd_same
  have W11 := W11.dn2
  generalize upd G t (.tup [.int u, .ref (ad' (.h C.M.hs.length)), .ref (bd' (.h C.L.hs.length))]) = G2 at W11 sG ht
  have e8 : upd H8 t (.tup ([.int u] ++ [.ref (ad' (.h C.M.hs.length)), .ref (bd' (.h C.L.hs.length))])) = upd H8 t (.tup [.int u, .ref (ad' (.h C.M.hs.length)), .ref (bd' (.h C.L.hs.length))]) := rfl
  rw [e8]
  generalize upd H8 t (.tup [.int u, .ref (ad' (.h C.M.hs.length)), .ref (bd' (.h C.L.hs.length))]) = H9 at W11 ⊢
  have WM := W11.perm (List.perm_append_comm (l₁ := [RS.cell MD (.lst (ts.map V.ref))]) (l₂ := [cF K (C.M.mk1 h ⟨.non, "\n", kd⟩) ad', cLw (C.L.addH (lh0 kd)) bd', RS.cG G2, o1, o2]))
  have WM : RS.Wd H9 s l (n + 1 + 2) (RS.cell MD (.lst (ts.map V.ref)) :: [cF K (C.M.mk1 h ⟨.non, "\n", kd⟩) ad', cLw (C.L.addH (lh0 kd)) bd', RS.cG G2, o1, o2]) := WM
  have hM9 := WM.c0
  have W12 := WM.set (o' := .lst ((ts ++ [t]).map V.ref))
  have W12 : RS.Wd _ s l (n + 1 + 2) [cF K (C.M.mk1 h ⟨.non, "\n", kd⟩) ad', cLw (C.L.addH (lh0 kd)) bd', RS.cG G2, o1, o2, RS.cell MD (.lst ((ts ++ [t]).map V.ref))] := W12.perm (List.perm_append_comm (l₁ := [cF K (C.M.mk1 h ⟨.non, "\n", kd⟩) ad', cLw (C.L.addH (lh0 kd)) bd', RS.cG G2, o1, o2]) (l₂ := [RS.cell MD (.lst ((ts ++ [t]).map V.ref))]))
  have eL : (C.M.mk1 h ⟨.non, "\n", kd⟩).hs.length = C.M.hs.length + 1 := by show (C.M.hs ++ [_]).length = _; rw [List.length_append]; rfl
  obtain ⟨A', B', D13, hl13⟩ := AC.back _ (n + 1 + 2) ⟨C.M.mk1 h ⟨.non, "\n", kd⟩, ad', C.L.addH (lh0 kd), bd'⟩ G2 (ts ++ [t]) W12 ((AC.J.made h kd).sameG sG) ⟨y8, m8, h8, fun i hi => g8 i (by rw [AC.J.hl]; exact hi), by show _ ≤ (C.M.mk1 h ⟨.non, "\n", kd⟩).hs.length; rw [eL]; omega⟩ sG (fun p2 hp2 => by
    rcases List.mem_append.mp hp2 with h | h
    · exact .inl h
    · rw [List.mem_singleton.mp h]
      refine .inr ⟨C.M.hs.length, by show _ < (C.M.mk1 _ ⟨.non, "\n", kd⟩).hs.length; rw [eL]; omega, ?_⟩
      rw [← AC.J.hl] at ht ⊢
      exact ht)
  have hl13 : A'.M.hs.length + B'.M.hs.length + C.M.hs.length = A.M.hs.length + B.M.hs.length + (C.M.mk1 h ⟨.non, "\n", kd⟩).hs.length := hl13
  rw [eL] at hl13
  refine ⟨MD, _, _, rfl, rfl, hM9, by rw [List.length_map, sizeLine_eq]; omega, ?_⟩
  have eM : ts.map V.ref ++ [.ref t] = (ts ++ [t]).map V.ref := by rw [List.map_append]; rfl
  rw [eM]
  exact k' _ _ A' B' G2 t D13 (by rw [List.length_append]; show _ = ts.length + 1; omega) ⟨_, rfl⟩
end
end K17

set_option Elab.async false
set_option linter.all false
set_option maxRecDepth 100000
set_option maxHeartbeats 0

namespace K17
open PySem PySem.Spec PyProof.Rows L2 RC
section
variable {P : Program} {w : World} {K : PySem.W.Frag} {mg : Str → Option Value} {base : Heap}
/-! ### the law -/
theorem jr0 {G : Hp} {now : Int} (h : now.natAbs < 2 ^ 63) : JR K (FS.s0 now) (LS.z now) G 1 50000 :=
  { st := rfl, fr := rfl, nd := .nil, now := h, sl := Nat.zero_le _, tx := fun _ => Nat.zero_le _, frl := Nat.zero_le _, ml := rfl, hl := rfl
    hr := fun _ _ h => nomatch h }
def spLaw (K : PySem.W.Frag) : Sp := fun vs H Q _ => ∃ (a : Addr) (ns : List Int), vs = [.ref a] ∧ ns.length ≤ 63 ∧ SqL K H a (ns.map V.int) ∧ ∀ H', Q (.bl true) H'
theorem law_body (T : Txt P w K mg) {f : Addr} {cdv : Value} {A : Around} {outer : List Env} {st0 : Shared} {E : XK} {vs : List V} {H : Hp} {Q : VK} (hr : Room 14 (A.deeper (envOfC "law" (defScope s_law) st0.heap.objs.size f cdv))) (hsp : spLaw K vs H Q E)
    (c__law_draw : Callable P w K mg base 1 (He.ga K "_law_draw") ["_law_stream", "_law_many"] [] spDraw)
    (c__law_pick : Callable P w K mg base 2 (He.ga K "_law_pick") ["_law_stream", "_law_some"] [] (spPick K))
    (c__law_deed : Callable P w K mg base 6 (He.ga K "_law_deed") ["_law_stream", "_law_handler_here", "_law_h", "_law_formatters_here"] [] (spLDeed K))
    (c__law_row : RTk.CallK P w K mg base 3 (He.ga K "_law_row") ["_law_stream"] (spLRow K))
    (c__law_to_stream : RTk.CallK P w K mg base 3 (He.ga K "_law_to_stream") ["_law_m", "_law_h", "_law_row_here"] (spLToStream K))
    (c__law_to_none : RTk.CallK P w K mg base 1 (He.ga K "_law_to_none") ["_law_m", "_law_h", "_law_row_here"] (spLToNone K))
    (c__law_record : Callable P w K mg base 7 (He.ga K "_law_record") ["_law_yard_here", "_law_row_here"] [] (spLRec K))
    (c__law_is_like : Callable P w K mg base 6 (He.ga K "_law_is_like") ["_law_yard_here", "_law_m"] [] (spLLike K))
    (c_StreamHandler_handle : Callable P w K mg base 12 (He.ma K (He.ga K "StreamHandler") "handle") ["self", "record"] [] (spHandle K true))
    (c_NullHandler_handle : Callable P w K mg base 12 (He.ma K (He.ga K "NullHandler") "handle") ["self", "record"] [] (spHandle K false))
    (c__law_made : Callable P w K mg base 6 (He.ga K "_law_made") ["_law_stream", "_law_yard_here", "_law_m"] [] (spLMade K))
    (c__law_yard : Callable P w K mg base 1 (He.ga K "_law_yard") ["_law_now"] [] spLYard)
    (c_Yard_init : Callable P w K mg base 5 (He.ma K (He.ga K "Yard") "__init__") ["self", "now"] [] (spYardInit K))
    (c_Yard_init_d1 : Callable P w K mg base 5 (He.ma K (He.ga K "Yard") "__init__") ["self", "now"] [.int 0] (spYardInit K))
    (c__law_formatters : Callable P w K mg base 7 (He.ga K "_law_formatters") [] [] (spLFmts K)) :
    ∃ t, PSs (cxOf CX0 P w K mg base nm_law "law" (defScope s_law) f cdv A outer st0 H E).nox (defBody s_law) t ∧ t { nx := fun _ H' => Q .non H', rt := Q } (start nm_law vs) H := by
  obtain ⟨a, ns, rfl, hn, hS, hQ⟩ := hsp
  obtain ⟨t1, hturn, qturn⟩ := turn (f := f) (cdv := cdv) (outer := outer) (st0 := st0) (H := H) (E := E) T hr c__law_draw c__law_pick c__law_deed c__law_row c__law_to_stream c__law_to_none c__law_record c__law_is_like c_StreamHandler_handle c_NullHandler_handle
  obtain ⟨t2, hmake, qmake⟩ := make (f := f) (cdv := cdv) (outer := outer) (st0 := st0) (H := H) (E := E) T hr c__law_draw c__law_made
  refine ⟨_, (pss_cons (ps_set (i := 1) sc_law.nd rfl (by first | exact Or.inl rfl | exact Or.inr rfl) (pe_lst (pa_cons (pe_callTy call_list_of (by rfl) T.b_list (by decide +kernel) (pa_cons (pv 0) pa_nil)) (pa_cons pe_int (pa_cons pe_int (pa_cons pe_int pa_nil))))))
      (pss_cons (ps_asg (pe_tup (pa_cons (pe_lst (pa_cons (pe_mk0 T.k_Yard T.g_Yard c_Yard_init_d1 (hr.mono (by first | decide | exact Nat.le_refl _)) (by rfl)) (pa_cons (pe_mk T.k_Yard T.g_Yard c_Yard_init (hr.mono (by first | decide | exact Nat.le_refl _)) (by rfl) (pa_cons pe_int pa_nil)) pa_nil))) (pa_cons (pe_lst (pa_cons (pe_fn T.g__law_yard c__law_yard (hr.mono (by first | decide | exact Nat.le_refl _)) (by rfl) (pa_cons pe_int pa_nil)) (pa_cons (pe_fn T.g__law_yard c__law_yard (hr.mono (by first | decide | exact Nat.le_refl _)) (by rfl) (pa_cons pe_int pa_nil)) pa_nil))) (pa_cons (pe_fn0 T.g__law_formatters c__law_formatters (hr.mono (by first | decide | exact Nat.le_refl _)) (by rfl)) pa_nil)))) (RG.pg_tupK (K := K) (n := 3) (by rfl) (pgs_cons (pg_name (i := 2) sc_law.nd rfl (by first | exact Or.inl rfl | exact Or.inr rfl)) (pgs_cons (pg_name (i := 3) sc_law.nd rfl (by first | exact Or.inl rfl | exact Or.inr rfl)) (pgs_cons (pg_name (i := 4) sc_law.nd rfl (by first | exact Or.inl rfl | exact Or.inr rfl)) pgs_nil)))))
      (pss_cons (ps_set (i := 5) sc_law.nd rfl (by first | exact Or.inl rfl | exact Or.inr rfl) (pe_lst pa_nil))
      (pss_cons (ps_for PassesOwn.never rfl (pi_range1 (by rfl) T.b_range (pa_cons (pe_op op_add pe_int (pe_fn T.g__law_draw c__law_draw (hr.mono (by first | decide | exact Nat.le_refl _)) (by rfl) (pa_cons (pv 1) (pa_cons pe_int pa_nil)))) pa_nil)) (pg_name (i := 6) sc_law.nd rfl (by first | exact Or.inl rfl | exact Or.inr rfl)) hmake)
      (pss_cons (ps_for PassesOwn.never rfl (pi_range1 (by rfl) T.b_range (pa_cons pe_int pa_nil)) (pg_name (i := 8) sc_law.nd rfl (by first | exact Or.inl rfl | exact Or.inr rfl)) hturn)
      (pss_one (ps_ret pe_bl))))))), ?_⟩
  walk_at "in"
  refine ⟨_, rfl, a, ns.map V.int, rfl, .inl hS, fun l hl => ⟨(by show 4 ≤ sizeLine; decide), fun s hs => ?_⟩⟩
  have st1 : Stm (upd (upd H l (.lst (ns.map V.int))) s (.lst [.ref l, .int 0, .int 0, .int 0])) s l 0 := by
    have n1 := (upd_none hs).1
    exact ⟨n1, ns, 0, 0, 0, upd_same, by rw [upd_ne (Ne.symm n1)]; exact upd_same, hn, by decide, by decide, by decide, by decide, by decide⟩
  generalize upd (upd H l (.lst (ns.map V.int))) s (.lst [.ref l, .int 0, .int 0, .int 0]) = H1 at st1
  have W0 : RS.Wd H1 s l 0 [] := ⟨st1, (fun c h => by cases h), .nil, (fun c h => by cases h)⟩
  have W1 := W0.g0'
  clear W0 st1 hs hl hS
  dsimp only [gName]
  refine seq_of (fun σ' H' => ∃ (Aa Bb : Yd) (G : Hp) (F YS RL : Addr), RS.Wd H' s l 0 [RS.cG G, cLw Bb.L Bb.bd, cLw Aa.L Aa.bd, cF K Bb.M Bb.ad, cF K Aa.M Aa.ad] ∧ JR K Aa.M Aa.L G 1 50000 ∧ JR K Bb.M Bb.L G 1 50000 ∧ Aa.M.hs = [] ∧ Bb.M.hs = [] ∧ G YS = some (.lst [.ref (Aa.ad .y), .ref (Bb.ad .y)]) ∧ G RL = some (.lst [.ref (Aa.bd .m), .ref (Bb.bd .m)]) ∧ Fmts K G F ∧
    σ' = [some (.ref a), some (.ref s), some (.ref YS), some (.ref RL), some (.ref F), none, none, none, none, none, none, none, none]) (fun b' kb => ?_) (fun σ' H2 hm => ?_)
  · walk_at "go"
    intro y dy hy hdy hne
    refine ⟨y, dy, 0, rfl, upd_same, fun H2 q N' => ⟨rfl, ?_⟩⟩
    obtain ⟨ad, ea, R2, f2, S2⟩ := YNew.repF hy hdy hne N'
    have W2 := W1.add (c := cF K (FS.s0 0) ad) S2 R2 f2
    clear N' W1 S2 R2 f2 hy hdy hne
    subst ea
    walk_at "go"
    intro y2 dy2 hy2 hdy2 hne2
    refine ⟨y2, dy2, 7, rfl, upd_same, fun H3 q N' => ⟨rfl, ?_⟩⟩
    obtain ⟨ad2, ea, R3, f3, S3⟩ := YNew.repF hy2 hdy2 hne2 N'
    have W3 := W2.add (c := cF K (FS.s0 7) ad2) S3 R3 f3
    clear N' W2 S3 R3 f3 hy2 hdy2 hne2
    subst ea
    walk_at "go"
    intro YS fYS
    obtain ⟨W4, _⟩ := W3.up2.lay (o := .lst [.ref (ad .y), .ref (ad2 .y)]) fYS
    have hYS : upd (fun _ => none) YS (.lst [.ref (ad .y), .ref (ad2 .y)]) YS = some (HO.lst [.ref (ad .y), .ref (ad2 .y)]) := upd_same
    generalize upd (fun _ => none) YS (.lst [.ref (ad .y), .ref (ad2 .y)]) = G1 at W4 hYS
    clear W3
    generalize upd H3 YS (.lst [.ref (ad .y), .ref (ad2 .y)]) = H4 at W4 ⊢
    walk_at "go"
    intro bd H5 R5 s5 f5
    have W5 := W4.add (c := cLw (LS.z 0) bd) s5 R5 f5
    clear W4 R5 f5
    walk_at "go"
    intro bd2 H6 R6 s6 f6
    have W6 := W5.add (c := cLw (LS.z 7) bd2) s6 R6 f6
    clear W5 R6 f6
    walk_at "go"
    intro RL fRL
    obtain ⟨W7, sG2⟩ := W6.up2.lay (o := .lst [.ref (bd .m), .ref (bd2 .m)]) fRL
    have hRL : upd G1 RL (.lst [.ref (bd .m), .ref (bd2 .m)]) RL = some (.lst [.ref (bd .m), .ref (bd2 .m)]) := upd_same
    generalize upd G1 RL (.lst [.ref (bd .m), .ref (bd2 .m)]) = G2 at W7 sG2 hRL
    clear W6
    generalize upd H6 RL (.lst [.ref (bd .m), .ref (bd2 .m)]) = H7 at W7 ⊢
    refine ⟨rfl, fun H8 F ws s8 fF hF hwl hw => ?_⟩
    obtain ⟨W8, sG3, hnw⟩ := W7.layAll s8
    have hF8 := hnw _ _ fF hF
    have hw8 : ∀ i : Nat, i < 6 → ∃ v, ws[i]? = some v ∧ FormV K (gAdd G2 H7 H8) (foW i) v := fun i hi => let ⟨v, h1, h2⟩ := hw i hi; ⟨v, h1, h2.same fun b u e => hnw b u (nw_free e) (rst_same _ _ e)⟩
    generalize gAdd G2 H7 H8 = G at W8 sG3 hF8 hw8
    clear W7
    walk_at "go"
    intro t ft
    have W9 := W8.same (same_new ft (.tup [.ref YS, .ref RL, .ref F]))
    have ht9 : upd H8 t (.tup [.ref YS, .ref RL, .ref F]) t = some (.tup [.ref YS, .ref RL, .ref F]) := upd_same
    generalize upd H8 t (.tup [.ref YS, .ref RL, .ref F]) = H9 at W9 ht9 ⊢
    walk_at "go"
    exact kb _ _ ⟨⟨FS.s0 0, ad, LS.z 0, bd⟩, ⟨FS.s0 7, ad2, LS.z 7, bd2⟩, G, F, YS, RL, W9, jr0 (by decide), jr0 (by decide), rfl, rfl, sG3 _ _ (sG2 _ _ hYS), sG3 _ _ hRL, ⟨ws, hF8, hwl, hw8⟩, rfl⟩
  obtain ⟨Aa, Bb, G, F, YS, RL, W2, J1, J2, h1, h2, hYS, hRL, hFm, rfl⟩ := hm
  clear W1
  refine seq_of (fun σ' H' => ∃ MD, DW K H' s l 0 Aa Bb G F MD YS RL [] 1 50000 ∧ σ' = sgT a s YS RL F MD none none none none none none none) (fun b' kb => ?_) (fun σ' H3 hm => ?_)
  · walk_at "go"
    intro MD fMD
    have W3 := W2.new (o := .lst []) fMD
    exact kb _ _ ⟨MD, ⟨W3.perm ((List.Perm.cons _ (.swap _ _ _)).trans (List.reverse_perm [RS.cell MD (.lst []), RS.cG G, cLw Bb.L Bb.bd, cLw Aa.L Aa.bd, cF K Bb.M Bb.ad, cF K Aa.M Aa.ad])), J1, J2, hYS, hRL, hFm, fun p h => nomatch h⟩, rfl⟩
  obtain ⟨MD, D3, rfl⟩ := hm
  clear W2
  refine seq_of (fun σ' H' => ∃ n A' B' G' ts o6 o7, n ≤ 1000 ∧ DW K H' s l n A' B' G' F MD YS RL ts 1 50000 ∧ ts ≠ [] ∧ ts.length ≤ 20 ∧ σ' = sgT a s YS RL F MD o6 o7 none none none none none) (fun b' kb => ?_) (fun σ' H4 hm => ?_)
  · refine ⟨_, rfl, s, l, 0, 6, rfl, D3.W.stm, by omega, by decide, by decide, fun H4 v oa sa v0 v1 => ?_⟩
    have D4 : DW K H4 s l 1 Aa Bb G F MD YS RL [] 1 50000 := { D3 with W := D3.W.old oa sa }
    clear D3 oa sa
    have h62 : (4 + v : Int) < 2 ^ 62 := Int.lt_of_lt_of_le (show (4 + v : Int) < 10 by omega) (by decide)
    walk_at "go"
    refine for_it walk_range (fun i σ H' => ∃ A' B' G' ts o6 o7, DW K H' s l (1 + 3 * i) A' B' G' F MD YS RL ts 1 50000 ∧ ts.length = i ∧ A'.M.hs.length + B'.M.hs.length = ts.length ∧ σ = sgT a s YS RL F MD o6 o7 none none none none none) ⟨Aa, Bb, G, [], _, _, D4, rfl, by rw [h1, h2]; rfl, rfl⟩ (fun _ _ _ _ _ => trivial) (fun i x σ H11 H12 hi hP hx => ?_) (fun σ H12 hP => ?_)
    · obtain ⟨rfl, rfl⟩ := hx
      obtain ⟨A5, B5, G5, ts, o6, o7, D5, tl, hl, rfl⟩ := hP
      have hi : i < (4 + v).toNat := hi
      have hi2 : i < 10 := by omega
      refine qmake (n := 1 + 3 * i) H12 _ D5 (by omega) hl (by omega) _ _ _ _ _ _ _ (fun σ' H' A6 B6 G6 p D6 hl6 h3 => ?_)
      obtain ⟨o7', rfl⟩ := h3
      exact ⟨A6, B6, G6, ts ++ [p], _, _, D6, by rw [List.length_append, tl]; rfl, hl6, rfl⟩
    · obtain ⟨A5, B5, G5, ts, o6, o7, D5, tl, hl, rfl⟩ := hP
      have tl : ts.length = (4 + v).toNat := tl
      exact kb _ _ ⟨_, A5, B5, G5, ts, _, _, by omega, D5, (fun z => by rw [z] at tl; have : (0 : Nat) = (4 + v).toNat := tl; omega), by omega, rfl⟩
  obtain ⟨n, A', B', G', ts, o6, o7, hn4, D4, hne, htl, rfl⟩ := hm
  walk_at "go"
  refine for_it walk_range (fun i σ H' => ∃ n' A' B' G' o7 o8 o9 o10 o11 o12, n' ≤ n + 20 * i ∧ DW K H' s l n' A' B' G' F MD YS RL ts (i + 1) (50000 * (i + 1)) ∧ σ = sgT a s YS RL F MD o6 o7 o8 o9 o10 o11 o12) ⟨n, A', B', G', _, _, _, _, _, _, Nat.le_refl _, D4, rfl⟩ (fun _ _ _ _ _ => trivial) (fun i x σ H11 H12 hi hP hx => ?_) (fun σ H12 hP => ?_)
  · obtain ⟨rfl, rfl⟩ := hx
    obtain ⟨n', A5, B5, G5, o7', o8, o9, o10, o11, o12, hn', D5, rfl⟩ := hP
    have hi2 : i < (24 : Int).toNat := hi
    have e24 : (24 : Int).toNat = 24 := rfl
    refine qturn (n := n') (c := i) H12 _ D5 hne htl (by omega) (by omega) _ _ _ _ _ _ _ (fun σ' H' n2 A6 B6 G6 h0 D6 h3 => ?_)
    obtain ⟨o7', o9', o10', o11', o12', rfl⟩ := h3
    exact ⟨n2, A6, B6, G6, _, _, _, _, _, _, by omega, D6, rfl⟩
  · walk_at "go"
    exact hQ _
theorem i_badfield_init {f : Addr} (T : Txt P w K mg) (F : Stands K "__init__" "BadField.__init__" s_BadField_init [] f) : RH.InitH P w K mg base 1 f ["self", "name"] (RQ.spExcInit K "name") := by
  refine RH.stands_initH F sc_BadField_init (fun vs H Q E h => ?_) (fun cdv A outer s H vs Q E p hr h => ?_) (fun _ _ _ _ _ _ us hl => match us, hl with | [_, _], _ => rfl)
  · obtain ⟨a, C, v, rfl, _⟩ := h; rfl
  obtain ⟨a, C, v, rfl, hx, ha, hQ⟩ := h
  refine ⟨_, (pss_one (ps_ost (pv 0) (pv 1))), ?_⟩
  walk_at "in"
  exact RQ.init_rd hx (fun Q h => ⟨_, rfl, h⟩) (fun Q h => ⟨_, rfl, h⟩) ha hQ
theorem ok_yard_init2 {f : Addr} (T : Txt P w K mg) (F : Stands K "__init__" "Yard.__init__" s_Yard_init [.int 0] f)
    (c_Logger_init : Callable P w K mg base 2 (He.ma K (He.ga K "Logger") "__init__") ["self", "yard", "name", "level"] [] (spLoggerInit K))
    (c_StreamHandler_init_d1 : Callable P w K mg base 3 (He.ma K (He.ga K "StreamHandler") "__init__") ["self", "yard", "stream"] [.str "stderr"] (spStreamInit K)) : Callable P w K mg base 5 f ["self", "now"] [] (spYardInit K) :=
  F.call sc_Yard_init 2 1 len_yard_init (fun cdv A outer s H vs Q E hr h => body_yard_init T hr h c_Logger_init c_StreamHandler_init_d1) (fun z => nomatch z) fun _ => ⟨rfl, fun _ _ _ _ _ _ _ us its hl hi => match us, hl, its, hi with | [_, _], _, [_], _ => ⟨_, rfl, rfl⟩⟩
end
end K17

set_option Elab.async false
set_option linter.all false
set_option maxRecDepth 100000
set_option maxHeartbeats 0
namespace K17
open PySem PySem.Spec PyProof.Rows L2 RC
section
variable {P : Program} {w : World} {K : PySem.W.Frag} {mg : Str → Option Value} {base : Heap}
/-! ### all together -/
theorem ok_law {f : Addr} {fd : FuncData} (T : Txt P w K mg) (F : FunD K "law" "law" (defArgs s_law) (defBody s_law) (defScope s_law) [] [] f fd) : FnOk P w K mg base CX0 15 f fd ["_law_script"] (spLaw K) := by
  have c__law_draw := ok_draw (base := base) T T.d__law_draw
  have c__law_pick := ok_pick (base := base) T T.d__law_pick c__law_draw
  have c__law_same := ok_same (base := base) T T.d__law_same rfl 4
  have c_StreamHandler_setStream := ok_setS (base := base) T T.d_StreamHandler_setStream
  have c_StreamHandler_setFormatter := ok_setFmS (base := base) T T.d_StreamHandler_setFormatter
  have c_StreamHandler_setTerminator := ok_setTmS (base := base) T T.d_StreamHandler_setTerminator
  have c_NullHandler_setFormatter := ok_setFmN (base := base) T T.d_NullHandler_setFormatter
  have c_NullHandler_setTerminator := ok_setTmN (base := base) T T.d_NullHandler_setTerminator
  have c__law_deed := ok_ldeed (base := base) T T.d__law_deed c__law_draw c__law_pick c__law_same c_StreamHandler_setStream c_StreamHandler_setFormatter c_StreamHandler_setTerminator c_NullHandler_setFormatter c_NullHandler_setTerminator
  have c__law_row := ok_lrow (base := base) T T.d__law_row c__law_pick
  have c__law_text := ok_ltext (base := base) T T.d__law_text
  have c__law_line := ok_lline (base := base) T T.d__law_line c__law_text
  have c__law_to_stream := ok_ltostream (base := base) T T.d__law_to_stream c__law_line
  have c__law_to_none := ok_ltonone (base := base) T T.d__law_to_none
  have c_is_integer := ok_is_integer (base := base) T T.d_is_integer
  have c_Yard_level_of := ok_level_of (base := base) T T.d_Yard_level_of c_is_integer
  have c_Yard_level_name := ok_level_name (base := base) T T.d_Yard_level_name
  have c_copied_value := ok_copied (base := base) T T.d_copied_value rfl 2
  have c_LogRecord_init := ok_rec_init (base := base) T T.d_LogRecord_init c_copied_value
  have c_Yard_make_record_d1 := ok_make_record (base := base) T T.d_Yard_make_record c_Yard_level_of c_Yard_level_name c_LogRecord_init
  have c__law_record := ok_lrec (base := base) T T.d__law_record c_Yard_make_record_d1
  have c_Yard_files := ok_files (base := base) T T.d_Yard_files
  have c_Yard_failures := ok_fails (base := base) T T.d_Yard_failures
  have c_Yard_streams := ok_streams (base := base) T T.d_Yard_streams
  have c_Yard_text := ok_text (base := base) T T.d_Yard_text
  have c__law_is_like := ok_llike (base := base) T T.d__law_is_like c_Yard_files c_Yard_failures c_Yard_streams c_Yard_text c__law_same
  have c_StreamHandler_filtered := ok_filtered0 (base := base) T T.d_StreamHandler_filtered
  have c_BadMessage_init := ok_badmessage_init (base := base) T T.d_BadMessage_init
  have c_message_of := ok_message_of (base := base) T T.d_message_of c_BadMessage_init
  have c_LogRecord_message := ok_message (base := base) T T.d_LogRecord_message c_message_of
  have c_BadField_init := ok_badfield_init (base := base) T T.d_BadField_init
  have c_LogRecord_field := ok_field (base := base) T T.d_LogRecord_field c_LogRecord_message c_BadField_init c_copied_value
  have i_BadField_init := i_badfield_init (base := base) T T.d_BadField_init
  have c_Formatter_value_of := ok_value_of (base := base) T T.d_Formatter_value_of c_LogRecord_field i_BadField_init
  have c_Field_side_of := ok_side (base := base) T T.d_Field_side_of c_is_integer
  have c_Field_written := ok_written (base := base) T T.d_Field_written c_Field_side_of
  have c_Formatter_formatted := ok_fm_formatted (base := base) T T.d_Formatter_formatted c_Formatter_value_of c_Field_written
  have c_StreamHandler_formatted := ok_formatted (base := base) T T.d_StreamHandler_formatted c_LogRecord_message c_Formatter_formatted
  have i_Yard_keep_failure := ok_keep (base := base) T T.d_Yard_keep_failure
  have c_StreamHandler_text_of := ok_text_of (base := base) T T.d_StreamHandler_text_of c_StreamHandler_formatted i_Yard_keep_failure
  have c_Yard_write_stream := ok_write (base := base) T T.d_Yard_write_stream c_Yard_text
  have c_StreamHandler_emit := ok_emitS (base := base) T T.d_StreamHandler_emit c_StreamHandler_text_of c_Yard_write_stream
  have c_StreamHandler_handle := ok_handleS (base := base) T T.d_StreamHandler_handle c_StreamHandler_filtered c_StreamHandler_emit
  have c_NullHandler_filtered := ok_filtered0 (base := base) T T.d_NullHandler_filtered
  have c_NullHandler_emit := ok_emitN (base := base) T T.d_NullHandler_emit
  have c_NullHandler_handle := ok_handleN (base := base) T T.d_NullHandler_handle c_NullHandler_filtered c_NullHandler_emit
  have c__law_handler := ok_lhandler (base := base) T T.d__law_handler
  have c_Filterer_init := ok_filterer_init (base := base) T T.d_Filterer_init
  have c_Yard_enrol := ok_enrol (base := base) T T.d_Yard_enrol
  have c_NullHandler_init := ok_handler_init (base := base) T T.d_NullHandler_init c_Filterer_init c_Yard_enrol
  have c_Handler_init := ok_handler_init (base := base) T T.d_Handler_init c_Filterer_init c_Yard_enrol
  have c_StreamHandler_init := ok_stream_init3 (base := base) T T.d_StreamHandler_init c_Handler_init
  have c_StreamHandler_init_d1 := ok_stream_init (base := base) T T.d_StreamHandler_init c_Handler_init
  have c__law_made := ok_lmade (base := base) T T.d__law_made c__law_draw c__law_pick c__law_handler c_NullHandler_init c_StreamHandler_init c_StreamHandler_init_d1
  have c__law_yard := ok_lyard (base := base) T T.d__law_yard
  have c_Logger_init := ok_logger_init (base := base) T T.d_Logger_init c_Filterer_init
  have c_Yard_init := ok_yard_init2 (base := base) T T.d_Yard_init c_Logger_init c_StreamHandler_init_d1
  have c_Yard_init_d1 := ok_yard_init (base := base) T T.d_Yard_init c_Logger_init c_StreamHandler_init_d1
  have c_name_end := ok_name_end (base := base) T T.d_name_end
  have c_Field_init_d3 := ok_field_init2 (base := base) T T.d_Field_init
  have c_field_of := ok_field_of (base := base) T T.d_field_of c_name_end c_Field_init_d3
  have c_parts_of_braces := ok_parts (base := base) T T.d_parts_of_braces c_field_of
  have c_Field_init_d4 := ok_field_init1 (base := base) T T.d_Field_init
  have c_field_behind := ok_field_behind (base := base) T T.d_field_behind c_name_end c_Field_init_d4
  have c_parts_of_dollars := ok_partsD (base := base) T T.d_parts_of_dollars c_field_behind
  have c_joined_texts := ok_joined (base := base) T T.d_joined_texts
  have c_Formatter_init_d3 := ok_fm_init3 (base := base) T T.d_Formatter_init c_parts_of_braces c_parts_of_dollars c_joined_texts
  have c_Formatter_init_d2 := ok_fm_init2 (base := base) T T.d_Formatter_init c_parts_of_braces c_parts_of_dollars c_joined_texts
  have c_Formatter_init_d1 := ok_fm_init1 (base := base) T T.d_Formatter_init c_parts_of_braces c_parts_of_dollars c_joined_texts
  have c__law_formatters := ok_lfmts (base := base) T T.d__law_formatters c_Formatter_init_d3 c_Formatter_init_d2 c_Formatter_init_d1
  refine F.ok sc_law (fun vs H Q E h => ?_) (fun cdv A outer s H vs Q E hr hsp => ?_)
  · obtain ⟨a, ns, rfl, _⟩ := h; rfl
  obtain ⟨t, h, q⟩ := law_body T hr hsp c__law_draw c__law_pick c__law_deed c__law_row c__law_to_stream c__law_to_none c__law_record c__law_is_like c_StreamHandler_handle c_NullHandler_handle c__law_made c__law_yard c_Yard_init c_Yard_init_d1 c__law_formatters
  exact ⟨t, h.nox, q⟩
theorem facts {f : Addr} {h : Heap} (X : K.In h) (G : h.Ns mainGlobals mg) (hfa : mg ("law" : Str) = some (.ref f)) (c : RB.SaysB fa fx fn ts w K) :
    ∃ fd : FuncData, (∀ (s : Shared) (v : Value), BindsTo s fd ⟨[v], []⟩ [("_law_script", v)]) ∧ ∀ base : Heap, FnOk P w K mg base CX0 15 f fd ["_law_script"] (spLaw K) := by
  have T : Txt P w K mg := Txt.of X G c
  obtain ⟨fd, F⟩ := T.d_law
  have e := hfa.symm.trans T.g_law
  cases e
  have b := FunD.bindsA (ps := ["_law_script"]) F fun _ _ _ _ _ _ us hl => match us, hl with | [_], _ => rfl
  exact ⟨fd, fun s v => b s [v] rfl, fun base => ok_law T F⟩
end
end K17
open PySem PySem.W PySem.Calls PyProof.Rows
set_option maxHeartbeats 0
theorem PySem.Challenge.cw_recordyard_k36_streams_written_holds : PySem.Challenge.rw_recordyard_k36_streams_written.Holds := by
  w_on; o_law
  refine HandSHeadRun.head_any (r := OpenLaw.row PySem.Challenge.rw_recordyard_k36_streams_written) (q := view (OpenLaw.row PySem.Challenge.rw_recordyard_k36_streams_written).prog [81]) (H := K17.hk) (ob := K17.ob) (M := 15000) (loose := K17.names) (d := HandSHeadRun.topDef (OpenLaw.row PySem.Challenge.rw_recordyard_k36_streams_written).prog 81) (kwd := []) K17.ob_eq
    (by kernel_rfl) (fun s => by kernel_rfl) K17.run (by kernel_rfl) (by kernel_rfl) (by kernel_rfl) (by rfl) (by first | assumption | decide +kernel) (by decide +kernel) ⟨rfl, rfl, rfl, rfl, rfl, by decide +kernel⟩ ?hw ?hc
  case hw => w_witness2
  case hc =>
    refine L2.walk_ofE (l := PySem.Challenge.rw_recordyard_k36_streams_written) (n := 63) (k := 15) (x := "_law_script") (CX := L2.CX0) rfl (by decide) (by kernel_rfl) ⟨rfl, by decide, by decide⟩ ?F (fun _ _ _ _ z => z)
    intro w mg fa h Y G hmg0
    obtain ⟨K, KX, c⟩ := Y
    have hmg : mg ("law" : PySem.Str) = some (.ref fa) := by
      have e : (HandSHeadRun.topDef (OpenLaw.row PySem.Challenge.rw_recordyard_k36_streams_written).prog 81).name = ("law" : PySem.Str) := by kernel_rfl
      rw [← e]
      exact hmg0
    obtain ⟨fd, hb, hF⟩ := K17.facts (P := (PySem.Challenge.rw_recordyard_k36_streams_written).prog) (w := w) KX G hmg c
    exact ⟨K, fd, K17.spLaw K, KX, hb, fun H a ns hl _ hS => ⟨a, ns, rfl, hl, hS, fun _ => rfl⟩, fun base _ _ => hF base⟩
