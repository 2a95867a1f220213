import PyProof.Rows.All
import Wide.All
import OpenK.AllK
import Wide.FinOn
import PyProof.EqAt
import PyProof.EqKinds
import PyProof.TupleCall
import HandS.Base
import HandS.Call
import HandS.List
import HandS.Dict
import HandS.More
import HandS.Slots
import HandS.ClsMeth
import KE.KStateDown
import HandS.Exc
import HandS.IsInst
import HandS.Defaults
import HandS.HeadHook1
import HandS.HeadHook2
import HandS.Head0
import HandS.Head1
import HandS.Head2
import HandS.HeadEnd
import HandS.ExcInit
import HandS.ExcField
import HandS.ForMost
import HandS.Walk
import PyProof.NeKinds
import PyProof.StrBlock2
import HandS.Sort
import HandS.Text
import PyProof.DictUpdate
import HandS.Iter
import HandS.Conv
import HandS.Flow
import PyProof.ReprRoads
import HandS.RaiseMore
import PyProof.CallStr
import HandS.ExcOwn
import HandS.TryMany
import HandS.CallSlots
import HandS.HotCalls
import HandS.SuiteRaise
import HandS.ExcInitHot
import HandS.Replace
import HandS.ReplaceLit
import HandS.ReplaceDef
import PyProof.ListStr
import HandS.DeepEq
import HandS.ReplaceList
import HandS.Zip
import HandS.Words
import HandS.Style
import HandS.Steps
import HandS.MakeKw
import HandS.NoneIn
import PyProof.Seq
import HandS.Finally
import HandS.StrMore
import KE.KDictZip
import PySem.Challenge.RW_recordyard_k06_formats_in_braces
set_option Elab.async false
set_option linter.all false
set_option maxRecDepth 100000
set_option maxHeartbeats 4000000
/-! Rules beyond the layer: == and != of instances of classes without an own __eq__ (by identity), in and not in over lists of such, a def read off its class. -/
namespace RA
open PySem PySem.Spec PyProof.Rows PySem.SeqAt
/-- a class whose instances are equal by identity -/
structure PlainC (K : PySem.W.Frag) (C : Addr) : Prop where
  mro : PySem.W.mroIn K C (.type "object") = some true
  eq : PySem.W.findIn K (.ref C) "__eq__" = some (some (.builtin "object.__eq__"))
  ne : PySem.W.findIn K (.ref C) "__ne__" = some (some (.builtin "object.__ne__"))
def PairC (K : PySem.W.Frag) (C D : Addr) : Prop := C = D ∨ ∃ b, PySem.W.subIn K (.ref D) (.ref C) = some b
section
variable {M : Model} {prog : Program} {w : World} {A : Around} {E : Value → Shared → Prop} {s : Shared} {K : PySem.W.Frag} {x y C D : Addr} {ox oy : Obj} {od od' : Option Obj}
theorem inst_get (I : PySem.W.InstAt s.heap x ox C od) : s.heap.get? x = some ox := I.at_
theorem inst_notup (I : PySem.W.InstAt s.heap x ox C od) : ox.cls ≠ .type "tuple" := by
  rw [I.cls]; intro z; cases z
theorem eq_same {Q : Value → Shared → Prop} (X : K.In s.heap) (I : PySem.W.InstAt s.heap x ox C od) (hm : PySem.W.mroIn K C (.type "object") = some true) (hq : Q (.bool true) s) :
    wpAny (model prog w) A (call (.builtin "object.__eq__") [.ref x, .ref x]) Q E s :=
  wpAny_call (codeAny_call_builtin F.cmp_object.eq.plain F.cmpEntry_eq (PySem.W.check_slot F.cmpKind_eq F.cmpSplit_eq (I.type.andThen (PySem.W.looks_mroIn X hm)) (F.cmpArgs_eq _ _) (objEq_entry_same hq)))
theorem eq_other {Q : Value → Shared → Prop} (X : K.In s.heap) (I : PySem.W.InstAt s.heap x ox C od) (hm : PySem.W.mroIn K C (.type "object") = some true) (hy : s.heap.get? y = some oy) (hxy : x ≠ y) (hq : Q .notImplemented s) :
    wpAny (model prog w) A (call (.builtin "object.__eq__") [.ref x, .ref y]) Q E s :=
  wpAny_call (codeAny_call_builtin F.cmp_object.eq.plain F.cmpEntry_eq (PySem.W.check_slot F.cmpKind_eq F.cmpSplit_eq (I.type.andThen (PySem.W.looks_mroIn X hm)) (F.cmpArgs_eq _ _) (objEq_entry_other hxy (inst_get I) hy (inst_notup I) hq)))
theorem ifB_ne {args : List Value} {Q : Option Value → Shared → Prop} (X : K.In s.heap) (I : PySem.W.InstAt s.heap x ox C od) (hs : PySem.W.findIn K (.ref C) "__ne__" = some (some (.builtin "object.__ne__")))
    (h : wpAny M A (call (.builtin "object.__ne__") (.ref x :: args)) (fun v => Q (some v)) E s) : wpAny M A (callSpecialIfBound? (.ref x) "__ne__" args) Q E s := by
  simp only [callSpecialIfBound?, bindSpecialIfBound?]
  refine wpAny_holding (wpAny_bind (wpAny_bind (wpAny_bind (I.type.here ((PySem.W.looks_findIn X hs).here ?_)))))
  refine wpAny_bind (wpAny_askSetting (wpAny_ite ?_))
  have fin : wpAny M A (call (.builtin "object.__ne__") ([.ref x] ++ args) >>= fun v => pure (some v)) Q E s := wpAny_bind (wpAny_mono h (fun v s' h' => wpAny_pure h') fun _ _ h' => h')
  split
  · exact wpAny_bind (wpAny_of_eq (F.cmp_object.ne.bind _) (wpAny_pure (by exact fin)))
  · exact wpAny_tryCatch (wpAny_bind (wpAny_of_eq (F.cmp_object.ne.bind _) (wpAny_pure (by exact fin))))
theorem ne_entry_same {Q : Fin → Shared → Prop} (X : K.In s.heap) (I : PySem.W.InstAt s.heap x ox C od) (P : PlainC K C) (hu : A.units < cLine) (hq : Q (.done (.ret (.bool false))) s) :
    wpAny (model prog w) A (Builtin.«object.__ne__» ⟨[.ref x, .ref x], []⟩) Q E s := by
  unfold Builtin.«object.__ne__»
  repeat (first | with_reducible refine wpAny_cRoomFor hu ?_ | with_reducible refine HN.ifBound_objEq X I P.eq (eq_same X I P.mro ?_) | wp_step)
  exact hq
theorem ne_entry_other {Q : Fin → Shared → Prop} (X : K.In s.heap) (I : PySem.W.InstAt s.heap x ox C od) (P : PlainC K C) (hy : s.heap.get? y = some oy) (hxy : x ≠ y) (hu : A.units < cLine) (hq : Q (.done (.ret .notImplemented)) s) :
    wpAny (model prog w) A (Builtin.«object.__ne__» ⟨[.ref x, .ref y], []⟩) Q E s := by
  unfold Builtin.«object.__ne__»
  repeat (first | with_reducible refine wpAny_cRoomFor hu ?_ | with_reducible refine HN.ifBound_objEq X I P.eq (eq_other X I P.mro hy hxy ?_) | wp_step)
  exact hq
theorem try_eq_same {Q : Option Value → Shared → Prop} (X : K.In s.heap) (I : PySem.W.InstAt s.heap x ox C od) (P : PlainC K C) (h : Q (some (.bool true)) s) : wpAny (model prog w) A (tryCompare (.ref x) "__eq__" (.ref x)) Q E s := by
  unfold tryCompare
  exact wpAny_bind (HN.ifBound_objEq X I P.eq (eq_same X I P.mro (wpAny_pure h)))
theorem try_eq_other {Q : Option Value → Shared → Prop} (X : K.In s.heap) (I : PySem.W.InstAt s.heap x ox C od) (P : PlainC K C) (hy : s.heap.get? y = some oy) (hxy : x ≠ y) (h : Q none s) : wpAny (model prog w) A (tryCompare (.ref x) "__eq__" (.ref y)) Q E s := by
  unfold tryCompare
  exact wpAny_bind (HN.ifBound_objEq X I P.eq (eq_other X I P.mro hy hxy (wpAny_pure h)))
theorem try_ne_same {Q : Option Value → Shared → Prop} (hu : A.units + 1 < cLine) (X : K.In s.heap) (I : PySem.W.InstAt s.heap x ox C od) (P : PlainC K C) (h : Q (some (.bool false)) s) : wpAny (model prog w) A (tryCompare (.ref x) "__ne__" (.ref x)) Q E s := by
  unfold tryCompare
  refine wpAny_bind (ifB_ne X I P.ne (wpAny_call (codeAny_call_builtin F.cmp_object.ne.plain F.cmpEntry_ne (PySem.W.check_slot F.cmpKind_ne F.cmpSplit_ne (I.type.andThen (PySem.W.looks_mroIn X P.mro)) (F.cmpArgs_ne _ _) (ne_entry_same (A := A.in1) X I P hu ?_)))))
  exact wpAny_pure h
theorem try_ne_other {Q : Option Value → Shared → Prop} (hu : A.units + 1 < cLine) (X : K.In s.heap) (I : PySem.W.InstAt s.heap x ox C od) (P : PlainC K C) (hy : s.heap.get? y = some oy) (hxy : x ≠ y) (h : Q none s) : wpAny (model prog w) A (tryCompare (.ref x) "__ne__" (.ref y)) Q E s := by
  unfold tryCompare
  refine wpAny_bind (ifB_ne X I P.ne (wpAny_call (codeAny_call_builtin F.cmp_object.ne.plain F.cmpEntry_ne (PySem.W.check_slot F.cmpKind_ne F.cmpSplit_ne (I.type.andThen (PySem.W.looks_mroIn X P.mro)) (F.cmpArgs_ne _ _) (ne_entry_other (A := A.in1) X I P hy hxy hu ?_)))))
  exact wpAny_pure h
theorem rc_same (hu : A.units < cLine) (X : K.In s.heap) (I : PySem.W.InstAt s.heap x ox C od) (P : PlainC K C) : RcAt A s (.ref x) (.ref x) true := fun prog w E Q h => by
  simp only [richCompare, cmpInfo_Eq, oneThing_ref]
  refine wpAny_holding (wpAny_bind (wpAny_cRoomFor hu ?_))
  refine wpAny_bind (I.type.here (wpAny_bind (I.type.here ?_)))
  rw [if_neg (by simp)]
  refine wpAny_bind (wpAny_pure ?_)
  simp only [Bool.false_eq_true, if_false]
  exact wpAny_bind (try_eq_same X I P (wpAny_pure h))
theorem rcn_same (hu : A.units + 1 < cLine) (X : K.In s.heap) (I : PySem.W.InstAt s.heap x ox C od) (P : PlainC K C) {Q : Value → Shared → Prop} (h : Q (.bool false) s) : wpAny (model prog w) A (richCompare .NotEq (.ref x) (.ref x)) Q E s := by
  simp only [richCompare, cmpInfo_NotEq, oneThing_ref]
  refine wpAny_holding (wpAny_bind (wpAny_cRoomFor (Nat.lt_of_succ_lt hu) ?_))
  refine wpAny_bind (I.type.here (wpAny_bind (I.type.here ?_)))
  rw [if_neg (by simp)]
  refine wpAny_bind (wpAny_pure ?_)
  simp only [Bool.false_eq_true, if_false]
  exact wpAny_bind (try_ne_same hu X I P (wpAny_pure h))
theorem rc_other (hu : A.units < cLine) (X : K.In s.heap) (I : PySem.W.InstAt s.heap x ox C od) (J : PySem.W.InstAt s.heap y oy D od') (P : PlainC K C) (P' : PlainC K D) (hp : PairC K C D) (hxy : x ≠ y) : RcAt A s (.ref x) (.ref y) false := fun prog w E Q h => by
  have fin : ∀ (tag : String), wpAny (model prog w) A (rule tag >>= fun _ => isSame (.ref x) (.ref y) >>= fun b => pure (Value.bool b)) Q E s := fun tag =>
    wpAny_bind (wpAny_rule (wpAny_bind (wpAny_isSame_ref_other hxy (inst_get I) (inst_get J) (inst_notup I) (wpAny_pure h))))
  simp only [richCompare, cmpInfo_Eq, oneThing_ref]
  refine wpAny_holding (wpAny_bind (wpAny_cRoomFor hu ?_))
  refine wpAny_bind (I.type.here (wpAny_bind (J.type.here ?_)))
  by_cases hCD : C = D
  · subst hCD
    rw [if_neg (by simp)]
    refine wpAny_bind (wpAny_pure ?_)
    simp only [Bool.false_eq_true, if_false, Bool.not_false, if_true]
    refine wpAny_bind (try_eq_other X I P (inst_get J) hxy ?_)
    refine wpAny_bind (try_eq_other X J P' (inst_get I) (Ne.symm hxy) ?_)
    exact fin _
  · rw [if_pos (by simp [hCD])]
    obtain ⟨b, hb⟩ := hp.resolve_left hCD
    refine wpAny_bind ((PySem.W.looks_subIn X hb).here ?_)
    cases b with
    | false =>
      simp only [Bool.false_eq_true, if_false, Bool.not_false, if_true]
      refine wpAny_bind (try_eq_other X I P (inst_get J) hxy ?_)
      refine wpAny_bind (try_eq_other X J P' (inst_get I) (Ne.symm hxy) ?_)
      exact fin _
    | true =>
      simp only [Bool.not_true, Bool.false_eq_true, if_false, if_true]
      refine wpAny_bind (try_eq_other X J P' (inst_get I) (Ne.symm hxy) ?_)
      refine wpAny_bind (try_eq_other X I P (inst_get J) hxy ?_)
      exact fin _
theorem rcn_other (hu : A.units + 1 < cLine) (X : K.In s.heap) (I : PySem.W.InstAt s.heap x ox C od) (J : PySem.W.InstAt s.heap y oy D od') (P : PlainC K C) (P' : PlainC K D) (hp : PairC K C D) (hxy : x ≠ y) {Q : Value → Shared → Prop} (h : Q (.bool true) s) :
    wpAny (model prog w) A (richCompare .NotEq (.ref x) (.ref y)) Q E s := by
  have fin : ∀ (tag : String), wpAny (model prog w) A (rule tag >>= fun _ => isSame (.ref x) (.ref y) >>= fun b => pure (Value.bool (!b))) Q E s := fun tag =>
    wpAny_bind (wpAny_rule (wpAny_bind (wpAny_isSame_ref_other hxy (inst_get I) (inst_get J) (inst_notup I) (wpAny_pure h))))
  simp only [richCompare, cmpInfo_NotEq, oneThing_ref]
  refine wpAny_holding (wpAny_bind (wpAny_cRoomFor (Nat.lt_of_succ_lt hu) ?_))
  refine wpAny_bind (I.type.here (wpAny_bind (J.type.here ?_)))
  by_cases hCD : C = D
  · subst hCD
    rw [if_neg (by simp)]
    refine wpAny_bind (wpAny_pure ?_)
    simp only [Bool.false_eq_true, if_false, Bool.not_false, if_true]
    refine wpAny_bind (try_ne_other hu X I P (inst_get J) hxy ?_)
    refine wpAny_bind (try_ne_other hu X J P' (inst_get I) (Ne.symm hxy) ?_)
    exact fin _
  · rw [if_pos (by simp [hCD])]
    obtain ⟨b, hb⟩ := hp.resolve_left hCD
    refine wpAny_bind ((PySem.W.looks_subIn X hb).here ?_)
    cases b with
    | false =>
      simp only [Bool.false_eq_true, if_false, Bool.not_false, if_true]
      refine wpAny_bind (try_ne_other hu X I P (inst_get J) hxy ?_)
      refine wpAny_bind (try_ne_other hu X J P' (inst_get I) (Ne.symm hxy) ?_)
      exact fin _
    | true =>
      simp only [Bool.not_true, Bool.false_eq_true, if_false, if_true]
      refine wpAny_bind (try_ne_other hu X J P' (inst_get I) (Ne.symm hxy) ?_)
      refine wpAny_bind (try_ne_other hu X I P (inst_get J) hxy ?_)
      exact fin _
end
end RA
namespace RA
open PySem PySem.Spec PyProof.Rows PySem.SeqAt L2
/-- an instance of a plain class stands there -/
def InsP (K : PySem.W.Frag) (H : Hp) (a C : Addr) : Prop := (∃ dx fs, H a = some (.ins C dx fs)) ∧ PlainC K C
theorem InsP.of {K : PySem.W.Frag} {H : Hp} {a C dx : Addr} {fs : List (Str × V)} (h : H a = some (.ins C dx fs)) (p : PlainC K C) : InsP K H a C := ⟨⟨dx, fs, h⟩, p⟩
section
variable {X : Cx} {pins : List (Addr × Obj)} {σ : L2.St} {H : Hp} {s : Shared}
theorem insp_at {a C : Addr} (I : Inv X pins σ H s) (h : InsP X.K H a C) : ∃ ox od, PySem.W.InstAt s.heap a ox C od := by
  obtain ⟨⟨dx, fs, ha⟩, _⟩ := h
  obtain ⟨mA, O, _⟩ := ins_get I.hok ha
  obtain ⟨od, J, _⟩ := O.look
  exact ⟨_, _, J⟩
/-- x == y: y an instance, None, or a number, a text, a truth -/
def rEqP (K : PySem.W.Frag) : R2 := fun x y H Q => ∃ a C, x = .ref a ∧ InsP K H a C ∧ ((y = .non ∧ Q (.bl false) H) ∨ ∃ b D, y = .ref b ∧ InsP K H b D ∧ PairC K C D ∧ Q (.bl (decide (a = b))) H)
def rNeP (K : PySem.W.Frag) : R2 := fun x y H Q => ∃ a C b D, x = .ref a ∧ InsP K H a C ∧ y = .ref b ∧ InsP K H b D ∧ PairC K C D ∧ Q (.bl (!decide (a = b))) H
theorem op_eqP (hu : X.A.units < cLine) : OpR X (compareOp .Eq) (rEqP X.K) := by
  intro pins s σ H x y v u Q I rx ry h
  obtain ⟨a, C, rfl, ha, h⟩ := h
  cases rx
  obtain ⟨ox, od, Ia⟩ := insp_at I ha
  rcases h with ⟨rfl, q⟩ | ⟨b, D, rfl, hb, hp, q⟩
  · cases ry
    exact HN.rc_none hu I.kIn Ia ha.2.mro ha.2.eq _ _ _ _ (fin_bl I q rfl)
  · cases ry
    obtain ⟨oy, od', Ib⟩ := insp_at I hb
    by_cases z : a = b
    · subst z
      have e : C = D := by
        have h1 := Ia.cls.symm.trans ((congrArg Obj.cls (Option.some.inj (Ia.at_.symm.trans Ib.at_))).trans Ib.cls)
        exact Value.ref.inj h1
      subst e
      exact rc_same hu I.kIn Ia ha.2 _ _ _ _ (fin_bl I q (by simp))
    · exact rc_other hu I.kIn Ia Ib ha.2 hb.2 hp z _ _ _ _ (fin_bl I q (by simp [z]))
theorem op_neP (hu : X.A.units + 1 < cLine) : OpR X (compareOp .NotEq) (rNeP X.K) := by
  intro pins s σ H x y v u Q I rx ry h
  obtain ⟨a, C, b, D, rfl, ha, rfl, hb, hp, q⟩ := h
  cases rx
  cases ry
  obtain ⟨ox, od, Ia⟩ := insp_at I ha
  obtain ⟨oy, od', Ib⟩ := insp_at I hb
  by_cases z : a = b
  · subst z
    exact rcn_same hu I.kIn Ia ha.2 (fin_bl I q (by simp))
  · exact rcn_other hu I.kIn Ia Ib ha.2 hb.2 hp z (fin_bl I q (by simp [z]))
/-- x in l: x an instance, the items instances -/
def rInP (K : PySem.W.Frag) (neg : Bool) : R2 := fun x y H Q => ∃ (a C p : Addr) (as : List Addr), x = .ref a ∧ InsP K H a C ∧ y = .ref p ∧ SqL K H p (as.map V.ref) ∧ (∀ b ∈ as, ∃ D, InsP K H b D ∧ PairC K D C) ∧ Q (.bl (if neg then !decide (a ∈ as) else decide (a ∈ as))) H
theorem eqAt_ref {A : Around} {a b C D : Addr} (I : Inv X pins σ H s) (hu : A.units < cLine) (ha : InsP X.K H a C) (hb : InsP X.K H b D) (hp : PairC X.K D C) : EqAt A s (.ref b) (.ref a) (decide (b = a)) := by
  by_cases z : b = a
  · subst z
    rw [decide_eq_true rfl]
    exact EqAt.same _
  · rw [decide_eq_false z]
    obtain ⟨ox, od, Ia⟩ := insp_at I ha
    obtain ⟨oy, od', Ib⟩ := insp_at I hb
    intro prog w E Q h
    unfold eqBool
    refine wpAny_holding ?_
    refine wpAny_ite_split (fun hab => absurd (eq_of_beq hab) (fun e => z (Value.ref.inj e))) (fun _ => ?_)
    exact wpAny_bind (rc_other hu I.kIn Ib Ia hb.2 ha.2 hp z prog w E _ (wpAny_truthy_bool h))
theorem any_refs {a : Addr} : ∀ {as : List Addr} {us : List Value}, Vals (as.map V.ref) us → us.any (fun u => u == .ref a) = decide (a ∈ as)
  | [], _, .nil => by simp
  | b :: as, u :: us, .cons r t => by
    cases (show u = Value.ref b from r)
    rw [List.any_cons, any_refs t]
    by_cases z : b = a
    · subst z; simp
    · have z' : ¬ a = b := fun e => z e.symm
      simp [z, z']
theorem mem_refs {A : Around} {a C : Addr} (I : Inv X pins σ H s) (hu : A.units < cLine) (ha : InsP X.K H a C) : ∀ {as : List Addr} {us : List Value}, Vals (as.map V.ref) us → (∀ b ∈ as, ∃ D, InsP X.K H b D ∧ PairC X.K D C) → ∀ u ∈ us, EqAt A s u (.ref a) (u == .ref a)
  | [], _, .nil, _ => fun u hu' => by cases hu'
  | b :: as, u :: us, .cons r t, f => fun u' hu' => by
    rcases List.mem_cons.mp hu' with e | hu'
    · subst e
      cases (show u' = Value.ref b from r)
      obtain ⟨D, hb, hp⟩ := f b (List.mem_cons_self ..)
      have e2 : (Value.ref b == Value.ref a) = decide (b = a) := by
        by_cases z : b = a <;> simp [z]
      rw [e2]
      exact eqAt_ref I hu ha hb hp
    · exact mem_refs I hu ha t (fun z hz => f z (List.mem_cons_of_mem _ hz)) u' hu'
theorem op_inP (hu : X.A.units + 64 < cLine) : OpR X (compareOp .In) (rInP X.K false) := by
  intro pins s σ H x y v u Q I rx ry h
  obtain ⟨a, C, p, as, rfl, ha, rfl, hq, f, q⟩ := h
  cases rx
  cases ry
  obtain ⟨its, rv, hl, _⟩ := I.list hq
  have hu1 : X.A.in1.units < cLine := by show X.A.units + 1 < cLine; omega
  refine SeqAt.in_listAt (fun u => u == .ref a) hl.isList (fun z hz => mem_refs I hu1 ha rv f z (by simpa using hz)) ⟨.bl _, H, I, rfl, ?_⟩
  rw [show its.toArray.any (fun u => u == .ref a) = its.any (fun u => u == .ref a) by simp, any_refs rv]
  exact q
theorem op_notInP (hu : X.A.units + 64 < cLine) : OpR X (compareOp .NotIn) (rInP X.K true) := by
  intro pins s σ H x y v u Q I rx ry h
  obtain ⟨a, C, p, as, rfl, ha, rfl, hq, f, q⟩ := h
  cases rx
  cases ry
  obtain ⟨its, rv, hl, _⟩ := I.list hq
  have hu1 : X.A.in1.units < cLine := by show X.A.units + 1 < cLine; omega
  refine SeqAt.notIn_listAt (fun u => u == .ref a) hl.isList (fun z hz => mem_refs I hu1 ha rv f z (by simpa using hz)) ⟨.bl _, H, I, rfl, ?_⟩
  rw [show its.toArray.any (fun u => u == .ref a) = its.any (fun u => u == .ref a) by simp, any_refs rv]
  exact q
/-! ### a def read off its class: C.m(x, ..) -/
structure CFun (K : PySem.W.Frag) (C : Addr) (m : Str) (f : Addr) : Prop where
  ga : PySem.W.specialIn K (.ref C) "__getattribute__" = some (some (.builtin "type.__getattribute__"))
  rd : PySem.W.readsIn K C (.type "type") = true
  at_ : PySem.W.findCls K (.ref C) (.type "type") m = some (.val (.ref f))
  kp : PySem.W.keepIn K (.ref f) = true
def tCFun (C : Addr) (sp : Sp) (dvs : List V) (E : XK) (ta : TE) (t : TA) : TE := fun σ H Q => ta σ H fun x H1 => x = .ref C ∧ t σ H1 fun vs H2 => sp (vs ++ dvs) H2 Q E
theorem pe_cfun {CX : CXT} {k : Nat} {C f : Addr} {fd : FuncData} {ps : List Str} {sp : Sp} {dvs : List V} {ds : List Value} {E : XK} {o e : Expr} {es : List Expr} {m : Str} {pos apos : Pos} {ta : TE} {t : TA} {pl : Sem Bool}
    (he : PE X o ta) (c : CFun X.K C m f) (F : FnOk X.prog X.w X.K X.mg X.base CX k f fd ps sp) (hr : Room k X.A) (hb : Binds X.K fd ps ds) (hd : Vals dvs ds) (hx : Passes CX X E) (ha : PA X (e :: es) t)
    (hst : starEach (e :: es) X.env = (false, eval e X.env) :: starEach es X.env := by rfl) (hpl : (backTo pos (starEach es X.env)).any (·.1) = false := by rfl)
    (ht : eval (.Call (.Attribute o m apos) (e :: es) [] pos) X.env = (do
      let ov ← eval o X.env
      standAt apos.atName
      let (f, first) ← holding [ov] (getMethod ov m pl)
      callWith pos f first (backTo pos (starEach (e :: es) X.env)) (backToKw pos (keywordEach [] X.env))) := by rfl) :
    PE X (.Call (.Attribute o m apos) (e :: es) [] pos) (tCFun C sp dvs E ta t) := by
  refine ⟨fun pins s σ H Q I h => ?_⟩
  refine PySem.W.methodCall_KW (pl := pl) (thn (he.run pins s σ H _ I h) fun u s1 ⟨x, H1, I1, rx, ex, q⟩ => ?_) ht
  subst ex
  obtain rfl : u = Value.ref C := rx
  refine PySem.W.method_cls I1.kIn c.ga (PySem.W.cls_value I1.kIn c.rd c.at_ (handed_of (v := .ref f) rfl) ?_)
  have I2 := I1.tok (s1.toks + 1)
  refine PySem.W.callWith_K (first := []) (h₀ := X.base) I2.ok.mod.kin c.kp (thn (ha.run pos pins _ σ H1 _ I2 q) fun us s2 ⟨vs, H2, I3, r, q2⟩ => ⟨I3.kIn, ?_⟩) hst hpl
  exact run_fn F hr hb hd hx I3 r q2
/-! ### one of two rules -/
theorem PE.or {e : Expr} {t t' : TE} (h : PE X e t) (h' : PE X e t') : PE X e (fun σ H Q => t σ H Q ∨ t' σ H Q) := ⟨fun pins s σ H Q I q => by
  rcases q with q | q
  · exact h.run pins s σ H Q I q
  · exact h'.run pins s σ H Q I q⟩
/-- any of many rules for one expression -/
theorem PE.any {ι : Type} {e : Expr} {t : ι → TE} (S : ι → Prop) (h : ∀ i, S i → PE X e (t i)) : PE X e (fun σ H Q => ∃ i, S i ∧ t i σ H Q) := ⟨fun pins s σ H Q I ⟨i, hi, q⟩ => (h i hi).run pins s σ H Q I q⟩
end
end RA

set_option Elab.async false
set_option linter.all false
set_option maxRecDepth 100000
set_option maxHeartbeats 4000000
/-! The head's facts: He.Fa and He.DefD, further facts of classes, dicts of the top with their items. -/
namespace RB
open PySem PySem.Spec PyProof.Rows L2 He
/-- what isinstance asks of a value's own class -/
structure TyC (K : PySem.W.Frag) (C : Addr) : Prop where
  ha : PySem.W.findIn K (.ref C) "__class__" = some (some (.builtin "object.__class__"))
  hn : PySem.W.specialIn K (.builtin "object.__class__") "__get__" = some (some (.builtin "getset_descriptor.__get__"))
  ht : PySem.W.takesIn K (.builtin "object.__class__") = some true
  hm : PySem.W.mroIn K C (.type "object") = some true
/-- an own class of errors, over ValueError, whose __init__ keeps one field -/
structure ExcF (K : PySem.W.Frag) (C : Addr) (f : Str) : Prop where
  ox : OexC K C
  no : PySem.W.findIn K (.ref C) f = some none
  ini : PySem.W.findIn K (.ref C) "__init__" = some (some (.ref (ma K C "__init__")))
  ty : PySem.W.typeIn K (.ref (ma K C "__init__")) = some (.type "function")
  xf : XfC K C
def clsB (K : PySem.W.Frag) (C : Addr) : Bool := match K.lookup C with
  | some ⟨.type t, _, .cls cd, sl⟩ => decide (t = "type") && (match cd.mro, sl.toList with
    | .ref C' :: bm, [_, _, _, _, some (.builtin n), _] => decide (C' = C) && (decide (n = "ValueError.__new__") && (!cd.hasDel && (cd.hasDict && PySem.HandSPX.refsVE bm)))
    | _, _ => false)
  | _ => false
def oexB (K : PySem.W.Frag) (C : Addr) : Bool := clsB K C && (eqO (PySem.W.findIn K (.ref C) "__setattr__") (some (some (.builtin "object.__setattr__"))) && (decide (PySem.W.subIn K (.ref C) (.type "BaseException") = some true) && (decide (PySem.W.typeIn K (.ref C) = some (.type "type")) && PySem.W.keepIn K (.ref C))))
theorem oexB_ok {K : PySem.W.Frag} {C : Addr} (h : oexB K C = true) : OexC K C := by
  obtain ⟨h1, h⟩ := ba h
  obtain ⟨h2, h⟩ := ba h
  obtain ⟨h3, h⟩ := ba h
  obtain ⟨h4, h5⟩ := ba h
  refine ⟨?_, eqO_ok h2, of_decide_eq_true h3, of_decide_eq_true h4, h5⟩
  unfold clsB at h1
  split at h1
  · rename_i t dd cd sl ho
    obtain ⟨ht, h1⟩ := ba h1
    split at h1
    · rename_i C' bm k0 k1 k2 k3 n k5 hm hs
      obtain ⟨e1, h1⟩ := ba h1
      obtain ⟨e2, h1⟩ := ba h1
      obtain ⟨e3, h1⟩ := ba h1
      obtain ⟨e4, e5⟩ := ba h1
      have e1 := of_decide_eq_true e1
      have e2 := of_decide_eq_true e2
      have ht := of_decide_eq_true ht
      subst e1 e2 ht
      obtain ⟨nm, bs, mro, ns, qn, hd, sn, sub, ab, col, del⟩ := cd
      dsimp only at hm e3 e4
      subst hm e4
      have e3 : del = false := by cases del with
        | false => rfl
        | true => cases e3
      subst e3
      have hsl : sl = #[k0, k1, k2, k3, some (.builtin "ValueError.__new__"), k5] := by
        obtain ⟨l⟩ := sl
        dsimp only at hs
        rw [hs]
      subst hsl
      exact ⟨nm, qn, ns, bs, bm, sn, sub, ab, col, dd, k0, k1, k2, k3, k5, ho, e5⟩
    · cases h1
  · cases h1
inductive Fx where
  | exc (x f : Str)
  | exm (x y : Str) (b : Bool)
  | pl (x : Str)
  | sub (x y : Str)
  | cf (x m : Str)
  | ty (x : Str)
  | kit (x y : Str) (b : Bool)
  | kib (n : String) (y : Str) (b : Bool)
  | dtup (p : Str × Option Str) (i : Nat)
  | kiy (x : Str) (n : String) (b : Bool)
  | ktup (x : Str) (zs : List Str)
  | ktupi (x : Str) (ns : List Int)
  | ktn (x : Str)
/-- these values are these texts -/
def strsB : List Value → List Str → Bool
  | [], [] => true
  | .str a _ :: r, z :: zs => decide (a = z) && strsB r zs
  | _, _ => false
/-- these values are these numbers -/
def intsB : List Value → List Int → Bool
  | [], [] => true
  | .int a _ :: r, z :: zs => decide (a = z) && intsB r zs
  | _, _ => false
def Fx.ok (K : PySem.W.Frag) : Fx → Bool
  | .exc x f => oexB K (ga K x) && (eqO (PySem.W.findIn K (.ref (ga K x)) f) (some none) && (decide (PySem.W.findIn K (.ref (ga K x)) "__init__" = some (some (.ref (ma K (ga K x) "__init__")))) && (decide (PySem.W.typeIn K (.ref (ma K (ga K x) "__init__")) = some (.type "function")) && xfB K (ga K x))))
  | .exm x y b => decide (PySem.W.exmOne K (.ref (ga K x)) (.ref (ga K y)) = some b)
  | .pl x => decide (PySem.W.mroIn K (ga K x) (.type "object") = some true) && (eqO (PySem.W.findIn K (.ref (ga K x)) "__eq__") (some (some (.builtin "object.__eq__"))) && eqO (PySem.W.findIn K (.ref (ga K x)) "__ne__") (some (some (.builtin "object.__ne__"))))
  | .sub x y => decide (ga K x = ga K y) || (PySem.W.subIn K (.ref (ga K y)) (.ref (ga K x))).isSome
  | .cf x m => eqO (PySem.W.specialIn K (.ref (ga K x)) "__getattribute__") (some (some (.builtin "type.__getattribute__"))) && (PySem.W.readsIn K (ga K x) (.type "type") && ((match PySem.W.findCls K (.ref (ga K x)) (.type "type") m with
    | some (.val (.ref f)) => decide (f = ma K (ga K x) m)
    | _ => false) && PySem.W.keepIn K (.ref (ma K (ga K x) m))))
  | .ty x => eqO (PySem.W.findIn K (.ref (ga K x)) "__class__") (some (some (.builtin "object.__class__"))) && (eqO (PySem.W.specialIn K (.builtin "object.__class__") "__get__") (some (some (.builtin "getset_descriptor.__get__"))) && (decide (PySem.W.takesIn K (.builtin "object.__class__") = some true) && decide (PySem.W.mroIn K (ga K x) (.type "object") = some true)))
  | .kit x y b => decide (PySem.W.kitOne K (.ref (ga K x)) (.ref (ga K y)) = some b)
  | .kib n y b => decide (PySem.W.kitOne K (.type n) (.ref (ga K y)) = some b)
  | .ktup x zs => decide (zs.length ≤ 1000) && (match K.lookup (ga K x) with
    | some ⟨.type c, _, .seq its _, _⟩ => decide (c = "tuple") && strsB its.toList zs
    | _ => false)
  | .ktupi x zs => decide (zs.length ≤ 1000) && (match K.lookup (ga K x) with
    | some ⟨.type c, _, .seq its _, _⟩ => decide (c = "tuple") && intsB its.toList zs
    | _ => false)
  | .ktn x => (match K.lookup (ga K x) with
    | some ⟨.type c, none, _, _⟩ => decide (c = "tuple")
    | _ => false)
  | .kiy x n b => decide (PySem.W.kitOne K (.ref (ga K x)) (.type n) = some b)
  | .dtup p i => (match K.lookup (dflAt p i K) with
    | some ⟨.type c, _, .seq its _, _⟩ => decide (c = "tuple") && its.isEmpty
    | _ => false)
section
variable {K : PySem.W.Frag}
theorem exc_ok {x f : Str} (c : (Fx.exc x f).ok K = true) : ExcF K (ga K x) f := by
  obtain ⟨c1, c⟩ := ba c
  obtain ⟨c2, c⟩ := ba c
  obtain ⟨c3, c⟩ := ba c
  obtain ⟨c4, c5⟩ := ba c
  exact ⟨oexB_ok c1, eqO_ok c2, of_decide_eq_true c3, of_decide_eq_true c4, xfB_ok c5⟩
theorem exm_ok {x y : Str} {b : Bool} (c : (Fx.exm x y b).ok K = true) : PySem.W.exmOne K (.ref (ga K x)) (.ref (ga K y)) = some b := of_decide_eq_true c
theorem pl_ok {x : Str} (c : (Fx.pl x).ok K = true) : RA.PlainC K (ga K x) := by
  obtain ⟨c1, c⟩ := ba c
  obtain ⟨c2, c3⟩ := ba c
  exact ⟨of_decide_eq_true c1, eqO_ok c2, eqO_ok c3⟩
theorem sub_ok {x y : Str} (c : (Fx.sub x y).ok K = true) : RA.PairC K (ga K x) (ga K y) := by
  rcases Bool.or_eq_true_iff.mp c with c | c
  · exact .inl (of_decide_eq_true c)
  · exact .inr (Option.isSome_iff_exists.mp c)
theorem cf_ok {x m : Str} (c : (Fx.cf x m).ok K = true) : RA.CFun K (ga K x) m (ma K (ga K x) m) := by
  obtain ⟨c1, c⟩ := ba c
  obtain ⟨c2, c⟩ := ba c
  obtain ⟨c3, c4⟩ := ba c
  refine ⟨eqO_ok c1, c2, ?_, c4⟩
  cases e : PySem.W.findCls K (.ref (ga K x)) (.type "type") m with
  | none => rw [e] at c3; cases c3
  | some r =>
    rw [e] at c3
    cases r with
    | get _ _ _ _ => cases c3
    | val v =>
      cases v with
      | ref f => rw [of_decide_eq_true c3]
      | _ => cases c3
theorem ty_ok {x : Str} (c : (Fx.ty x).ok K = true) : TyC K (ga K x) := by
  obtain ⟨c1, c⟩ := ba c
  obtain ⟨c2, c⟩ := ba c
  obtain ⟨c3, c4⟩ := ba c
  exact ⟨eqO_ok c1, eqO_ok c2, of_decide_eq_true c3, of_decide_eq_true c4⟩
theorem kit_ok {x y : Str} {b : Bool} (c : (Fx.kit x y b).ok K = true) : PySem.W.kitOne K (.ref (ga K x)) (.ref (ga K y)) = some b := of_decide_eq_true c
theorem kiy_ok {x : Str} {n : String} {b : Bool} (c : (Fx.kiy x n b).ok K = true) : PySem.W.kitOne K (.ref (ga K x)) (.type n) = some b := of_decide_eq_true c
theorem kib_ok {n : String} {y : Str} {b : Bool} (c : (Fx.kib n y b).ok K = true) : PySem.W.kitOne K (.type n) (.ref (ga K y)) = some b := of_decide_eq_true c
theorem dtup_ok {p : Str × Option Str} {i : Nat} (h : (Fx.dtup p i).ok K = true) (H : Hp) : SqT K H (dflAt p i K) [] := by
  have h1 : (match K.lookup (dflAt p i K) with
    | some ⟨.type c, _, .seq its _, _⟩ => decide (c = "tuple") && its.isEmpty
    | _ => false) = true := h
  cases q : K.lookup (dflAt p i K) with
  | none => rw [q] at h1; cases h1
  | some o =>
    obtain ⟨oc, od, dt, osl⟩ := o
    rw [q] at h1
    cases oc with
    | type c =>
      cases dt with
      | seq its n =>
        obtain ⟨h2, h3⟩ := ba (show (decide (c = "tuple") && its.isEmpty) = true from h1)
        have e3 : its = #[] := Array.isEmpty_iff.mp h3
        subst e3
        exact .inr ⟨_, #[], n, q, congrArg Value.type (of_decide_eq_true h2), rfl, Nat.zero_le _, .nil⟩
      | _ => cases h1
    | _ => cases dt <;> cases h1
theorem strs_vals : ∀ {us : List Value} {zs : List Str}, strsB us zs = true → Vals (zs.map V.str) us
  | [], [], _ => .nil
  | .str a t :: r, z :: zs, h => by
    obtain ⟨h1, h2⟩ := ba (show (decide (a = z) && strsB r zs) = true from h)
    obtain rfl := of_decide_eq_true h1
    exact .cons ⟨t, rfl⟩ (strs_vals h2)
theorem ktup_ok {x : Str} {zs : List Str} (h : (Fx.ktup x zs).ok K = true) (H : Hp) : SqT K H (ga K x) (zs.map V.str) := by
  obtain ⟨h0, h⟩ := ba h
  have h1 : (match K.lookup (ga K x) with
    | some ⟨.type c, _, .seq its _, _⟩ => decide (c = "tuple") && strsB its.toList zs
    | _ => false) = true := h
  cases q : K.lookup (ga K x) with
  | none => rw [q] at h1; cases h1
  | some o =>
    obtain ⟨oc, od, dt, osl⟩ := o
    rw [q] at h1
    cases oc with
    | type c =>
      cases dt with
      | seq its n =>
        obtain ⟨h2, h3⟩ := ba (show (decide (c = "tuple") && strsB its.toList zs) = true from h1)
        have hv := strs_vals h3
        refine .inr ⟨_, its, n, q, congrArg Value.type (of_decide_eq_true h2), rfl, ?_, hv⟩
        have hl := hv.length
        have hz := of_decide_eq_true h0
        rw [List.length_map] at hl
        have : its.size = zs.length := by rw [← Array.length_toList]; omega
        rw [this, sizeLine_eq]; omega
      | _ => cases h1
    | _ => cases dt <;> cases h1
theorem ints_vals : ∀ {us : List Value} {zs : List Int}, intsB us zs = true → Vals (zs.map V.int) us
  | [], [], _ => .nil
  | .int a t :: r, z :: zs, h => by
    obtain ⟨h1, h2⟩ := ba (show (decide (a = z) && intsB r zs) = true from h)
    obtain rfl := of_decide_eq_true h1
    exact .cons ⟨t, rfl⟩ (ints_vals h2)
theorem ktn_ok {x : Str} (h : (Fx.ktn x).ok K = true) : ∃ o, K.lookup (ga K x) = some o ∧ o.cls = .type "tuple" ∧ o.dict = none := by
  have h1 : (match K.lookup (ga K x) with
    | some ⟨.type c, none, _, _⟩ => decide (c = "tuple")
    | _ => false) = true := h
  cases q : K.lookup (ga K x) with
  | none => rw [q] at h1; cases h1
  | some o =>
    obtain ⟨oc, od, dt, osl⟩ := o
    rw [q] at h1
    cases oc with
    | type c =>
      cases od with
      | none => exact ⟨_, rfl, by rw [of_decide_eq_true h1], rfl⟩
      | some d => cases h1
    | _ => cases od <;> cases h1
theorem ktupi_ok {x : Str} {zs : List Int} (h : (Fx.ktupi x zs).ok K = true) (H : Hp) : SqT K H (ga K x) (zs.map V.int) := by
  obtain ⟨h0, h⟩ := ba h
  have h1 : (match K.lookup (ga K x) with
    | some ⟨.type c, _, .seq its _, _⟩ => decide (c = "tuple") && intsB its.toList zs
    | _ => false) = true := h
  cases q : K.lookup (ga K x) with
  | none => rw [q] at h1; cases h1
  | some o =>
    obtain ⟨oc, od, dt, osl⟩ := o
    rw [q] at h1
    cases oc with
    | type c =>
      cases dt with
      | seq its n =>
        obtain ⟨h2, h3⟩ := ba (show (decide (c = "tuple") && intsB its.toList zs) = true from h1)
        have hv := ints_vals h3
        refine .inr ⟨_, its, n, q, congrArg Value.type (of_decide_eq_true h2), rfl, ?_, hv⟩
        have hl := hv.length
        have hz := of_decide_eq_true h0
        rw [List.length_map] at hl
        have : its.size = zs.length := by rw [← Array.length_toList]; omega
        rw [this, sizeLine_eq]; omega
      | _ => cases h1
    | _ => cases dt <;> cases h1
theorem TyC.tyx {C a dx : Addr} {H : Hp} {fs : List (Str × V)} (t : TyC K C) (c : Cls K C) (e : H a = some (.ins C dx fs)) : TyX K H (.ref a) (.ref C) := .base (.ins e c t.ha t.hn t.ht t.hm)
end
/-! ### dicts of the top -/
def keyE (e : DictEntry) : Option (Key × Int) := match e.key with
  | .int i _ => some (Sum.inl i, e.hash)
  | .str x _ => some (Sum.inr x, e.hash)
  | _ => none
def keyHP (P : Params) : Key → Int
  | .inl i => hashInt i
  | .inr x => PyData.keyHash P x
abbrev Tb : Type := Str × List (Key × Dv)
def tbRow (K : PySem.W.Frag) (x : Str) : Option (List (Option (Key × Int))) := match K.lookup (ga K x) with
  | some ⟨.type c, none, .dict es _, sl⟩ => (match decide (c = "dict") && (sl.isEmpty && !(ga K x == sysModules)) with
    | true => some (es.toList.map keyE)
    | false => none)
  | _ => none
def tbWant (P : Params) (kvs : List (Key × Dv)) : Option (List (Option (Key × Int))) := some (kvs.map fun q => some (q.1, keyHP P q.1))
def tbVals (K : PySem.W.Frag) (t : Tb) : Bool := decide ((t.2.map (·.1)).Nodup) && (decide (t.2.length ≤ sizeLine) && (match K.lookup (ga K t.1) with
  | some ⟨_, _, .dict es _, _⟩ => relAll (t.2.map fun q => q.2.v K) (es.toList.map (·.val))
  | _ => false))
/-- a dict of the top with these items -/
structure KD (P : Program) (w : World) (K : PySem.W.Frag) (a : Addr) (kvs : List (Key × V)) : Prop where
  low : (a == sysModules) = false
  len : kvs.length ≤ sizeLine
  at_ : ∃ vs, KV kvs vs ∧ ∀ h : Heap, K.In h → h.DictOf (mixKind P w) a vs
theorem rows_pairs {P : Program} {w : World} : ∀ {es : List DictEntry} {kvs : List (Key × V)}, es.map keyE = kvs.map (fun q => some (q.1, keyHP w.params q.1)) → relAll (kvs.map (·.2)) (es.map (·.val)) = true →
    ∃ vs, KV kvs vs ∧ Pairs (mixKind P w) es vs ∧ vs.map (·.1) = kvs.map (·.1) ∧ ∀ e ∈ es, ∃ k, (mixKind P w).is k e.key = true ∧ e.hash = (mixKind P w).hash k
  | [], [], _, _ => ⟨[], .nil, .nil, rfl, fun _ h => nomatch h⟩
  | [], _ :: _, h, _ => by cases h
  | _ :: _, [], h, _ => by cases h
  | e :: es, q :: kvs, h, hv => by
    rw [List.map_cons, List.map_cons] at h
    injection h with h1 h2
    obtain ⟨v1, v2⟩ := ba (show (relB q.2 e.val && relAll (kvs.map (·.2)) (es.map (·.val))) = true from hv)
    obtain ⟨vs, r, p, n, kk⟩ := rows_pairs (P := P) h2 v2
    have key : (mixKind P w).is q.1 e.key = true ∧ e.hash = (mixKind P w).hash q.1 := by
      unfold keyE at h1
      split at h1
      · rename_i i t ek
        have h3 := Prod.mk.inj (Option.some.inj h1)
        rw [← h3.1, ek]
        refine ⟨mixKind_int P w i t, ?_⟩
        rw [h3.2, ← h3.1]; rfl
      · rename_i x t ek
        have h3 := Prod.mk.inj (Option.some.inj h1)
        rw [← h3.1, ek]
        refine ⟨mixKind_str P w x t, ?_⟩
        rw [h3.2, ← h3.1]; rfl
      · cases h1
    refine ⟨(q.1, e.val) :: vs, .cons ⟨rfl, relB_ok v1⟩ r, .cons key.1 rfl p, by rw [List.map_cons, List.map_cons, n], fun e' he => ?_⟩
    rcases List.mem_cons.mp he with rfl | he
    · exact ⟨q.1, key⟩
    · exact kk e' he
theorem kd_of {P : Program} {w : World} {K : PySem.W.Frag} {t : Tb} (h1 : tbRow K t.1 = tbWant w.params t.2) (h2 : tbVals K t = true) : KD P w K (ga K t.1) (t.2.map fun q => (q.1, q.2.v K)) := by
  obtain ⟨nd, h2⟩ := ba h2
  obtain ⟨ln, h2⟩ := ba h2
  unfold tbRow tbWant at h1
  cases q : K.lookup (ga K t.1) with
  | none => rw [q] at h1; cases h1
  | some o =>
    obtain ⟨oc, od, dt, osl⟩ := o
    rw [q] at h1 h2
    cases oc with
    | type c =>
      cases od with
      | none =>
        cases dt with
        | dict es n =>
          have h3 : (match decide (c = "dict") && (osl.isEmpty && !(ga K t.1 == sysModules)) with
            | true => some (es.toList.map keyE)
            | false => none) = some (t.2.map fun q => some (q.1, keyHP w.params q.1)) := h1
          cases z : decide (c = "dict") && (osl.isEmpty && !(ga K t.1 == sysModules)) with
          | false => rw [z] at h3; cases h3
          | true =>
            rw [z] at h3
            obtain ⟨z1, z2⟩ := ba z
            obtain ⟨z3, z4⟩ := ba z2
            have e1 : c = "dict" := of_decide_eq_true z1
            have e2 : osl = #[] := Array.isEmpty_iff.mp z3
            have e3 : (ga K t.1 == sysModules) = false := by
              cases y : (ga K t.1 == sysModules) with
              | false => rfl
              | true => rw [y] at z4; cases z4
            subst e1 e2
            have h4 : es.toList.map keyE = (t.2.map fun q => (q.1, q.2.v K)).map (fun q => some (q.1, keyHP w.params q.1)) := by
              rw [List.map_map]
              exact Option.some.inj h3
            have h5 : relAll ((t.2.map fun q => (q.1, q.2.v K)).map (·.2)) (es.toList.map (·.val)) = true := by
              rw [List.map_map]
              exact h2
            obtain ⟨vs, r, p, nm, kk⟩ := rows_pairs (P := P) h4 h5
            refine ⟨e3, by rw [List.length_map]; exact of_decide_eq_true ln, vs, r, fun h X => ⟨_, es, n, X _ _ q, ⟨rfl, rfl, rfl⟩, rfl, fun e he => kk e (Array.mem_toList_iff.mpr he), p, ?_⟩⟩
            rw [nm, List.map_map]
            exact of_decide_eq_true nd
        | _ => cases h1
      | some d => cases dt <;> cases h1
    | _ => cases od <;> cases dt <;> cases h1
section
variable {X : Cx}
/-- dict(D), D a dict of the top: a new one -/
theorem call_dictK {D : Addr} {kvs : List (Key × V)} (k : KD X.prog X.w X.K D kvs) : CallR X (.type "dict") (fun xs H Q => xs = [.ref D] ∧ ∀ p, H p = none → Q (.ref p) (upd H p (.dK kvs))) := by
  intro pins s σ H xs us Q I r q
  obtain ⟨ex, q⟩ := q
  subst ex
  obtain ⟨u, eu, rx⟩ := vals1 r
  subst eu
  cases rx
  obtain ⟨vs, rel, dd⟩ := k.at_
  refine kt_call_dict k.low (dd _ I.kIn) (by rw [← rel.length]; exact k.len) fun h' d' hs => ?_
  have hm : (s.heap.objs.size == sysModules) = false := beq_eq_false_iff_ne.mpr (Nat.ne_of_gt I.big)
  exact ⟨.ref s.heap.objs.size, upd H s.heap.objs.size (.dK kvs), I.laid (t' := s.toks) (fun b u e => (hs.2 b (Nat.ne_of_lt (Heap.lt_size e))).trans (Heap.get?_push_of_some _ e)) (Nat.le_refl _)
    (show ObjOk X.prog X.w _ _ _ (.dK kvs) from ⟨k.len, hm, vs, rel, d'⟩), rfl, q _ (I.hok.fresh (Nat.le_refl _))⟩
end
/-! ### the Hook -/
abbrev AlB : Type := AlD × List (Option (List (Option (Key × Int)))) × Bool
def obsB (fa : List Fa) (fx : List Fx) (fn : List DefD) (ts : List Tb) (K : PySem.W.Frag) : AlB := (obsD fa fn K, ts.map fun t => tbRow K t.1, (fx.all fun f => f.ok K) && ts.all fun t => tbVals K t)
def valB (fn : List DefD) (ts : List Tb) (w : World) : AlB := (valD fn, ts.map fun t => tbWant w.params t.2, true)
def SaysB (fa : List Fa) (fx : List Fx) (fn : List DefD) (ts : List Tb) (w : World) (K : PySem.W.Frag) : Prop := obsB fa fx fn ts K = valB fn ts w
/-- and the objects that are defaults: one step further, for those alone -/
def extraB (g : Addr → Option Obj) (fx : List Fx) (as : List Addr) : List Addr := cStatics :: (as ++ fx.filterMap fun
  | .dtup p i => some (dflAt p i (frG g as))
  | .ktup x _ => some (ga (frG g as) x)
  | .ktupi x _ => some (ga (frG g as) x)
  | _ => none)
def obsBG (n : Nat) (fa : List Fa) (fx : List Fx) (fn : List DefD) (ts : List Tb) (g : Addr → Option Obj) : AlB := obsB fa fx fn ts (frG g (extraB g fx (asD g n)))
def hookB (n : Nat) (fa : List Fa) (fx : List Fx) (fn : List DefD) (ts : List Tb) : PySem.W.Hook where
  α := AlB
  obs := fun s => obsBG n fa fx fn ts s.heap.get?
  val := fun w => valB fn ts w
  says := fun w h => ∃ K : PySem.W.Frag, K.In h ∧ SaysB fa fx fn ts w K
  of := fun _ _ e => ⟨_, frG_in, e⟩
  keeps := fun _ _ _ ⟨K, hK, c⟩ k => ⟨K, PySem.W.Frag.In.keeps hK k, c⟩
theorem obsBG_eq {n : Nat} {fa : List Fa} {fx : List Fx} {fn : List DefD} {ts : List Tb} {g : Addr → Option Obj} {s : Shared} (h : ∀ a, g a = s.heap.get? a) : obsBG n fa fx fn ts g = (hookB n fa fx fn ts).obs s := by
  have e : g = s.heap.get? := funext h
  rw [e] <;> rfl
section
variable {fa : List Fa} {fx : List Fx} {fn : List DefD} {ts : List Tb} {w : World} {K : PySem.W.Frag}
theorem SaysB.d (c : SaysB fa fx fn ts w K) : SaysD fa fn K := congrArg (fun z : AlB => z.1) c
theorem SaysB.fact (c : SaysB fa fx fn ts w K) (i : Nat) {f : Fa} (h : fa[i]? = some f := by rfl) : f.ok K = true := c.d.fact i h
theorem SaysB.more (c : SaysB fa fx fn ts w K) (i : Nat) {f : Fx} (h : fx[i]? = some f := by rfl) : f.ok K = true := by
  have c1 := (ba (show ((fx.all fun f => f.ok K) && ts.all fun t => tbVals K t) = true from congrArg (fun z : AlB => z.2.2) c)).1
  exact List.all_eq_true.mp c1 f (List.mem_of_getElem? h)
theorem SaysB.tb (c : SaysB fa fx fn ts w K) (i : Nat) {t : Tb} (h : ts[i]? = some t := by rfl) (P : Program) : KD P w K (ga K t.1) (t.2.map fun q => (q.1, q.2.v K)) := by
  have c1 := (ba (show ((fx.all fun f => f.ok K) && ts.all fun t => tbVals K t) = true from congrArg (fun z : AlB => z.2.2) c)).2
  have e : ts.map (fun t => tbRow K t.1) = ts.map fun t => tbWant w.params t.2 := congrArg (fun z : AlB => z.2.1) c
  have e2 : (ts.map fun t => tbRow K t.1)[i]? = (ts.map fun t => tbWant w.params t.2)[i]? := by rw [e]
  rw [List.getElem?_map, List.getElem?_map, h] at e2
  exact kd_of (Option.some.inj e2) (List.all_eq_true.mp c1 t (List.mem_of_getElem? h))
end
end RB

set_option Elab.async false
set_option linter.all false
set_option maxRecDepth 100000
set_option maxHeartbeats 4000000
/-! What a caller needs of a def, in one word; the stream of draws. -/
namespace RC
open PySem PySem.Spec PyProof.Rows L2 He
/-- the def at f may be called with all parameters but the last ones, whose defaults are dvs -/
def Callable (P : Program) (w : World) (K : PySem.W.Frag) (mg : Str → Option Value) (base : Heap) (k : Nat) (f : Addr) (ps : List Str) (dvs : List V) (sp : Sp) : Prop :=
  ∃ fd ds, FnOk P w K mg base CX0 k f fd ps sp ∧ Vals dvs ds ∧ Binds K fd ps ds ∧ PySem.W.keepIn K (.ref f) = true
section
variable {X : Cx} {k : Nat} {f C : Addr} {ps : List Str} {sp : Sp} {dvs : List V} {x m : Str} {p pos apos : Pos} {e o : Expr} {es : List Expr} {ta : TE} {t : TA} {pl : Sem Bool}
theorem pe_fn (hm : X.mg x = some (.ref f)) (c : Callable X.prog X.w X.K X.mg X.base k f ps dvs sp) (hr : Room k X.A) (hg : Gl X x) (ha : PA X (e :: es) t) (hdb : (x == ("__debug__" : Str)) = false := by decide)
    (he : starEach (e :: es) X.env = (false, eval e X.env) :: starEach es X.env := by rfl) (hpl : (backTo pos (starEach es X.env)).any (·.1) = false := by rfl) : PE X (.Call (.Name x p) (e :: es) [] pos) (tCall sp dvs E0 t) := by
  obtain ⟨fd, ds, F, hd, hb, hk⟩ := c
  exact pe_call F hr hg hm hk hb hd pass0 ha hdb he hpl
theorem pe_fn0 (hm : X.mg x = some (.ref f)) (c : Callable X.prog X.w X.K X.mg X.base k f ps dvs sp) (hr : Room k X.A) (hg : Gl X x) (hdb : (x == ("__debug__" : Str)) = false := by decide) : PE X (.Call (.Name x p) [] [] pos) (tCall sp dvs E0 tNil) := by
  obtain ⟨fd, ds, F, hd, hb, hk⟩ := c
  exact pe_call0 F hr hg hm hk hb hd pass0 hdb
theorem pe_mt (cl : Cls X.K C) (hm : Meth X.K C m f) (c : Callable X.prog X.w X.K X.mg X.base k f ps dvs sp) (hr : Room k X.A) (he : PE X o ta) (ha : PA X (e :: es) t)
    (hst : starEach (e :: es) X.env = (false, eval e X.env) :: starEach es X.env := by rfl) (hpl : (backTo pos (starEach es X.env)).any (·.1) = false := by rfl)
    (ht : eval (.Call (.Attribute o m apos) (e :: es) [] pos) X.env = (do
      let ov ← eval o X.env
      standAt apos.atName
      let (f, first) ← holding [ov] (getMethod ov m pl)
      callWith pos f first (backTo pos (starEach (e :: es) X.env)) (backToKw pos (keywordEach [] X.env))) := by rfl) :
    PE X (.Call (.Attribute o m apos) (e :: es) [] pos) (tMeth C m sp dvs E0 ta t) := by
  obtain ⟨fd, ds, F, hd, hb, hk⟩ := c
  exact pe_meth he cl hm F hr hb hd pass0 ha hst hpl ht
theorem pe_mt0 (cl : Cls X.K C) (hm : Meth X.K C m f) (c : Callable X.prog X.w X.K X.mg X.base k f ps dvs sp) (hr : Room k X.A) (he : PE X o ta)
    (ht : eval (.Call (.Attribute o m apos) [] [] pos) X.env = (do
      let ov ← eval o X.env
      standAt apos.atName
      let (f, first) ← holding [ov] (getMethod ov m pl)
      callWith pos f first (backTo pos (starEach [] X.env)) (backToKw pos (keywordEach [] X.env))) := by rfl) :
    PE X (.Call (.Attribute o m apos) [] [] pos) (tMeth C m sp dvs E0 ta tNil) := by
  obtain ⟨fd, ds, F, hd, hb, hk⟩ := c
  exact pe_meth0 he cl hm F hr hb hd pass0 ht
theorem pe_mk (M : Mk X.K C f) (hm : X.mg x = some (.ref C)) (c : Callable X.prog X.w X.K X.mg X.base k f ps dvs sp) (hr : Room (k + 1) X.A) (hg : Gl X x) (ha : PA X (e :: es) t) (hdb : (x == ("__debug__" : Str)) = false := by decide)
    (he : starEach (e :: es) X.env = (false, eval e X.env) :: starEach es X.env := by rfl) (hpl : (backTo pos (starEach es X.env)).any (·.1) = false := by rfl) : PE X (.Call (.Name x p) (e :: es) [] pos) (tMake C sp dvs E0 t) := by
  obtain ⟨fd, ds, F, hd, hb, hk⟩ := c
  exact pe_make M F hr hg hm hb hd pass0 ha hdb he hpl
theorem pe_mk0 (M : Mk X.K C f) (hm : X.mg x = some (.ref C)) (c : Callable X.prog X.w X.K X.mg X.base k f ps dvs sp) (hr : Room (k + 1) X.A) (hg : Gl X x) (hdb : (x == ("__debug__" : Str)) = false := by decide) : PE X (.Call (.Name x p) [] [] pos) (tMake C sp dvs E0 tNil) := by
  obtain ⟨fd, ds, F, hd, hb, hk⟩ := c
  exact pe_make0 M F hr hg hm hb hd pass0 hdb
theorem pe_cf (cf : RA.CFun X.K C m f) (c : Callable X.prog X.w X.K X.mg X.base k f ps dvs sp) (hr : Room k X.A) (he : PE X o ta) (ha : PA X (e :: es) t)
    (hst : starEach (e :: es) X.env = (false, eval e X.env) :: starEach es X.env := by rfl) (hpl : (backTo pos (starEach es X.env)).any (·.1) = false := by rfl)
    (ht : eval (.Call (.Attribute o m apos) (e :: es) [] pos) X.env = (do
      let ov ← eval o X.env
      standAt apos.atName
      let (f, first) ← holding [ov] (getMethod ov m pl)
      callWith pos f first (backTo pos (starEach (e :: es) X.env)) (backToKw pos (keywordEach [] X.env))) := by rfl) :
    PE X (.Call (.Attribute o m apos) (e :: es) [] pos) (RA.tCFun C sp dvs E0 ta t) := by
  obtain ⟨fd, ds, F, hd, hb, hk⟩ := c
  exact RA.pe_cfun he cf F hr hb hd pass0 ha hst hpl ht
end
section
variable {P : Program} {w : World} {K : PySem.W.Frag} {mg : Str → Option Value} {base : Heap} {x qual : Str} {params : Arguments} {body : List Stmt} {scope : Scope} {dvs : List V} {f : Addr} {k : Nat} {N ps : List Str} {sp : Sp}
/-- a def that stands there -/
def Stands (K : PySem.W.Frag) (x qual : Str) (st : Stmt) (dvs : List V) (f : Addr) : Prop := ∃ fd, FunD K x qual (defArgs st) (defBody st) (defScope st) dvs [] f fd
/-- THE RULE for a def, whatever its defaults: what it promises of every call; bind: how its arguments bind with the first n parameters given -/
theorem Stands.call {st : Stmt} (F : Stands K x qual st dvs f) (S : FnScope N ps (defScope st)) (n j : Nat) (len : ∀ vs H Q E, sp vs H Q E → vs.length = ps.length)
    (hbody : ∀ (cdv : Value) (A : Around) (outer : List Env) (s : Shared) (H : Hp) (vs : List V) (Q : VK) (E : XK), Room k (A.deeper (envOfC qual (defScope st) s.heap.objs.size f cdv)) → sp vs H Q E →
      ∃ t, PSs (cxOf CX0 P w K mg base N qual (defScope st) f cdv A outer s H E).nox (defBody st) t ∧ t { nx := fun _ H' => Q .non H', rt := Q } (start N vs) H)
    (h0 : dvs = [] → n = ps.length ∧ ∀ (kV doc pm : Value) (an : Option Addr) (cdv ct : Value) (us : List Value), us.length = ps.length → bindArgs (PySem.W.fnOf x qual (defArgs st) (defBody st) (defScope st) .none kV doc pm an cdv ct) ⟨us, []⟩ = pure (ps.zip us))
    (h1 : dvs ≠ [] → n + (dvs.length - j) = ps.length ∧ ∀ (T : Addr) (kV doc pm : Value) (an : Option Addr) (cdv ct : Value) (us its : List Value), us.length = n → its.length = dvs.length →
      ∃ k, bindArgs (PySem.W.fnOf x qual (defArgs st) (defBody st) (defScope st) (.ref T) kV doc pm an cdv ct) ⟨us, []⟩ = seqItems? (.ref T) >>= k ∧ k (some its.toArray) = pure (ps.zip (us ++ its.drop j))) :
    Callable P w K mg base (k + 1) f ps (dvs.drop j) sp := by
  obtain ⟨fd, F⟩ := F
  have ok : FnOk P w K mg base CX0 (k + 1) f fd ps sp := F.ok S len fun cdv A outer s H vs Q E hr hsp => by
    obtain ⟨t, h, q⟩ := hbody cdv A outer s H vs Q E hr hsp
    exact ⟨t, h.nox, q⟩
  by_cases hd : dvs = []
  · subst hd
    exact ⟨fd, [], ok, by rw [List.drop_nil]; exact .nil, F.bindsN (h0 rfl).2, F.kp⟩
  · obtain ⟨ds, hv, hb⟩ := F.binds1 n j hd (h1 hd).1 (h1 hd).2
    exact ⟨fd, ds, ok, hv, hb, F.kp⟩
/-- no defaults -/
theorem Stands.call0 {st : Stmt} (F : Stands K x qual st [] f) (S : FnScope N ps (defScope st)) (len : ∀ vs H Q E, sp vs H Q E → vs.length = ps.length)
    (hbody : ∀ (cdv : Value) (A : Around) (outer : List Env) (s : Shared) (H : Hp) (vs : List V) (Q : VK) (E : XK), Room k (A.deeper (envOfC qual (defScope st) s.heap.objs.size f cdv)) → sp vs H Q E →
      ∃ t, PSs (cxOf CX0 P w K mg base N qual (defScope st) f cdv A outer s H E).nox (defBody st) t ∧ t { nx := fun _ H' => Q .non H', rt := Q } (start N vs) H)
    (h0 : ∀ (kV doc pm : Value) (an : Option Addr) (cdv ct : Value) (us : List Value), us.length = ps.length → bindArgs (PySem.W.fnOf x qual (defArgs st) (defBody st) (defScope st) .none kV doc pm an cdv ct) ⟨us, []⟩ = pure (ps.zip us)) :
    Callable P w K mg base (k + 1) f ps [] sp := by
  obtain ⟨fd, F⟩ := F
  have ok : FnOk P w K mg base CX0 (k + 1) f fd ps sp := F.ok S len fun cdv A outer s H vs Q E hr hsp => by
    obtain ⟨t, h, q⟩ := hbody cdv A outer s H vs Q E hr hsp
    exact ⟨t, h.nox, q⟩
  exact ⟨fd, [], ok, .nil, F.bindsN h0, F.kp⟩
theorem Callable.imp {sp' : Sp} {dv : List V} (c : Callable P w K mg base k f ps dv sp) (h : ∀ vs H Q E, sp' vs H Q E → sp vs H Q E) : Callable P w K mg base k f ps dv sp' :=
  let ⟨fd, ds, F, r⟩ := c
  ⟨fd, ds, F.imp h, r⟩
theorem Callable.up {j : Nat} {dv : List V} (c : Callable P w K mg base j f ps dv sp) (h : j ≤ k) : Callable P w K mg base k f ps dv sp :=
  let ⟨fd, ds, F, r⟩ := c
  ⟨fd, ds, F.mono h, r⟩
end
/-! ### heaps -/
theorem same_new {H : Hp} {p : Addr} (h : H p = none) (o : HO) : Same H (upd H p o) := fun b u q => by rw [upd_ne (ne_of_none q h)]; exact q
theorem _root_.L2.Same.seqT {K : PySem.W.Frag} {H H' : Hp} {a : Addr} {xs : List V} (e : Same H H') (h : SqT K H a xs) : SqT K H' a xs := by
  rcases h with (h | ⟨o, h⟩) | h
  · exact .inl (.inl (e _ _ h))
  · exact .inl (.inr ⟨o, e _ _ h⟩)
  · exact .inr h
theorem upd_none {H : Hp} {a p : Addr} {o : HO} (h : upd H a o p = none) : p ≠ a ∧ H p = none := by
  by_cases e : p = a
  · subst e; rw [upd_same] at h; cases h
  · rw [upd_ne e] at h; exact ⟨e, h⟩
/-! ### the stream of draws -/
/-- the law's stream at s: its list of ints at l, the number at hand, how many were made up, the seed; n: a bound of those made up -/
def Stm (H : Hp) (s l : Addr) (n : Nat) : Prop := s ≠ l ∧ ∃ (ns : List Int) (x c d : Int), H s = some (.lst [.ref l, .int x, .int c, .int d]) ∧ H l = some (.lst (ns.map V.int)) ∧ ns.length ≤ 63 ∧ 0 ≤ x ∧ 0 ≤ c ∧ c ≤ n ∧ 0 ≤ d ∧ d < 2147483647
theorem Stm.mono {H : Hp} {s l : Addr} {n m : Nat} (h : Stm H s l n) (k : n ≤ m) : Stm H s l m := by
  obtain ⟨ne, ns, x, c, d, h1, h2, h3, h4, h5, h6, h7, h8⟩ := h
  exact ⟨ne, ns, x, c, d, h1, h2, h3, h4, h5, by omega, h7, h8⟩
theorem Stm.same {H H' : Hp} {s l : Addr} {n : Nat} (h : Stm H s l n) (k : Same H H') : Stm H' s l n := by
  obtain ⟨ne, ns, x, c, d, h1, h2, h3⟩ := h
  exact ⟨ne, ns, x, c, d, k _ _ h1, k _ _ h2, h3⟩
/-- all but the stream is as it was -/
def But (s l : Addr) (H H' : Hp) : Prop := ∀ b, b ≠ s → b ≠ l → H' b = H b
/-- all that was there but the stream is as it was -/
def Old (s l : Addr) (H H' : Hp) : Prop := ∀ b o, b ≠ s → b ≠ l → H b = some o → H' b = some o
theorem But.old {s l : Addr} {H H' : Hp} (h : But s l H H') : Old s l H H' := fun b o h1 h2 e => by rw [h b h1 h2]; exact e
theorem Old.refl {s l : Addr} (H : Hp) : Old s l H H := fun _ _ _ _ e => e
theorem Old.trans {s l : Addr} {H H1 H2 : Hp} (a : Old s l H H1) (b : Old s l H1 H2) : Old s l H H2 := fun c o h1 h2 e => b c o h1 h2 (a c o h1 h2 e)
theorem Old.of_same {s l : Addr} {H H' : Hp} (h : Same H H') : Old s l H H' := fun b o _ _ e => h b o e
section
variable {X : Cx} {x : Str} {pos : Pos}
theorem pe_gi {i : Int} (hg : Gl X x) (hm : ∃ t, X.mg x = some (.int i t)) (hd : (x == ("__debug__" : Str)) = false := by decide) : PE X (.Name x pos) (tC (.int i)) := by
  obtain ⟨t, h⟩ := hm
  exact pe_glob hg h ⟨t, rfl⟩ (by first | assumption | exact hd)
theorem pe_gs {z : Str} (hg : Gl X x) (hm : ∃ t, X.mg x = some (.str z t)) (hd : (x == ("__debug__" : Str)) = false := by decide) : PE X (.Name x pos) (tC (.str z)) := by
  obtain ⟨t, h⟩ := hm
  exact pe_glob hg h ⟨t, rfl⟩ (by first | assumption | exact hd)
end
/-! ### in a comprehension's block the written part is the def's own: rules that name it -/
section
variable {X : Cx} {K : PySem.W.Frag}
theorem opK (r : PySem.W.Frag → R2) {f : Value → Value → Sem Value} (h : OpR X f (r X.K)) (e : X.K = K := by rfl) : OpR X f (r K) := e ▸ h
theorem callK (r : PySem.W.Frag → List V → Hp → VK → Prop) {f : Value} (h : CallR X f (r X.K)) (e : X.K = K := by rfl) : CallR X f (r K) := e ▸ h
theorem ixK (r : PySem.W.Frag → R2) (h : IxR X (r X.K)) (e : X.K = K := by rfl) : IxR X (r K) := e ▸ h
theorem pe_fldK {e : Expr} {f : Str} {pos : Pos} {ta : TE} (he : PE X e ta) (hb : attributeBase e f X.env (eval e X.env) = eval e X.env) (z : X.K = K := by rfl) : PE X (.Attribute e f pos) (tFld K ta f) := z ▸ pe_fld he hb
end
/-- an expression that is never reached -/
def tNo : TE := fun _ _ _ => False
theorem pe_never {X : Cx} {e : Expr} : PE X e tNo := ⟨fun _ _ _ _ _ _ h => h.elim⟩
def tNoT : TT := fun _ _ _ => False
theorem pt_never {X : Cx} {e : Expr} : PT X e tNoT := ⟨fun _ _ _ _ _ _ h => h.elim⟩
theorem tyx_tup {K : PySem.W.Frag} {H : Hp} {a : Addr} {xs : List V} (h : SqT K H a xs) : TyX K H (.ref a) (.type "tuple") := by
  rcases h with (h | ⟨o, h⟩) | ⟨o, its, n, h, c, _⟩
  · exact .base (.tup h)
  · exact .fTuple h
  · exact .kTuple h c
theorem tyx_lst {K : PySem.W.Frag} {H : Hp} {a : Addr} {xs : List V} (h : SqL K H a xs) : TyX K H (.ref a) (.type "list") := by
  rcases h with (h | ⟨o, h⟩) | ⟨o, its, n, h, c, _⟩
  · exact .base (.lst h)
  · exact .base (.frz h)
  · exact .kList h c
/-- behind a lock all is as it was but the new -/
theorem unlock {H : Hp} {d D : Addr} {f u o : HO} (hd : H d = some u) (hD : upd H d f D = none) : upd (upd (upd H d f) D o) d u = upd H D o := by
  have ne : D ≠ d := (upd_none hD).1
  funext b
  by_cases e : b = d
  · subst e; rw [upd_same, upd_ne (Ne.symm ne)]; exact hd.symm
  · rw [upd_ne e]
    by_cases z : b = D
    · subst z; rw [upd_same, upd_same]
    · rw [upd_ne z, upd_ne z, upd_ne e]
theorem iteT' {c : Bool} {A B : Prop} (hc : c = true) (h : A) : if c = true then A else B := by rw [if_pos hc]; exact h
theorem iteF' {c : Bool} {A B : Prop} (hc : c = false) (h : B) : if c = true then A else B := by rw [if_neg (by rw [hc]; exact Bool.false_ne_true)]; exact h
end RC

set_option Elab.async false
set_option linter.all false
set_option maxRecDepth 100000
set_option maxHeartbeats 4000000
/-! Further rules: two lists of the same objects are equal; a text times an int. -/
namespace RD
open PySem PySem.Spec PyProof.Rows PySem.SeqAt L2
def rNeRefs (K : PySem.W.Frag) : R2 := fun x y H Q => ∃ (a b : Addr) (as : List Addr), x = .ref a ∧ y = .ref b ∧ SqL K H a (as.map V.ref) ∧ SqL K H b (as.map V.ref) ∧ Q (.bl false) H
def rEqRefs (K : PySem.W.Frag) : R2 := fun x y H Q => ∃ (a b : Addr) (as : List Addr), x = .ref a ∧ y = .ref b ∧ SqL K H a (as.map V.ref) ∧ SqL K H b (as.map V.ref) ∧ Q (.bl true) H
def rMulS : R2 := fun x y H Q => ∃ (i : Str) (k : Int), x = .str i ∧ y = .int k ∧ PySem.MulOk i k ∧ Q (.str (Txt.mul i k)) H
section
variable {X : Cx}
theorem vals_refs : ∀ {as : List Addr} {us : List Value}, Vals (as.map V.ref) us → us = as.map Value.ref
  | [], _, .nil => rfl
  | a :: as, _, .cons r t => by
    cases r
    rw [vals_refs t]; rfl
theorem all_true (n : Nat) : (List.range n).all (fun _ => true) = true := by simp
theorem op_neRefs (hu : X.A.units < cLine) : OpR X (compareOp .NotEq) (rNeRefs X.K) := by
  intro pins s σ H x y v u Q I rx ry h
  obtain ⟨a, b, as, rfl, rfl, ha, hb, q⟩ := h
  cases rx
  cases ry
  obtain ⟨its, rv, hl, _⟩ := I.list ha
  obtain ⟨its2, rv2, hl2, _⟩ := I.list hb
  obtain rfl := vals_refs rv
  obtain rfl := vals_refs rv2
  refine RcNeAt.lists (e := fun _ => true) hl.isList hl2.isList rfl hu (fun j h1 h2 => EqAt.same _) X.prog X.w X.xe _ ?_
  rw [all_true]
  exact fin_bl I q rfl
theorem op_eqRefs (hu : X.A.units < cLine) : OpR X (compareOp .Eq) (rEqRefs X.K) := by
  intro pins s σ H x y v u Q I rx ry h
  obtain ⟨a, b, as, rfl, rfl, ha, hb, q⟩ := h
  cases rx
  cases ry
  obtain ⟨its, rv, hl, _⟩ := I.list ha
  obtain ⟨its2, rv2, hl2, _⟩ := I.list hb
  obtain rfl := vals_refs rv
  obtain rfl := vals_refs rv2
  refine eq_listAt (e := fun _ => true) hl.isList hl2.isList rfl hu (fun j h1 h2 => EqAt.same _) ?_
  rw [all_true]
  exact fin_bl I q rfl
theorem op_mulS : OpR X (binaryOp .Mult) rMulS := by
  intro pins s σ H x y v u Q I rx ry h
  obtain ⟨i, k, rfl, rfl, hk, q⟩ := h
  obtain ⟨t, rfl⟩ := rx
  obtain ⟨t', rfl⟩ := ry
  exact PySem.SB.mul hk fun t2 k2 => ⟨.str (Txt.mul i k), H, I.tok k2, ⟨_, rfl⟩, q⟩
end
end RD

set_option Elab.async false
set_option linter.all false
set_option maxRecDepth 100000
set_option maxHeartbeats 4000000
/-! Rows of texts in order: there is one alone. -/
namespace RE
open PySem PySem.Spec PyProof.Rows L2
def le (a b : List Nat) : Prop := ltCps b a = false
theorem lt_split : ∀ (a b c : List Nat), ltCps a c = true → ltCps a b = true ∨ ltCps b c = true
  | [], [], c, h => .inr h
  | [], _ :: _, _, _ => .inl rfl
  | _ :: _, _, [], h => nomatch h
  | x :: a, [], z :: c, h => .inr rfl
  | x :: a, y :: b, z :: c, h => by
    have h : (decide (x < z) || (x == z && ltCps a c)) = true := h
    show (decide (x < y) || (x == y && ltCps a b)) = true ∨ (decide (y < z) || (y == z && ltCps b c)) = true
    rcases Nat.lt_trichotomy x y with h1 | h1 | h1
    · exact .inl (by rw [decide_eq_true h1]; rfl)
    · subst h1
      rcases Bool.or_eq_true_iff.mp h with h2 | h2
      · exact .inr (by rw [h2]; rfl)
      · obtain ⟨h3, h4⟩ := Bool.and_eq_true_iff.mp h2
        rcases lt_split a b c h4 with h5 | h5
        · exact .inl (by rw [h5]; simp)
        · exact .inr (by rw [h3, h5]; simp)
    · have h6 : y < z := by
        rcases Bool.or_eq_true_iff.mp h with h2 | h2
        · exact Nat.lt_trans h1 (of_decide_eq_true h2)
        · obtain ⟨h3, _⟩ := Bool.and_eq_true_iff.mp h2
          rw [← eq_of_beq h3]; exact h1
      exact .inr (by rw [decide_eq_true h6]; rfl)
theorem le_trans {a b c : List Nat} (h1 : le a b) (h2 : le b c) : le a c := by
  unfold le at *
  cases e : ltCps c a with
  | false => rfl
  | true =>
    rcases lt_split c b a e with h | h
    · rw [h2] at h; cases h
    · rw [h1] at h; cases h
theorem le_anti : ∀ {a b : List Nat}, le a b → le b a → a = b
  | [], [], _, _ => rfl
  | [], _ :: _, _, h => nomatch h
  | _ :: _, [], h, _ => nomatch h
  | x :: a, y :: b, h1, h2 => by
    have h1 : (decide (y < x) || (y == x && ltCps b a)) = false := h1
    have h2 : (decide (x < y) || (x == y && ltCps a b)) = false := h2
    rw [Bool.or_eq_false_iff] at h1 h2
    have e : x = y := by
      have a1 := of_decide_eq_false h1.1
      have a2 := of_decide_eq_false h2.1
      omega
    subst e
    have h3 : ltCps b a = false := by have := h1.2; simpa using this
    have h4 : ltCps a b = false := by have := h2.2; simpa using this
    rw [le_anti (a := a) (b := b) h3 h4]
def leS (a b : Str) : Prop := le (TL.tl a) (TL.tl b)
theorem rising : ∀ (p : Str) (l : List Str), risingS p l = true → (p :: l).Pairwise leS
  | p, [], _ => List.pairwise_singleton _ _
  | p, x :: r, h => by
    have h : (!ltCps x.cps.toList p.cps.toList && risingS x r) = true := h
    obtain ⟨h1, h2⟩ := Bool.and_eq_true_iff.mp h
    have i := rising x r h2
    refine List.pairwise_cons.mpr ⟨fun z hz => ?_, i⟩
    have a : leS p x := by
      show ltCps (TL.tl x) (TL.tl p) = false
      have h1 : (!ltCps (TL.tl x) (TL.tl p)) = true := h1
      cases e : ltCps (TL.tl x) (TL.tl p) with
      | false => rfl
      | true => rw [e] at h1; cases h1
    rcases List.mem_cons.mp hz with rfl | hz
    · exact a
    · exact le_trans a ((List.pairwise_cons.mp i).1 z hz)
theorem sorted_pw : ∀ {l : List Str}, sortedS l = true → l.Pairwise leS
  | [], _ => List.Pairwise.nil
  | x :: r, h => rising x r h
theorem uniq : ∀ {l m : List Str}, l.Perm m → l.Pairwise leS → m.Pairwise leS → l = m
  | [], m, hp, _, _ => by rw [List.nil_perm.mp hp]
  | x :: r, m, hp, h1, h2 => by
    cases m with
    | nil => exact absurd hp.length_eq (by simp)
    | cons y t =>
      obtain ⟨a1, a2⟩ := List.pairwise_cons.mp h1
      obtain ⟨b1, b2⟩ := List.pairwise_cons.mp h2
      have e : x = y := by
        have hx : x ∈ y :: t := hp.mem_iff.mp List.mem_cons_self
        have hy : y ∈ x :: r := hp.mem_iff.mpr List.mem_cons_self
        rcases List.mem_cons.mp hx with rfl | hx
        · rfl
        rcases List.mem_cons.mp hy with rfl | hy
        · rfl
        exact TL.ext_tl (le_anti (a1 y hy) (b1 x hx))
      subst e
      rw [uniq ((List.perm_cons x).mp hp) a2 b2]
/-- a sorted row's part is that part, sorted -/
theorem sorted_filter {xs ys zs : List Str} {p : Str → Bool} (h1 : ys.Perm xs) (h2 : sortedS ys = true) (h3 : zs.Perm (xs.filter p)) (h4 : sortedS zs = true) : zs = ys.filter p :=
  uniq (h3.trans (h1.symm.filter p)) (sorted_pw h4) ((sorted_pw h2).filter p)
end RE

set_option Elab.async false
set_option linter.all false
set_option maxRecDepth 100000
set_option maxHeartbeats 4000000
/-! Further rules of dicts: d.update(d2). -/
namespace RF
open PySem PySem.Spec PyProof.Rows L2
def rUpdD : V → List V → Hp → VK → Prop := fun x xs H Q => ∃ (d o : Addr) (kvs more : List (Key × V)), x = .ref d ∧ xs = [.ref o] ∧ H d = some (.dK kvs) ∧ Rd H o (.dK more) ∧ d ≠ o ∧ kvs.length + more.length ≤ sizeLine ∧ (mergeK kvs more).length ≤ sizeLine ∧ Q .non (upd H d (.dK (mergeK kvs more)))
theorem mt_updD {X : Cx} : MtR X "dict.update" rUpdD := by
  intro pins s σ H x xs v us Q I rx rxs h
  obtain ⟨d, o, kvs, more, rfl, rfl, hd, ho, hne, hl, hl2, q⟩ := h
  cases rx
  obtain rfl := Vals.ref1 rxs
  obtain ⟨z, lo, vs, rel, dd⟩ := dk_of I.hok hd
  obtain ⟨z2, lo2, vs2, rel2, dd2⟩ := dk_rd I.hok ho
  refine call_meetsIn PySem.F.slot_dict_update dd.typeIs PySem.F.entry_dict_update (PySem.F.args_dict_update_2 _ _) (meets_dict_update (mixKind X.prog X.w) d o hne lo2)
    ⟨vs, vs2, dd, dd2, (by rw [← rel.length, ← rel2.length]; exact hl), fun h' hmm _ hs => ?_⟩
  have he : ∃ q, h'.get? d = some q := let ⟨q, _, _, hq, _⟩ := hmm; ⟨q, hq⟩
  refine d_write I (by rw [hd]; exact True.intro) hs he (dk_new hl2 lo (KV.merge rel2 rel) hmm) |> fun I' => ⟨.non, _, I', rfl, q⟩
/-- list(o.values()) -/
def tListVals (td : TE) : TE := fun σ H Q => td σ H fun x H1 => ∃ a kvs, x = V.ref a ∧ H1 a = some (.dK kvs) ∧ ∀ q, H1 q = none → Q (.ref q) (upd H1 q (.lst (kvs.map (·.2))))
section
variable {X : Cx} {o : Expr} {p pos apos mpos : Pos} {td : TE}
theorem pe_listVals (hc : X.calm = true) (hg : Gl X "list") (hm : X.mg "list" = none) (hd : PE X o td) (hbase : attributeBase o "values" X.env (eval o X.env) = eval o X.env := by rfl) (hline : (apos.endLine == mpos.line) = true := by rfl)
    (hse : starEach [Expr.Call (.Attribute o "values" apos) [] [] mpos] X.env = [(false, eval (Expr.Call (.Attribute o "values" apos) [] [] mpos) X.env)] := by rfl) :
    PE X (.Call (.Name "list" p) [.Call (.Attribute o "values" apos) [] [] mpos] [] pos) (tListVals td) := by
  refine ⟨fun pins s σ H Q I h => ?_⟩
  refine wpAny_Call_Name_kw (ld_blt I hg hm (u := .type "list") (by first | rfl | decide +kernel) ?_ (by first | decide +kernel | decide) (by first | decide +kernel | decide))
  rw [hse]
  refine PySem.callWith_type1 (wpAny_Call_method0_late hbase hline (thn (hd.run pins s σ H _ I h) fun v s1 ⟨x, H1, I1, r1, a, kvs, ex, ha, q⟩ => ?_))
  subst ex
  obtain rfl : v = Value.ref a := r1
  obtain ⟨z, hsys, vs, rel, dof⟩ := dk_of I1.hok ha
  obtain ⟨ep, dat⟩ := dof.dictAt
  have dat' := dat
  obtain ⟨ob, es, ho, ex, hdat, hko, hpr, hnd⟩ := dat'
  refine ⟨"dict", "dict.values", F.plainAttrs_dict, F.slot_dict_values, F.type_dict_values, ⟨ob, ho, ex.1⟩, fun b e => ?_, Calls.callWith_builtin rfl (PySem.evalArgs_none ?_)⟩
  · cases e
    exact ⟨ob, ho, ex.2.1⟩
  refine call_meetsIn F.slot_dict_values ⟨ob, ho, ex.1⟩ F.entry_dict_values (F.args_dict_values_1 _) (meets_dict_values (mixKind X.prog X.w) a hsys) ⟨⟨vs, dof⟩, ?_⟩
  have k1 : ∀ b u, s1.heap.get? b = some u → (s1.heap.push { cls := .type "dict_values", data := .fields #[.ref a] }).get? b = some u := fun b u e => Heap.get?_push_of_some _ e
  have dat1 : (s1.heap.push { cls := .type "dict_values", data := .fields #[.ref a] }).DictAt (mixKind X.prog X.w) a vs ep := dat.keep k1
  have I2 : Inv X pins σ H1 { s1 with heap := s1.heap.push { cls := .type "dict_values", data := .fields #[.ref a] } } := I1.kept (t' := s1.toks) k1
  have hl : kvs.length = vs.length := Paired.length rel
  refine PySem.W.kdl_call (PySem.W.kdl_values (knd := mixKind X.prog X.w) (r := s1.heap.objs.size) (d := a) (kvs := vs) (ep := ep)) (I1.ok.hd hc) ⟨⟨_, Heap.get?_push_size _ rfl, rfl, rfl⟩, dat1⟩ (by rw [← hl]; exact z) fun h' tk acc' c' hkeep hS hacc => ?_
  refine ⟨.ref _, upd H1 _ (.lst (kvs.map (·.2))), I2.laid hkeep (Nat.le_refl _) (show ObjOk X.prog X.w _ _ _ (.lst (kvs.map (·.2))) from ⟨?_, acc'.toList, c', ?_, ?_⟩), rfl, q _ (I2.hok.fresh (Nat.le_refl _))⟩
  · rw [List.length_map]; exact z
  · have el : acc'.toList.length = acc'.size := by simp
    refine vals_of_at (by rw [List.length_map, el, hacc.1, hl]) fun j x w h1 h2 => ?_
    obtain ⟨k, hk⟩ := hacc.2 j w (by rw [← Array.getElem?_toList]; exact h2)
    obtain ⟨x', h3, h4⟩ := KV.at' rel hk
    rw [List.getElem?_map, h3] at h1
    cases h1
    exact h4
  · rw [Array.toArray_toList]; exact hS
end
/-- d[i] = v as one of several targets -/
def rSetD : TSet := fun o i v H Q => ∃ (a : Addr) (H' : Hp), o = .ref a ∧ DPut H a i v H' ∧ Q H'
theorem set_dict {X : Cx} (hu : X.A.units + 1 < cLine) : PSet X rSetD := by
  intro pins s σ H o i v ov iv u Q I ro ri rv h
  obtain ⟨a, H', rfl, g, q⟩ := h
  cases ro
  exact d_setItem hu I g ri rv fun s' I' => ⟨H', I', q⟩
end RF

set_option Elab.async false
set_option linter.all false
set_option maxRecDepth 100000
set_option maxHeartbeats 4000000
/-! Rules that name the written part, for a comprehension's block. -/
namespace RG
open PySem PySem.Spec PyProof.Rows L2
theorem pg_tupK {X : Cx} {K : PySem.W.Frag} {es : List Expr} {k n : Nat} {pos : Pos} {t : TGs} (hc : X.calm = true) (h : PGs X es t) (hn : (assignEach es X.env).length = n := by rfl) (hst : (assignEach es X.env).findIdx? (·.1) = none := by rfl) (z : X.K = K := by rfl) :
    PG X (.Tuple es k pos) (gTup K n t) := z ▸ pg_tup hc h hn hst
end RG

set_option Elab.async false
set_option linter.all false
set_option maxRecDepth 100000
set_option maxHeartbeats 4000000
/-! What a walk by itself leans on: facts of the heap carried over changes. -/
namespace RW
open PySem PySem.Spec PyProof.Rows L2 RC
section
variable {H H1 H2 : Hp} {p q s l : Addr} {o o' u : HO}
theorem at_same (e : Same H H1) (h : H p = some o) : H1 p = some o := e _ _ h
theorem at_old (e : Old s l H H1) (h1 : p ≠ s) (h2 : p ≠ l) (h : H p = some o) : H1 p = some o := e _ _ h1 h2 h
theorem at_upd (n : q ≠ p) (h : H q = some u) : upd H p o q = some u := by rw [upd_ne n]; exact h
theorem no_upd (n : q ≠ p) (h : H q = none) : upd H p o q = none := by rw [upd_ne n]; exact h
theorem ne_new (h : H p = none) (h2 : H q = some u) : q ≠ p := ne_of_none h2 h
theorem ne_new' (h : H p = none) (h2 : H q = some u) : p ≠ q := Ne.symm (ne_of_none h2 h)
theorem ne_kind (h : H p = some o) (h' : H q = some u) (n : o ≠ u) : p ≠ q := fun z => n (by rw [z] at h; exact Option.some.inj (h.symm.trans h'))
theorem same_put_new (e : Same H H1) (h : H1 p = none) : Same H (upd H1 p o) := e.trans (same_new h o)
theorem same_put (e : Same H H1) (h : H p = none) : Same H (upd H1 p o) := fun b x hb => by rw [upd_ne (ne_of_none hb h)]; exact e _ _ hb
theorem same_then (h : Same H1 H2) (e : Same H H1) : Same H H2 := e.trans h
theorem free_same (e : Same H H1) (h : H1 p = none) : H p = none := e.free h
theorem free_upd (h : upd H p o q = none) : H q = none := (upd_none h).2
theorem ne_upd (h : upd H p o q = none) : q ≠ p := (upd_none h).1
theorem some_ref {xs : List V} {K : PySem.W.Frag} (h : H p = some (.lst xs)) : SqL K H p xs := SqL.of h
theorem rd_of (h : H p = some o) : Rd H p o := .inl h
theorem fr {R : Addr → Prop} (h : ∀ x, H x = none → x ≠ p → R x) : ∀ x, upd H p o x = none → R x := fun x hx => h x (upd_none hx).2 (upd_none hx).1
theorem fr_same {R : Addr → Prop} (e : Same H H1) (h : ∀ x, H x = none → H1 x = none → R x) : ∀ x, H1 x = none → R x := fun x hx => h x (e.free hx) hx
theorem gHp (h : H p = some o) : H p = some o := h
theorem gStm {n : Nat} (h : Stm H s l n) : Stm H s l n := h
theorem stm_upd {n : Nat} (h1 : p ≠ s) (h2 : p ≠ l) (h : Stm H s l n) : Stm (upd H p o) s l n := by
  obtain ⟨ne, ns, x, c, d, g1, g2, g3⟩ := h
  exact ⟨ne, ns, x, c, d, by rw [upd_ne (Ne.symm h1)]; exact g1, by rw [upd_ne (Ne.symm h2)]; exact g2, g3⟩
theorem stm_at {n : Nat} (h : Stm H s l n) : (∃ o, H s = some o) ∧ (∃ o, H l = some o) ∧ s ≠ l := by
  obtain ⟨ne, ns, x, c, d, g1, g2, g3⟩ := h
  exact ⟨⟨_, g1⟩, ⟨_, g2⟩, ne⟩
theorem stm_same {n : Nat} (h : Stm H s l n) (e : Same H H1) : Stm H1 s l n := h.same e
theorem old_upd (e : Old s l H H1) (h : H p = none) : Old s l H (upd H1 p o) := fun b x h1 h2 hb => by rw [upd_ne (ne_of_none hb h)]; exact e _ _ h1 h2 hb
theorem old_same (e : Old s l H H1) (h : Same H1 H2) : Old s l H H2 := fun b x h1 h2 hb => h _ _ (e _ _ h1 h2 hb)
theorem old_then (h : Old s l H1 H2) (e : Old s l H H1) : Old s l H H2 := e.trans h
theorem old_of (e : Same H H1) : Old s l H H1 := Old.of_same e
theorem gOld (h : Old s l H H1) : Old s l H H1 := h
theorem gCp {i j : Int} (h : 0 ≤ j ∧ j ≤ 1000000 ∧ i.natAbs < 2 ^ 64) : CPow i j := h
theorem gNe (h : p ≠ q) : p ≠ q := h
theorem isMut {d : Addr} {w : HO} {R : Prop} (h : H d = some w ∧ Mut (H d) ∧ R) : H d = some w ∧ Mut (H d) ∧ R := h
theorem isMut2 {d : Addr} {w : HO} {R : Prop} (h : H d = some w ∧ Mut (some w) ∧ R) : H d = some w ∧ Mut (some w) ∧ R := h
theorem gSm (h : Same H H1) : Same H H1 := h
theorem gCls {K : PySem.W.Frag} {C : Addr} (h : Cls K C) : Cls K C := h
theorem gNo {K : PySem.W.Frag} {C : Addr} {f : Str} (h : NoAttr K C f) : NoAttr K C f := h
theorem gCv {c : V} {u : Value} (h : ClsV c u) : ClsV c u := h
theorem gTy {K : PySem.W.Frag} {c : V} {u : Value} (h : TyX K H c u) : TyX K H c u := h
theorem gKit {K : PySem.W.Frag} {t c : Value} {b : Bool} (h : PySem.W.kitOne K t c = some b) : PySem.W.kitOne K t c = some b := h
theorem gKita {K : PySem.W.Frag} {t : Value} {c : List Value} {b : Bool} (h : PySem.W.kitAny K t c = some b) : PySem.W.kitAny K t c = some b := h
theorem gSl {K : PySem.W.Frag} {xs : List V} (h : SqL K H p xs) : SqL K H p xs := h
theorem gSt {K : PySem.W.Frag} {xs : List V} (h : SqT K H p xs) : SqT K H p xs := h
theorem gPr {cs : List V} {us : List Value} (h : Paired ClsV cs us) : Paired ClsV cs us := h
theorem gKi {K : PySem.W.Frag} {t : Value} {b : Bool} (h : PySem.W.kitOne K t (.type "int") = some b) : PySem.W.kitOne K t (.type "int") = some b := h
theorem gKb {K : PySem.W.Frag} {t : Value} {b : Bool} (h : PySem.W.kitOne K t (.type "bool") = some b) : PySem.W.kitOne K t (.type "bool") = some b := h
theorem gKs {K : PySem.W.Frag} {t : Value} {b : Bool} (h : PySem.W.kitOne K t (.type "str") = some b) : PySem.W.kitOne K t (.type "str") = some b := h
theorem gKl {K : PySem.W.Frag} {t : Value} {b : Bool} (h : PySem.W.kitOne K t (.type "list") = some b) : PySem.W.kitOne K t (.type "list") = some b := h
theorem gKt {K : PySem.W.Frag} {t : Value} {b : Bool} (h : PySem.W.kitOne K t (.type "tuple") = some b) : PySem.W.kitOne K t (.type "tuple") = some b := h
theorem gKd {K : PySem.W.Frag} {t : Value} {b : Bool} (h : PySem.W.kitOne K t (.type "dict") = some b) : PySem.W.kitOne K t (.type "dict") = some b := h
theorem cxK {P : Program} {w : World} {K : PySem.W.Frag} {mg : Str → Option Value} {base : Heap} {N : List Str} {qual : Str} {scope : Scope} {f : Addr} {cd : Value} {A : Around} {outer : List Env} {sh : Shared} {E : XK} :
    (cxOf CX0 P w K mg base N qual scope f cd A outer sh H E).nox.K = K := rfl
end
section
variable {H : Hp} {K : PySem.W.Frag} {a p : Addr} {kvs : List (Key × V)} {x y : Str} {i j : Int} {o : Option V} {od : Obj} {v : V} {xs : List V}
theorem dget_s (h : H a = some (.dK kvs)) (e : valV kvs (Sum.inr x) = o) : DGet H a (.str x) o := .inl ⟨kvs, Sum.inr x, .inl h, rfl, e.symm⟩
theorem dget_i (h : H a = some (.dK kvs)) (e : valV kvs (Sum.inl i) = o) : DGet H a (.int i) o := .inl ⟨kvs, Sum.inl i, .inl h, rfl, e.symm⟩
theorem dget_sF (h : H a = some (.frz od (.dK kvs))) (e : valV kvs (Sum.inr x) = o) : DGet H a (.str x) o := .inl ⟨kvs, Sum.inr x, .inr ⟨od, h⟩, rfl, e.symm⟩
theorem dget_sR (h : Rd H a (.dK kvs)) (e : valV kvs (Sum.inr x) = o) : DGet H a (.str x) o := .inl ⟨kvs, Sum.inr x, h, rfl, e.symm⟩
theorem dput_s (h : H a = some (.dK kvs)) (hl : kvs.length < sizeLine) : DPut H a (.str x) v (upd H a (.dK (putK kvs (Sum.inr x) v))) := DPut.k (k := Sum.inr x) h hl
theorem dput_i (h : H a = some (.dK kvs)) (hl : kvs.length < sizeLine) : DPut H a (.int i) v (upd H a (.dK (putK kvs (Sum.inl i) v))) := DPut.k (k := Sum.inl i) h hl
theorem sql_of (h : H p = some (.lst xs)) : ∃ ys, SqL K H p ys := ⟨xs, SqL.of h⟩
theorem sqt_of (h : H p = some (.tup xs)) : ∃ ys, SqT K H p ys := ⟨xs, SqT.of h⟩
theorem disp1 {a0 : Str} {v0 : V} {R : List (Key × V) → Prop} (h : R [((Sum.inr a0 : Key), v0)]) : ∃ kvs : List (Key × V), [(V.str a0, v0)] = kvs.map (fun kv => (kV kv.1, kv.2)) ∧ kvs.length ≤ 15 ∧ R kvs := ⟨[((Sum.inr a0 : Key), v0)], rfl, Nat.le_of_ble_eq_true rfl, h⟩
theorem disp2 {a0 a1 : Str} {v0 v1 : V} {R : List (Key × V) → Prop} (h : R [((Sum.inr a0 : Key), v0), ((Sum.inr a1 : Key), v1)]) : ∃ kvs : List (Key × V), [(V.str a0, v0), (V.str a1, v1)] = kvs.map (fun kv => (kV kv.1, kv.2)) ∧ kvs.length ≤ 15 ∧ R kvs := ⟨[((Sum.inr a0 : Key), v0), ((Sum.inr a1 : Key), v1)], rfl, Nat.le_of_ble_eq_true rfl, h⟩
theorem disp3 {a0 a1 a2 : Str} {v0 v1 v2 : V} {R : List (Key × V) → Prop} (h : R [((Sum.inr a0 : Key), v0), ((Sum.inr a1 : Key), v1), ((Sum.inr a2 : Key), v2)]) : ∃ kvs : List (Key × V), [(V.str a0, v0), (V.str a1, v1), (V.str a2, v2)] = kvs.map (fun kv => (kV kv.1, kv.2)) ∧ kvs.length ≤ 15 ∧ R kvs := ⟨[((Sum.inr a0 : Key), v0), ((Sum.inr a1 : Key), v1), ((Sum.inr a2 : Key), v2)], rfl, Nat.le_of_ble_eq_true rfl, h⟩
theorem disp4 {a0 a1 a2 a3 : Str} {v0 v1 v2 v3 : V} {R : List (Key × V) → Prop} (h : R [((Sum.inr a0 : Key), v0), ((Sum.inr a1 : Key), v1), ((Sum.inr a2 : Key), v2), ((Sum.inr a3 : Key), v3)]) : ∃ kvs : List (Key × V), [(V.str a0, v0), (V.str a1, v1), (V.str a2, v2), (V.str a3, v3)] = kvs.map (fun kv => (kV kv.1, kv.2)) ∧ kvs.length ≤ 15 ∧ R kvs := ⟨[((Sum.inr a0 : Key), v0), ((Sum.inr a1 : Key), v1), ((Sum.inr a2 : Key), v2), ((Sum.inr a3 : Key), v3)], rfl, Nat.le_of_ble_eq_true rfl, h⟩
theorem disp5 {a0 a1 a2 a3 a4 : Str} {v0 v1 v2 v3 v4 : V} {R : List (Key × V) → Prop} (h : R [((Sum.inr a0 : Key), v0), ((Sum.inr a1 : Key), v1), ((Sum.inr a2 : Key), v2), ((Sum.inr a3 : Key), v3), ((Sum.inr a4 : Key), v4)]) : ∃ kvs : List (Key × V), [(V.str a0, v0), (V.str a1, v1), (V.str a2, v2), (V.str a3, v3), (V.str a4, v4)] = kvs.map (fun kv => (kV kv.1, kv.2)) ∧ kvs.length ≤ 15 ∧ R kvs := ⟨[((Sum.inr a0 : Key), v0), ((Sum.inr a1 : Key), v1), ((Sum.inr a2 : Key), v2), ((Sum.inr a3 : Key), v3), ((Sum.inr a4 : Key), v4)], rfl, Nat.le_of_ble_eq_true rfl, h⟩
theorem disp6 {a0 a1 a2 a3 a4 a5 : Str} {v0 v1 v2 v3 v4 v5 : V} {R : List (Key × V) → Prop} (h : R [((Sum.inr a0 : Key), v0), ((Sum.inr a1 : Key), v1), ((Sum.inr a2 : Key), v2), ((Sum.inr a3 : Key), v3), ((Sum.inr a4 : Key), v4), ((Sum.inr a5 : Key), v5)]) : ∃ kvs : List (Key × V), [(V.str a0, v0), (V.str a1, v1), (V.str a2, v2), (V.str a3, v3), (V.str a4, v4), (V.str a5, v5)] = kvs.map (fun kv => (kV kv.1, kv.2)) ∧ kvs.length ≤ 15 ∧ R kvs := ⟨[((Sum.inr a0 : Key), v0), ((Sum.inr a1 : Key), v1), ((Sum.inr a2 : Key), v2), ((Sum.inr a3 : Key), v3), ((Sum.inr a4 : Key), v4), ((Sum.inr a5 : Key), v5)], rfl, Nat.le_of_ble_eq_true rfl, h⟩
theorem disp7 {a0 a1 a2 a3 a4 a5 a6 : Str} {v0 v1 v2 v3 v4 v5 v6 : V} {R : List (Key × V) → Prop} (h : R [((Sum.inr a0 : Key), v0), ((Sum.inr a1 : Key), v1), ((Sum.inr a2 : Key), v2), ((Sum.inr a3 : Key), v3), ((Sum.inr a4 : Key), v4), ((Sum.inr a5 : Key), v5), ((Sum.inr a6 : Key), v6)]) : ∃ kvs : List (Key × V), [(V.str a0, v0), (V.str a1, v1), (V.str a2, v2), (V.str a3, v3), (V.str a4, v4), (V.str a5, v5), (V.str a6, v6)] = kvs.map (fun kv => (kV kv.1, kv.2)) ∧ kvs.length ≤ 15 ∧ R kvs := ⟨[((Sum.inr a0 : Key), v0), ((Sum.inr a1 : Key), v1), ((Sum.inr a2 : Key), v2), ((Sum.inr a3 : Key), v3), ((Sum.inr a4 : Key), v4), ((Sum.inr a5 : Key), v5), ((Sum.inr a6 : Key), v6)], rfl, Nat.le_of_ble_eq_true rfl, h⟩
theorem disp8 {a0 a1 a2 a3 a4 a5 a6 a7 : Str} {v0 v1 v2 v3 v4 v5 v6 v7 : V} {R : List (Key × V) → Prop} (h : R [((Sum.inr a0 : Key), v0), ((Sum.inr a1 : Key), v1), ((Sum.inr a2 : Key), v2), ((Sum.inr a3 : Key), v3), ((Sum.inr a4 : Key), v4), ((Sum.inr a5 : Key), v5), ((Sum.inr a6 : Key), v6), ((Sum.inr a7 : Key), v7)]) : ∃ kvs : List (Key × V), [(V.str a0, v0), (V.str a1, v1), (V.str a2, v2), (V.str a3, v3), (V.str a4, v4), (V.str a5, v5), (V.str a6, v6), (V.str a7, v7)] = kvs.map (fun kv => (kV kv.1, kv.2)) ∧ kvs.length ≤ 15 ∧ R kvs := ⟨[((Sum.inr a0 : Key), v0), ((Sum.inr a1 : Key), v1), ((Sum.inr a2 : Key), v2), ((Sum.inr a3 : Key), v3), ((Sum.inr a4 : Key), v4), ((Sum.inr a5 : Key), v5), ((Sum.inr a6 : Key), v6), ((Sum.inr a7 : Key), v7)], rfl, Nat.le_of_ble_eq_true rfl, h⟩
theorem len_sl (h : SqL K H p xs) : LenV K (.ref p) H xs.length := .inl ⟨xs, h, rfl⟩
theorem len_st (h : SqT K H p xs) : LenV K (.ref p) H xs.length := .inr ⟨xs, h, rfl⟩
theorem sql_same {H' : Hp} (h : SqL K H p xs) (e : Same H H') : SqL K H' p xs := e.seq h
theorem sqt_same {H' : Hp} (h : SqT K H p xs) (e : Same H H') : SqT K H' p xs := e.seqT h
theorem ka1 {t c : Value} {b : Bool} (h : PySem.W.kitOne K t c = some b) : PySem.W.kitAny K t [c] = some (b || false) := kitAny_cons h (fun e => by rw [e]; rfl) (fun e => by rw [e]; rfl)
theorem kac {t c : Value} {cs : List Value} {b r : Bool} (h : PySem.W.kitOne K t c = some b) (h2 : PySem.W.kitAny K t cs = some r) : PySem.W.kitAny K t (c :: cs) = some (b || r) := kitAny_cons h (fun e => by rw [e]; exact h2) (fun e => by rw [e]; rfl)
theorem ka2 {t c1 c2 : Value} {b1 b2 : Bool} (h1 : PySem.W.kitOne K t c1 = some b1) (h2 : PySem.W.kitOne K t c2 = some b2) : PySem.W.kitAny K t [c1, c2] = some (b1 || (b2 || false)) := kac h1 (ka1 h2)
theorem ka3 {t c1 c2 c3 : Value} {b1 b2 b3 : Bool} (h1 : PySem.W.kitOne K t c1 = some b1) (h2 : PySem.W.kitOne K t c2 = some b2) (h3 : PySem.W.kitOne K t c3 = some b3) : PySem.W.kitAny K t [c1, c2, c3] = some (b1 || (b2 || (b3 || false))) := kac h1 (ka2 h2 h3)
theorem ka4 {t c1 c2 c3 c4 : Value} {b1 b2 b3 b4 : Bool} (h1 : PySem.W.kitOne K t c1 = some b1) (h2 : PySem.W.kitOne K t c2 = some b2) (h3 : PySem.W.kitOne K t c3 = some b3) (h4 : PySem.W.kitOne K t c4 = some b4) : PySem.W.kitAny K t [c1, c2, c3, c4] = some (b1 || (b2 || (b3 || (b4 || false)))) := kac h1 (ka3 h2 h3 h4)
theorem ka5 {t c1 c2 c3 c4 c5 : Value} {b1 b2 b3 b4 b5 : Bool} (h1 : PySem.W.kitOne K t c1 = some b1) (h2 : PySem.W.kitOne K t c2 = some b2) (h3 : PySem.W.kitOne K t c3 = some b3) (h4 : PySem.W.kitOne K t c4 = some b4) (h5 : PySem.W.kitOne K t c5 = some b5) : PySem.W.kitAny K t [c1, c2, c3, c4, c5] = some (b1 || (b2 || (b3 || (b4 || (b5 || false))))) := kac h1 (ka4 h2 h3 h4 h5)
theorem len_l (h : H p = some (.lst xs)) : LenV K (.ref p) H xs.length := .inl ⟨xs, SqL.of h, rfl⟩
theorem tyv_l (h : H p = some (.lst xs)) : tyV K "list" (.ref p) H := .inl ⟨rfl, _, SqL.of h⟩
theorem tyv_s (h : SqL K H p xs) : tyV K "list" (.ref p) H := .inl ⟨rfl, _, h⟩
theorem isd (h : H a = some (.dK kvs)) : IsD H a := .inl ⟨kvs, .inl h⟩
theorem cSsT (h : x = y) : decide (V.str x = V.str y) = true := decide_eq_true (congrArg V.str h)
theorem cSsF (h : x ≠ y) : decide (V.str x = V.str y) = false := decide_eq_false fun z => h (V.str.inj z)
theorem cNsT (h : x ≠ y) : (!decide (V.str x = V.str y)) = true := by rw [cSsF h]; rfl
theorem cNsF (h : x = y) : (!decide (V.str x = V.str y)) = false := by rw [cSsT h]; rfl
theorem cSiT (h : i = j) : decide (V.int i = V.int j) = true := decide_eq_true (congrArg V.int h)
theorem cSiF (h : i ≠ j) : decide (V.int i = V.int j) = false := decide_eq_false fun z => h (V.int.inj z)
theorem cNiT (h : i ≠ j) : (!decide (V.int i = V.int j)) = true := by rw [cSiF h]; rfl
theorem cNiF (h : i = j) : (!decide (V.int i = V.int j)) = false := by rw [cSiT h]; rfl
theorem someT (h : o = some v) : o.isSome = true := by rw [h]; rfl
theorem someF (h : o = none) : o.isSome = false := by rw [h]; rfl
theorem nsomeT (h : o = none) : (!o.isSome) = true := by rw [h]; rfl
theorem nsomeF (h : o = some v) : (!o.isSome) = false := by rw [h]; rfl
end
theorem k_int_int {K : PySem.W.Frag} : PySem.W.kitOne K (.type "int") (.type "int") = some true := kit_ty (by decide +kernel)
theorem k_int_bool {K : PySem.W.Frag} : PySem.W.kitOne K (.type "int") (.type "bool") = some false := kit_ty (by decide +kernel)
theorem k_int_str {K : PySem.W.Frag} : PySem.W.kitOne K (.type "int") (.type "str") = some false := kit_ty (by decide +kernel)
theorem k_int_list {K : PySem.W.Frag} : PySem.W.kitOne K (.type "int") (.type "list") = some false := kit_ty (by decide +kernel)
theorem k_int_tuple {K : PySem.W.Frag} : PySem.W.kitOne K (.type "int") (.type "tuple") = some false := kit_ty (by decide +kernel)
theorem k_int_dict {K : PySem.W.Frag} : PySem.W.kitOne K (.type "int") (.type "dict") = some false := kit_ty (by decide +kernel)
theorem k_bool_int {K : PySem.W.Frag} : PySem.W.kitOne K (.type "bool") (.type "int") = some true := kit_ty (by decide +kernel)
theorem k_bool_bool {K : PySem.W.Frag} : PySem.W.kitOne K (.type "bool") (.type "bool") = some true := kit_ty (by decide +kernel)
theorem k_bool_str {K : PySem.W.Frag} : PySem.W.kitOne K (.type "bool") (.type "str") = some false := kit_ty (by decide +kernel)
theorem k_bool_list {K : PySem.W.Frag} : PySem.W.kitOne K (.type "bool") (.type "list") = some false := kit_ty (by decide +kernel)
theorem k_bool_tuple {K : PySem.W.Frag} : PySem.W.kitOne K (.type "bool") (.type "tuple") = some false := kit_ty (by decide +kernel)
theorem k_bool_dict {K : PySem.W.Frag} : PySem.W.kitOne K (.type "bool") (.type "dict") = some false := kit_ty (by decide +kernel)
theorem k_str_int {K : PySem.W.Frag} : PySem.W.kitOne K (.type "str") (.type "int") = some false := kit_ty (by decide +kernel)
theorem k_str_bool {K : PySem.W.Frag} : PySem.W.kitOne K (.type "str") (.type "bool") = some false := kit_ty (by decide +kernel)
theorem k_str_str {K : PySem.W.Frag} : PySem.W.kitOne K (.type "str") (.type "str") = some true := kit_ty (by decide +kernel)
theorem k_str_list {K : PySem.W.Frag} : PySem.W.kitOne K (.type "str") (.type "list") = some false := kit_ty (by decide +kernel)
theorem k_str_tuple {K : PySem.W.Frag} : PySem.W.kitOne K (.type "str") (.type "tuple") = some false := kit_ty (by decide +kernel)
theorem k_str_dict {K : PySem.W.Frag} : PySem.W.kitOne K (.type "str") (.type "dict") = some false := kit_ty (by decide +kernel)
theorem k_NoneType_int {K : PySem.W.Frag} : PySem.W.kitOne K (.type "NoneType") (.type "int") = some false := kit_ty (by decide +kernel)
theorem k_NoneType_bool {K : PySem.W.Frag} : PySem.W.kitOne K (.type "NoneType") (.type "bool") = some false := kit_ty (by decide +kernel)
theorem k_NoneType_str {K : PySem.W.Frag} : PySem.W.kitOne K (.type "NoneType") (.type "str") = some false := kit_ty (by decide +kernel)
theorem k_NoneType_list {K : PySem.W.Frag} : PySem.W.kitOne K (.type "NoneType") (.type "list") = some false := kit_ty (by decide +kernel)
theorem k_NoneType_tuple {K : PySem.W.Frag} : PySem.W.kitOne K (.type "NoneType") (.type "tuple") = some false := kit_ty (by decide +kernel)
theorem k_NoneType_dict {K : PySem.W.Frag} : PySem.W.kitOne K (.type "NoneType") (.type "dict") = some false := kit_ty (by decide +kernel)
theorem k_list_int {K : PySem.W.Frag} : PySem.W.kitOne K (.type "list") (.type "int") = some false := kit_ty (by decide +kernel)
theorem k_list_bool {K : PySem.W.Frag} : PySem.W.kitOne K (.type "list") (.type "bool") = some false := kit_ty (by decide +kernel)
theorem k_list_str {K : PySem.W.Frag} : PySem.W.kitOne K (.type "list") (.type "str") = some false := kit_ty (by decide +kernel)
theorem k_list_list {K : PySem.W.Frag} : PySem.W.kitOne K (.type "list") (.type "list") = some true := kit_ty (by decide +kernel)
theorem k_list_tuple {K : PySem.W.Frag} : PySem.W.kitOne K (.type "list") (.type "tuple") = some false := kit_ty (by decide +kernel)
theorem k_list_dict {K : PySem.W.Frag} : PySem.W.kitOne K (.type "list") (.type "dict") = some false := kit_ty (by decide +kernel)
theorem k_tuple_int {K : PySem.W.Frag} : PySem.W.kitOne K (.type "tuple") (.type "int") = some false := kit_ty (by decide +kernel)
theorem k_tuple_bool {K : PySem.W.Frag} : PySem.W.kitOne K (.type "tuple") (.type "bool") = some false := kit_ty (by decide +kernel)
theorem k_tuple_str {K : PySem.W.Frag} : PySem.W.kitOne K (.type "tuple") (.type "str") = some false := kit_ty (by decide +kernel)
theorem k_tuple_list {K : PySem.W.Frag} : PySem.W.kitOne K (.type "tuple") (.type "list") = some false := kit_ty (by decide +kernel)
theorem k_tuple_tuple {K : PySem.W.Frag} : PySem.W.kitOne K (.type "tuple") (.type "tuple") = some true := kit_ty (by decide +kernel)
theorem k_tuple_dict {K : PySem.W.Frag} : PySem.W.kitOne K (.type "tuple") (.type "dict") = some false := kit_ty (by decide +kernel)
theorem k_dict_int {K : PySem.W.Frag} : PySem.W.kitOne K (.type "dict") (.type "int") = some false := kit_ty (by decide +kernel)
theorem k_dict_bool {K : PySem.W.Frag} : PySem.W.kitOne K (.type "dict") (.type "bool") = some false := kit_ty (by decide +kernel)
theorem k_dict_str {K : PySem.W.Frag} : PySem.W.kitOne K (.type "dict") (.type "str") = some false := kit_ty (by decide +kernel)
theorem k_dict_list {K : PySem.W.Frag} : PySem.W.kitOne K (.type "dict") (.type "list") = some false := kit_ty (by decide +kernel)
theorem k_dict_tuple {K : PySem.W.Frag} : PySem.W.kitOne K (.type "dict") (.type "tuple") = some false := kit_ty (by decide +kernel)
theorem k_dict_dict {K : PySem.W.Frag} : PySem.W.kitOne K (.type "dict") (.type "dict") = some true := kit_ty (by decide +kernel)
end RW

set_option Elab.async false
set_option linter.all false
set_option maxRecDepth 100000
set_option maxHeartbeats 0
namespace K17
open PySem PySem.Spec PyProof.Rows L2 RC
/-! ### the text -/
def top (i : Nat) : Stmt := PySem.Challenge.pw_recordyard_k06_formats_in_braces.main.body.getD i (.Pass ⟨0, 0, 0, 0⟩)
abbrev s_Filterer_init : Stmt := inClass (top 56) 0
abbrev nm_Filterer_init : List Str := ["self"]
theorem sc_Filterer_init : FnScope nm_Filterer_init ["self"] (defScope s_Filterer_init) := ⟨rfl, rfl, rfl, by decide +kernel, rfl, by decide +kernel, by decide +kernel⟩
def dd_Filterer_init : He.DefD := ⟨("Filterer", some "__init__"), "__init__", "Filterer.__init__", defArgs s_Filterer_init, defBody s_Filterer_init, defScope s_Filterer_init, [], []⟩
abbrev s_copied_value : Stmt := top 45
abbrev nm_copied_value : List Str := ["thing", "part", "name"]
theorem sc_copied_value : FnScope nm_copied_value ["thing"] (defScope s_copied_value) := ⟨rfl, rfl, rfl, by decide +kernel, rfl, by decide +kernel, by decide +kernel⟩
def dd_copied_value : He.DefD := ⟨("copied_value", none), "copied_value", "copied_value", defArgs s_copied_value, defBody s_copied_value, defScope s_copied_value, [], []⟩
abbrev s_message_of : Stmt := top 46
abbrev nm_message_of : List Str := ["msg", "args", "found", "at", "used", "sign", "pair"]
theorem sc_message_of : FnScope nm_message_of ["msg", "args"] (defScope s_message_of) := ⟨rfl, rfl, rfl, by decide +kernel, rfl, by decide +kernel, by decide +kernel⟩
def dd_message_of : He.DefD := ⟨("message_of", none), "message_of", "message_of", defArgs s_message_of, defBody s_message_of, defScope s_message_of, [], []⟩
abbrev s_BadLevel_init : Stmt := inClass (top 37) 0
abbrev nm_BadLevel_init : List Str := ["self", "level"]
theorem sc_BadLevel_init : FnScope nm_BadLevel_init ["self", "level"] (defScope s_BadLevel_init) := ⟨rfl, rfl, rfl, by decide +kernel, rfl, by decide +kernel, by decide +kernel⟩
def dd_BadLevel_init : He.DefD := ⟨("BadLevel", some "__init__"), "__init__", "BadLevel.__init__", defArgs s_BadLevel_init, defBody s_BadLevel_init, defScope s_BadLevel_init, [], []⟩
abbrev s_BadExtra_init : Stmt := inClass (top 38) 0
abbrev nm_BadExtra_init : List Str := ["self", "name"]
theorem sc_BadExtra_init : FnScope nm_BadExtra_init ["self", "name"] (defScope s_BadExtra_init) := ⟨rfl, rfl, rfl, by decide +kernel, rfl, by decide +kernel, by decide +kernel⟩
def dd_BadExtra_init : He.DefD := ⟨("BadExtra", some "__init__"), "__init__", "BadExtra.__init__", defArgs s_BadExtra_init, defBody s_BadExtra_init, defScope s_BadExtra_init, [], []⟩
abbrev s_BadField_init : Stmt := inClass (top 40) 0
abbrev nm_BadField_init : List Str := ["self", "name"]
theorem sc_BadField_init : FnScope nm_BadField_init ["self", "name"] (defScope s_BadField_init) := ⟨rfl, rfl, rfl, by decide +kernel, rfl, by decide +kernel, by decide +kernel⟩
def dd_BadField_init : He.DefD := ⟨("BadField", some "__init__"), "__init__", "BadField.__init__", defArgs s_BadField_init, defBody s_BadField_init, defScope s_BadField_init, [], []⟩
abbrev s_BadMessage_init : Stmt := inClass (top 39) 0
abbrev nm_BadMessage_init : List Str := ["self", "msg"]
theorem sc_BadMessage_init : FnScope nm_BadMessage_init ["self", "msg"] (defScope s_BadMessage_init) := ⟨rfl, rfl, rfl, by decide +kernel, rfl, by decide +kernel, by decide +kernel⟩
def dd_BadMessage_init : He.DefD := ⟨("BadMessage", some "__init__"), "__init__", "BadMessage.__init__", defArgs s_BadMessage_init, defBody s_BadMessage_init, defScope s_BadMessage_init, [], []⟩
abbrev s_LogRecord_init : Stmt := inClass (top 47) 0
abbrev nm_LogRecord_init : List Str := ["self", "name", "levelno", "levelname", "msg", "args", "created", "extra"]
theorem sc_LogRecord_init : FnScope nm_LogRecord_init ["self", "name", "levelno", "levelname", "msg", "args", "created", "extra"] (defScope s_LogRecord_init) := ⟨rfl, rfl, rfl, by decide +kernel, rfl, by decide +kernel, by decide +kernel⟩
def dd_LogRecord_init : He.DefD := ⟨("LogRecord", some "__init__"), "__init__", "LogRecord.__init__", defArgs s_LogRecord_init, defBody s_LogRecord_init, defScope s_LogRecord_init, [], []⟩
abbrev s_LogRecord_message : Stmt := inClass (top 47) 1
abbrev nm_LogRecord_message : List Str := ["self"]
theorem sc_LogRecord_message : FnScope nm_LogRecord_message ["self"] (defScope s_LogRecord_message) := ⟨rfl, rfl, rfl, by decide +kernel, rfl, by decide +kernel, by decide +kernel⟩
def dd_LogRecord_message : He.DefD := ⟨("LogRecord", some "message"), "message", "LogRecord.message", defArgs s_LogRecord_message, defBody s_LogRecord_message, defScope s_LogRecord_message, [], []⟩
abbrev s_LogRecord_field : Stmt := inClass (top 47) 2
abbrev nm_LogRecord_field : List Str := ["self", "name", "own", "values"]
theorem sc_LogRecord_field : FnScope nm_LogRecord_field ["self", "name"] (defScope s_LogRecord_field) := ⟨rfl, rfl, rfl, by decide +kernel, rfl, by decide +kernel, by decide +kernel⟩
def dd_LogRecord_field : He.DefD := ⟨("LogRecord", some "field"), "field", "LogRecord.field", defArgs s_LogRecord_field, defBody s_LogRecord_field, defScope s_LogRecord_field, [], []⟩
abbrev s_Handler_init : Stmt := inClass (top 58) 0
abbrev nm_Handler_init : List Str := ["self", "yard"]
theorem sc_Handler_init : FnScope nm_Handler_init ["self", "yard"] (defScope s_Handler_init) := ⟨rfl, rfl, rfl, by decide +kernel, rfl, by decide +kernel, by decide +kernel⟩
def dd_Handler_init : He.DefD := ⟨("Handler", some "__init__"), "__init__", "Handler.__init__", defArgs s_Handler_init, defBody s_Handler_init, defScope s_Handler_init, [], []⟩
abbrev s_StreamHandler_init : Stmt := inClass (top 59) 0
abbrev nm_StreamHandler_init : List Str := ["self", "yard", "stream"]
theorem sc_StreamHandler_init : FnScope nm_StreamHandler_init ["self", "yard", "stream"] (defScope s_StreamHandler_init) := ⟨rfl, rfl, rfl, by decide +kernel, rfl, by decide +kernel, by decide +kernel⟩
def dd_StreamHandler_init : He.DefD := ⟨("StreamHandler", some "__init__"), "__init__", "StreamHandler.__init__", defArgs s_StreamHandler_init, defBody s_StreamHandler_init, defScope s_StreamHandler_init, [.str "stderr"], []⟩
abbrev s_is_integer : Stmt := top 10
abbrev nm_is_integer : List Str := ["thing"]
theorem sc_is_integer : FnScope nm_is_integer ["thing"] (defScope s_is_integer) := ⟨rfl, rfl, rfl, by decide +kernel, rfl, by decide +kernel, by decide +kernel⟩
def dd_is_integer : He.DefD := ⟨("is_integer", none), "is_integer", "is_integer", defArgs s_is_integer, defBody s_is_integer, defScope s_is_integer, [], []⟩
abbrev s_Field_init : Stmt := inClass (top 14) 0
abbrev nm_Field_init : List Str := ["self", "name", "conversion", "fill", "align", "width"]
theorem sc_Field_init : FnScope nm_Field_init ["self", "name", "conversion", "fill", "align", "width"] (defScope s_Field_init) := ⟨rfl, rfl, rfl, by decide +kernel, rfl, by decide +kernel, by decide +kernel⟩
def dd_Field_init : He.DefD := ⟨("Field", some "__init__"), "__init__", "Field.__init__", defArgs s_Field_init, defBody s_Field_init, defScope s_Field_init, [.str "", .str " ", .str "", .int 0], []⟩
abbrev s_Field_side_of : Stmt := inClass (top 14) 1
abbrev nm_Field_side_of : List Str := ["self", "value"]
theorem sc_Field_side_of : FnScope nm_Field_side_of ["self", "value"] (defScope s_Field_side_of) := ⟨rfl, rfl, rfl, by decide +kernel, rfl, by decide +kernel, by decide +kernel⟩
def dd_Field_side_of : He.DefD := ⟨("Field", some "side_of"), "side_of", "Field.side_of", defArgs s_Field_side_of, defBody s_Field_side_of, defScope s_Field_side_of, [], []⟩
abbrev s_Field_written : Stmt := inClass (top 14) 2
abbrev nm_Field_written : List Str := ["self", "value", "text", "more", "ahead"]
theorem sc_Field_written : FnScope nm_Field_written ["self", "value"] (defScope s_Field_written) := ⟨rfl, rfl, rfl, by decide +kernel, rfl, by decide +kernel, by decide +kernel⟩
def dd_Field_written : He.DefD := ⟨("Field", some "written"), "written", "Field.written", defArgs s_Field_written, defBody s_Field_written, defScope s_Field_written, [], []⟩
abbrev s_name_end : Stmt := top 15
abbrev nm_name_end : List Str := ["text", "start", "end"]
theorem sc_name_end : FnScope nm_name_end ["text", "start"] (defScope s_name_end) := ⟨rfl, rfl, rfl, by decide +kernel, rfl, by decide +kernel, by decide +kernel⟩
def dd_name_end : He.DefD := ⟨("name_end", none), "name_end", "name_end", defArgs s_name_end, defBody s_name_end, defScope s_name_end, [], []⟩
abbrev s_is_width : Stmt := top 18
abbrev nm_is_width : List Str := ["text", "sign"]
theorem sc_is_width : FnScope nm_is_width ["text"] (defScope s_is_width) := ⟨rfl, rfl, rfl, by decide +kernel, rfl, by decide +kernel, by decide +kernel⟩
def dd_is_width : He.DefD := ⟨("is_width", none), "is_width", "is_width", defArgs s_is_width, defBody s_is_width, defScope s_is_width, [], []⟩
abbrev s_spec_of : Stmt := top 19
abbrev nm_spec_of : List Str := ["spec", "fill", "align", "width"]
theorem sc_spec_of : FnScope nm_spec_of ["spec"] (defScope s_spec_of) := ⟨rfl, rfl, rfl, by decide +kernel, rfl, by decide +kernel, by decide +kernel⟩
def dd_spec_of : He.DefD := ⟨("spec_of", none), "spec_of", "spec_of", defArgs s_spec_of, defBody s_spec_of, defScope s_spec_of, [], []⟩
abbrev s_field_of : Stmt := top 20
abbrev nm_field_of : List Str := ["body", "end", "name", "rest", "conversion", "spec"]
theorem sc_field_of : FnScope nm_field_of ["body"] (defScope s_field_of) := ⟨rfl, rfl, rfl, by decide +kernel, rfl, by decide +kernel, by decide +kernel⟩
def dd_field_of : He.DefD := ⟨("field_of", none), "field_of", "field_of", defArgs s_field_of, defBody s_field_of, defScope s_field_of, [], []⟩
abbrev s_parts_of_braces : Stmt := top 21
abbrev nm_parts_of_braces : List Str := ["fmt", "found", "at", "end", "part"]
theorem sc_parts_of_braces : FnScope nm_parts_of_braces ["fmt"] (defScope s_parts_of_braces) := ⟨rfl, rfl, rfl, by decide +kernel, rfl, by decide +kernel, by decide +kernel⟩
def dd_parts_of_braces : He.DefD := ⟨("parts_of_braces", none), "parts_of_braces", "parts_of_braces", defArgs s_parts_of_braces, defBody s_parts_of_braces, defScope s_parts_of_braces, [], []⟩
abbrev s_joined_texts : Stmt := top 50
abbrev nm_joined_texts : List Str := ["parts", "found", "part"]
theorem sc_joined_texts : FnScope nm_joined_texts ["parts"] (defScope s_joined_texts) := ⟨rfl, rfl, rfl, by decide +kernel, rfl, by decide +kernel, by decide +kernel⟩
def dd_joined_texts : He.DefD := ⟨("joined_texts", none), "joined_texts", "joined_texts", defArgs s_joined_texts, defBody s_joined_texts, defScope s_joined_texts, [], []⟩
abbrev s_Formatter_init : Stmt := inClass (top 51) 0
abbrev nm_Formatter_init : List Str := ["self", "fmt", "style", "validate", "defaults", "text", "parts", "part"]
theorem sc_Formatter_init : FnScope nm_Formatter_init ["self", "fmt", "style", "validate", "defaults"] (defScope s_Formatter_init) := ⟨rfl, rfl, rfl, by decide +kernel, rfl, by decide +kernel, by decide +kernel⟩
def dd_Formatter_init : He.DefD := ⟨("Formatter", some "__init__"), "__init__", "Formatter.__init__", defArgs s_Formatter_init, defBody s_Formatter_init, defScope s_Formatter_init, [.non, .str "{", .bl true, .non], []⟩
abbrev s_Formatter_value_of : Stmt := inClass (top 51) 1
abbrev nm_Formatter_value_of : List Str := ["self", "name", "record", "found"]
theorem sc_Formatter_value_of : FnScope nm_Formatter_value_of ["self", "name", "record"] (defScope s_Formatter_value_of) := ⟨rfl, rfl, rfl, by decide +kernel, rfl, by decide +kernel, by decide +kernel⟩
def dd_Formatter_value_of : He.DefD := ⟨("Formatter", some "value_of"), "value_of", "Formatter.value_of", defArgs s_Formatter_value_of, defBody s_Formatter_value_of, defScope s_Formatter_value_of, [], []⟩
abbrev s_Formatter_formatted : Stmt := inClass (top 51) 2
abbrev nm_Formatter_formatted : List Str := ["self", "record", "found", "part"]
theorem sc_Formatter_formatted : FnScope nm_Formatter_formatted ["self", "record"] (defScope s_Formatter_formatted) := ⟨rfl, rfl, rfl, by decide +kernel, rfl, by decide +kernel, by decide +kernel⟩
def dd_Formatter_formatted : He.DefD := ⟨("Formatter", some "formatted"), "formatted", "Formatter.formatted", defArgs s_Formatter_formatted, defBody s_Formatter_formatted, defScope s_Formatter_formatted, [], []⟩
abbrev s_Formatter_fields : Stmt := inClass (top 51) 3
abbrev nm_Formatter_fields : List Str := ["self", "part"]
theorem sc_Formatter_fields : FnScope nm_Formatter_fields ["self"] (defScope s_Formatter_fields) := ⟨rfl, rfl, rfl, by decide +kernel, rfl, by decide +kernel, by decide +kernel⟩
def dd_Formatter_fields : He.DefD := ⟨("Formatter", some "fields"), "fields", "Formatter.fields", defArgs s_Formatter_fields, defBody s_Formatter_fields, defScope s_Formatter_fields, [], []⟩
abbrev s_Logger_init : Stmt := inClass (top 61) 0
abbrev nm_Logger_init : List Str := ["self", "yard", "name", "level"]
theorem sc_Logger_init : FnScope nm_Logger_init ["self", "yard", "name", "level"] (defScope s_Logger_init) := ⟨rfl, rfl, rfl, by decide +kernel, rfl, by decide +kernel, by decide +kernel⟩
def dd_Logger_init : He.DefD := ⟨("Logger", some "__init__"), "__init__", "Logger.__init__", defArgs s_Logger_init, defBody s_Logger_init, defScope s_Logger_init, [], []⟩
abbrev s_Yard_init : Stmt := inClass (top 63) 0
abbrev nm_Yard_init : List Str := ["self", "now"]
theorem sc_Yard_init : FnScope nm_Yard_init ["self", "now"] (defScope s_Yard_init) := ⟨rfl, rfl, rfl, by decide +kernel, rfl, by decide +kernel, by decide +kernel⟩
def dd_Yard_init : He.DefD := ⟨("Yard", some "__init__"), "__init__", "Yard.__init__", defArgs s_Yard_init, defBody s_Yard_init, defScope s_Yard_init, [.int 0], []⟩
abbrev s_Yard_advance : Stmt := inClass (top 63) 2
abbrev nm_Yard_advance : List Str := ["self", "milliseconds"]
theorem sc_Yard_advance : FnScope nm_Yard_advance ["self", "milliseconds"] (defScope s_Yard_advance) := ⟨rfl, rfl, rfl, by decide +kernel, rfl, by decide +kernel, by decide +kernel⟩
def dd_Yard_advance : He.DefD := ⟨("Yard", some "advance"), "advance", "Yard.advance", defArgs s_Yard_advance, defBody s_Yard_advance, defScope s_Yard_advance, [], []⟩
abbrev s_Yard_level_name : Stmt := inClass (top 63) 16
abbrev nm_Yard_level_name : List Str := ["self", "level"]
theorem sc_Yard_level_name : FnScope nm_Yard_level_name ["self", "level"] (defScope s_Yard_level_name) := ⟨rfl, rfl, rfl, by decide +kernel, rfl, by decide +kernel, by decide +kernel⟩
def dd_Yard_level_name : He.DefD := ⟨("Yard", some "level_name"), "level_name", "Yard.level_name", defArgs s_Yard_level_name, defBody s_Yard_level_name, defScope s_Yard_level_name, [], []⟩
abbrev s_Yard_level_of : Stmt := inClass (top 63) 18
abbrev nm_Yard_level_of : List Str := ["self", "level"]
theorem sc_Yard_level_of : FnScope nm_Yard_level_of ["self", "level"] (defScope s_Yard_level_of) := ⟨rfl, rfl, rfl, by decide +kernel, rfl, by decide +kernel, by decide +kernel⟩
def dd_Yard_level_of : He.DefD := ⟨("Yard", some "level_of"), "level_of", "Yard.level_of", defArgs s_Yard_level_of, defBody s_Yard_level_of, defScope s_Yard_level_of, [], []⟩
abbrev s_Yard_make_record : Stmt := inClass (top 63) 19
abbrev nm_Yard_make_record : List Str := ["self", "name", "level", "msg", "args", "extra", "number", "more", "bad", "key"]
theorem sc_Yard_make_record : FnScope nm_Yard_make_record ["self", "name", "level", "msg", "args", "extra"] (defScope s_Yard_make_record) := ⟨rfl, rfl, rfl, by decide +kernel, rfl, by decide +kernel, by decide +kernel⟩
def dd_Yard_make_record : He.DefD := ⟨("Yard", some "make_record"), "make_record", "Yard.make_record", defArgs s_Yard_make_record, defBody s_Yard_make_record, defScope s_Yard_make_record, [.adr (He.dflAt ("Yard", some "make_record") 0), .non], []⟩
abbrev s_Yard_enrol : Stmt := inClass (top 63) 24
abbrev nm_Yard_enrol : List Str := ["self", "handler"]
theorem sc_Yard_enrol : FnScope nm_Yard_enrol ["self", "handler"] (defScope s_Yard_enrol) := ⟨rfl, rfl, rfl, by decide +kernel, rfl, by decide +kernel, by decide +kernel⟩
def dd_Yard_enrol : He.DefD := ⟨("Yard", some "enrol"), "enrol", "Yard.enrol", defArgs s_Yard_enrol, defBody s_Yard_enrol, defScope s_Yard_enrol, [], []⟩
abbrev s__law_draw : Stmt := top 65
abbrev nm__law_draw : List Str := ["_law_stream", "_law_many", "_law_digit", "_law_mixed", "_law_last"]
theorem sc__law_draw : FnScope nm__law_draw ["_law_stream", "_law_many"] (defScope s__law_draw) := ⟨rfl, rfl, rfl, by decide +kernel, rfl, by decide +kernel, by decide +kernel⟩
def dd__law_draw : He.DefD := ⟨("_law_draw", none), "_law_draw", "_law_draw", defArgs s__law_draw, defBody s__law_draw, defScope s__law_draw, [], []⟩
abbrev s__law_pick : Stmt := top 66
abbrev nm__law_pick : List Str := ["_law_stream", "_law_some"]
theorem sc__law_pick : FnScope nm__law_pick ["_law_stream", "_law_some"] (defScope s__law_pick) := ⟨rfl, rfl, rfl, by decide +kernel, rfl, by decide +kernel, by decide +kernel⟩
def dd__law_pick : He.DefD := ⟨("_law_pick", none), "_law_pick", "_law_pick", defArgs s__law_pick, defBody s__law_pick, defScope s__law_pick, [], []⟩
abbrev s__law_text : Stmt := top 67
abbrev nm__law_text : List Str := ["_law_stream", "_law_signs", "_law_most", "_law_k"]
theorem sc__law_text : FnScope nm__law_text ["_law_stream", "_law_signs", "_law_most"] (defScope s__law_text) := ⟨rfl, rfl, rfl, by decide +kernel, rfl, by decide +kernel, by decide +kernel⟩
def dd__law_text : He.DefD := ⟨("_law_text", none), "_law_text", "_law_text", defArgs s__law_text, defBody s__law_text, defScope s__law_text, [], []⟩
abbrev s__law_object : Stmt := top 68
abbrev nm__law_object : List Str := ["_law_stream", "_law_deep", "_law_way", "_law_some", "_law_parts", "_law_k"]
theorem sc__law_object : FnScope nm__law_object ["_law_stream", "_law_deep"] (defScope s__law_object) := ⟨rfl, rfl, rfl, by decide +kernel, rfl, by decide +kernel, by decide +kernel⟩
def dd__law_object : He.DefD := ⟨("_law_object", none), "_law_object", "_law_object", defArgs s__law_object, defBody s__law_object, defScope s__law_object, [], []⟩
abbrev s__law_pieces : Stmt := top 69
abbrev nm__law_pieces : List Str := ["_law_stream", "_law_most", "_law_words", "_law_things", "_law_due", "_law_k", "_law_way", "_law_piece"]
theorem sc__law_pieces : FnScope nm__law_pieces ["_law_stream", "_law_most"] (defScope s__law_pieces) := ⟨rfl, rfl, rfl, by decide +kernel, rfl, by decide +kernel, by decide +kernel⟩
def dd__law_pieces : He.DefD := ⟨("_law_pieces", none), "_law_pieces", "_law_pieces", defArgs s__law_pieces, defBody s__law_pieces, defScope s__law_pieces, [], []⟩
abbrev s__law_known : Stmt := top 70
abbrev nm__law_known : List Str := ["_law_stream", "_law_some", "_law_key"]
theorem sc__law_known : FnScope nm__law_known ["_law_stream"] (defScope s__law_known) := ⟨rfl, rfl, rfl, by decide +kernel, rfl, by decide +kernel, by decide +kernel⟩
def dd__law_known : He.DefD := ⟨("_law_known", none), "_law_known", "_law_known", defArgs s__law_known, defBody s__law_known, defScope s__law_known, [], []⟩
abbrev s__law_worth : Stmt := top 71
abbrev nm__law_worth : List Str := ["_law_record", "_law_key", "_law_spare", "_law_own", "_law_some"]
theorem sc__law_worth : FnScope nm__law_worth ["_law_record", "_law_key", "_law_spare"] (defScope s__law_worth) := ⟨rfl, rfl, rfl, by decide +kernel, rfl, by decide +kernel, by decide +kernel⟩
def dd__law_worth : He.DefD := ⟨("_law_worth", none), "_law_worth", "_law_worth", defArgs s__law_worth, defBody s__law_worth, defScope s__law_worth, [], []⟩
abbrev s__law_filled : Stmt := top 72
abbrev nm__law_filled : List Str := ["_law_shown", "_law_fill", "_law_align", "_law_width", "_law_is_left"]
theorem sc__law_filled : FnScope nm__law_filled ["_law_shown", "_law_fill", "_law_align", "_law_width"] (defScope s__law_filled) := ⟨rfl, rfl, rfl, by decide +kernel, rfl, by decide +kernel, by decide +kernel⟩
def dd__law_filled : He.DefD := ⟨("_law_filled", none), "_law_filled", "_law_filled", defArgs s__law_filled, defBody s__law_filled, defScope s__law_filled, [], []⟩
abbrev s__law_written : Stmt := top 73
abbrev nm__law_written : List Str := ["_law_value", "_law_field_here", "_law_key", "_law_sign", "_law_fill", "_law_align", "_law_width", "_law_is_whole"]
theorem sc__law_written : FnScope nm__law_written ["_law_value", "_law_field_here"] (defScope s__law_written) := ⟨rfl, rfl, rfl, by decide +kernel, rfl, by decide +kernel, by decide +kernel⟩
def dd__law_written : He.DefD := ⟨("_law_written", none), "_law_written", "_law_written", defArgs s__law_written, defBody s__law_written, defScope s__law_written, [], []⟩
abbrev s__law_field : Stmt := top 74
abbrev nm__law_field : List Str := ["_law_stream", "_law_keys", "_law_key", "_law_sign", "_law_align", "_law_fill"]
theorem sc__law_field : FnScope nm__law_field ["_law_stream", "_law_keys"] (defScope s__law_field) := ⟨rfl, rfl, rfl, by decide +kernel, rfl, by decide +kernel, by decide +kernel⟩
def dd__law_field : He.DefD := ⟨("_law_field", none), "_law_field", "_law_field", defArgs s__law_field, defBody s__law_field, defScope s__law_field, [], []⟩
abbrev s__law_braced : Stmt := top 75
abbrev nm__law_braced : List Str := ["_law_field_here", "_law_key", "_law_sign", "_law_fill", "_law_align", "_law_width", "_law_spec"]
theorem sc__law_braced : FnScope nm__law_braced ["_law_field_here"] (defScope s__law_braced) := ⟨rfl, rfl, rfl, by decide +kernel, rfl, by decide +kernel, by decide +kernel⟩
def dd__law_braced : He.DefD := ⟨("_law_braced", none), "_law_braced", "_law_braced", defArgs s__law_braced, defBody s__law_braced, defScope s__law_braced, [], []⟩
abbrev s__law_braced_text : Stmt := top 76
abbrev nm__law_braced_text : List Str := ["_law_shown"]
theorem sc__law_braced_text : FnScope nm__law_braced_text ["_law_shown"] (defScope s__law_braced_text) := ⟨rfl, rfl, rfl, by decide +kernel, rfl, by decide +kernel, by decide +kernel⟩
def dd__law_braced_text : He.DefD := ⟨("_law_braced_text", none), "_law_braced_text", "_law_braced_text", defArgs s__law_braced_text, defBody s__law_braced_text, defScope s__law_braced_text, [], []⟩
abbrev s__law_format_parts : Stmt := top 77
abbrev nm__law_format_parts : List Str := ["_law_stream", "_law_most", "_law_keys", "_law_found", "_law_k"]
theorem sc__law_format_parts : FnScope nm__law_format_parts ["_law_stream", "_law_most", "_law_keys"] (defScope s__law_format_parts) := ⟨rfl, rfl, rfl, by decide +kernel, rfl, by decide +kernel, by decide +kernel⟩
def dd__law_format_parts : He.DefD := ⟨("_law_format_parts", none), "_law_format_parts", "_law_format_parts", defArgs s__law_format_parts, defBody s__law_format_parts, defScope s__law_format_parts, [], []⟩
abbrev s__law_line : Stmt := top 78
abbrev nm__law_line : List Str := ["_law_record", "_law_parts", "_law_spare", "_law_found", "_law_part"]
theorem sc__law_line : FnScope nm__law_line ["_law_record", "_law_parts", "_law_spare"] (defScope s__law_line) := ⟨rfl, rfl, rfl, by decide +kernel, rfl, by decide +kernel, by decide +kernel⟩
def dd__law_line : He.DefD := ⟨("_law_line", none), "_law_line", "_law_line", defArgs s__law_line, defBody s__law_line, defScope s__law_line, [], []⟩
abbrev s__law_any_record : Stmt := top 79
abbrev nm__law_any_record : List Str := ["_law_stream", "_law_yard", "_law_more", "_law_words", "_law_things", "_law_due", "_law_number", "_law_called"]
theorem sc__law_any_record : FnScope nm__law_any_record ["_law_stream", "_law_yard", "_law_more"] (defScope s__law_any_record) := ⟨rfl, rfl, rfl, by decide +kernel, rfl, by decide +kernel, by decide +kernel⟩
def dd__law_any_record : He.DefD := ⟨("_law_any_record", none), "_law_any_record", "_law_any_record", defArgs s__law_any_record, defBody s__law_any_record, defScope s__law_any_record, [], []⟩
abbrev s__law_braced_parts : Stmt := top 80
abbrev nm__law_braced_parts : List Str := ["_law_parts", "_law_part"]
theorem sc__law_braced_parts : FnScope nm__law_braced_parts ["_law_parts"] (defScope s__law_braced_parts) := ⟨rfl, rfl, rfl, by decide +kernel, rfl, by decide +kernel, by decide +kernel⟩
def dd__law_braced_parts : He.DefD := ⟨("_law_braced_parts", none), "_law_braced_parts", "_law_braced_parts", defArgs s__law_braced_parts, defBody s__law_braced_parts, defScope s__law_braced_parts, [], []⟩
abbrev s_law : Stmt := top 81
abbrev nm_law : List Str := ["_law_script", "_law_stream", "_law_yard", "_law_turn", "_law_more", "_law_spare", "_law_keys", "_law_parts", "_law_formatter", "_law_time", "_law_record", "_law_due", "_law_part"]
theorem sc_law : FnScope nm_law ["_law_script"] (defScope s_law) := ⟨rfl, rfl, rfl, by decide +kernel, rfl, by decide +kernel, by decide +kernel⟩
def dd_law : He.DefD := ⟨("law", none), "law", "law", defArgs s_law, defBody s_law, defScope s_law, [], []⟩
def kv_FIRST_NAMES : List (Key × He.Dv) := [(Sum.inl (50), .str "CRITICAL"), (Sum.inl (40), .str "ERROR"), (Sum.inl (30), .str "WARNING"), (Sum.inl (20), .str "INFO"), (Sum.inl (10), .str "DEBUG"), (Sum.inl (0), .str "NOTSET")]
def kv_FIRST_NUMBERS : List (Key × He.Dv) := [(Sum.inr "CRITICAL", .int (50)), (Sum.inr "FATAL", .int (50)), (Sum.inr "ERROR", .int (40)), (Sum.inr "WARNING", .int (30)), (Sum.inr "WARN", .int (30)), (Sum.inr "INFO", .int (20)), (Sum.inr "DEBUG", .int (10)), (Sum.inr "NOTSET", .int (0))]
def kv_MESSAGE_ALONE : List (Key × He.Dv) := [(Sum.inr "{", .str "{message}"), (Sum.inr "$", .str "$message")]
def fa : List He.Fa := ([.glo "Filterer", .glo "LogRecord", .glo "Handler", .glo "StreamHandler", .glo "Field", .glo "Formatter", .glo "Logger", .glo "Yard", .glo "BadLevel", .glo "BadExtra", .glo "BadField", .glo "BadMessage"] : List He.Fa) ++ ([.glo "copied_value", .glo "message_of", .glo "is_integer", .glo "name_end", .glo "is_width", .glo "spec_of", .glo "field_of", .glo "parts_of_braces", .glo "joined_texts", .glo "_law_draw", .glo "_law_pick", .glo "_law_text"] : List He.Fa) ++ ([.glo "_law_object", .glo "_law_pieces", .glo "_law_known", .glo "_law_worth", .glo "_law_filled", .glo "_law_written", .glo "_law_field", .glo "_law_braced", .glo "_law_braced_text", .glo "_law_format_parts", .glo "_law_line", .glo "_law_any_record"] : List He.Fa) ++ ([.glo "_law_braced_parts", .glo "law", .int "WARNING" 30, .int "NOTSET" 0, .glo "OWN_FIELDS", .glo "ALIGNS", .glo "FIRST_NAMES", .glo "FIRST_NUMBERS", .str "LETTERS" "abcdefghijklmnopqrstuvwxyzABCDEFGHIJKLMNOPQRSTUVWXYZ_", .str "DIGITS" "0123456789", .glo "MESSAGE_ALONE", .free "len"] : List He.Fa) ++ ([.free "isinstance", .free "int", .free "str", .free "list", .free "tuple", .free "bool", .free "dict", .free "range", .free "sorted", .free "all", .free "zip", .free "max"] : List He.Fa) ++ ([.free "repr", .cls "LogRecord", .noat "LogRecord" "name", .noat "LogRecord" "levelno", .noat "LogRecord" "levelname", .noat "LogRecord" "msg", .noat "LogRecord" "given", .noat "LogRecord" "created", .noat "LogRecord" "extra", .cls "StreamHandler", .noat "StreamHandler" "filters", .noat "StreamHandler" "yard"] : List He.Fa) ++ ([.noat "StreamHandler" "level", .noat "StreamHandler" "formatter", .noat "StreamHandler" "name", .noat "StreamHandler" "terminator", .noat "StreamHandler" "closed", .noat "StreamHandler" "stream", .cls "Field", .noat "Field" "name", .noat "Field" "conversion", .noat "Field" "fill", .noat "Field" "align", .noat "Field" "width"] : List He.Fa) ++ ([.cls "Formatter", .noat "Formatter" "fmt", .noat "Formatter" "style", .noat "Formatter" "parts", .noat "Formatter" "defaults", .cls "Logger", .noat "Logger" "filters", .noat "Logger" "yard", .noat "Logger" "name", .noat "Logger" "level", .noat "Logger" "propagate", .noat "Logger" "disabled"] : List He.Fa) ++ ([.noat "Logger" "handlers", .noat "Logger" "parent", .cls "Yard", .noat "Yard" "clock", .noat "Yard" "stream_texts", .noat "Yard" "file_rows", .noat "Yard" "names_of", .noat "Yard" "numbers_of", .noat "Yard" "bar_level", .noat "Yard" "logger_map", .noat "Yard" "made", .noat "Yard" "handler_names"] : List He.Fa) ++ ([.noat "Yard" "failure_rows", .noat "Yard" "root", .noat "Yard" "last_resort", .meth "LogRecord" "message", .meth "LogRecord" "field", .meth "Field" "side_of", .meth "Field" "written", .meth "Formatter" "value_of", .meth "Formatter" "formatted", .meth "Formatter" "fields", .meth "Yard" "advance", .meth "Yard" "level_name"] : List He.Fa) ++ ([.meth "Yard" "level_of", .meth "Yard" "make_record", .meth "Yard" "enrol", .mkr "StreamHandler", .mkr "Logger", .mkr "Yard", .mkr "LogRecord", .mkr "Field", .mkr "Formatter"] : List He.Fa)
def fx : List RB.Fx := ([.exc "BadLevel" "level", .exc "BadExtra" "name", .exc "BadField" "name", .exc "BadMessage" "msg", .exm "BadField" "BadField" true, .pl "Logger", .pl "StreamHandler", .pl "LogRecord", .sub "Logger" "Logger", .sub "StreamHandler" "StreamHandler", .sub "LogRecord" "LogRecord", .cf "Filterer" "__init__"] : List RB.Fx) ++ ([.cf "Handler" "__init__", .ty "Field", .kit "Field" "Field" true, .kib "str" "Field" false, .kiy "Field" "str" false, .ktup "ALIGNS" ["<", ">", "^"], .ktup "OWN_FIELDS" ["name", "levelno", "levelname", "msg", "args", "created", "msecs", "message", "asctime"], .dtup ("Yard", some "make_record") 0] : List RB.Fx)
def fn : List He.DefD := ([dd_Filterer_init, dd_copied_value, dd_message_of, dd_BadLevel_init, dd_BadExtra_init, dd_BadField_init, dd_BadMessage_init, dd_LogRecord_init, dd_LogRecord_message, dd_LogRecord_field, dd_Handler_init, dd_StreamHandler_init] : List He.DefD) ++ ([dd_is_integer, dd_Field_init, dd_Field_side_of, dd_Field_written, dd_name_end, dd_is_width, dd_spec_of, dd_field_of, dd_parts_of_braces, dd_joined_texts, dd_Formatter_init, dd_Formatter_value_of] : List He.DefD) ++ ([dd_Formatter_formatted, dd_Formatter_fields, dd_Logger_init, dd_Yard_init, dd_Yard_advance, dd_Yard_level_name, dd_Yard_level_of, dd_Yard_make_record, dd_Yard_enrol, dd__law_draw, dd__law_pick, dd__law_text] : List He.DefD) ++ ([dd__law_object, dd__law_pieces, dd__law_known, dd__law_worth, dd__law_filled, dd__law_written, dd__law_field, dd__law_braced, dd__law_braced_text, dd__law_format_parts, dd__law_line, dd__law_any_record] : List He.DefD) ++ ([dd__law_braced_parts, dd_law] : List He.DefD)
def ts : List RB.Tb := ([("FIRST_NAMES", kv_FIRST_NAMES), ("FIRST_NUMBERS", kv_FIRST_NUMBERS), ("MESSAGE_ALONE", kv_MESSAGE_ALONE)] : List RB.Tb)
def names : List PySem.Str := (["_wall", "CRITICAL", "ERROR", "WARNING", "INFO", "DEBUG", "NOTSET", "FIRST_NAMES", "FIRST_NUMBERS", "is_integer", "LETTERS", "DIGITS"] : List PySem.Str) ++ (["Field", "name_end", "ALIGNS", "is_width", "spec_of", "field_of", "parts_of_braces", "DAY", "MONTHS", "is_leap", "first_day", "date_of"] : List PySem.Str) ++ (["padded", "date_text", "clock_parts", "shown_time", "field_behind", "parts_of_dollars", "YardError", "BadLevel", "BadExtra", "BadMessage", "BadField", "BadFormat"] : List PySem.Str) ++ (["BadStyle", "OWN_FIELDS", "copied_value", "message_of", "LogRecord", "MESSAGE_ALONE", "joined_texts", "Formatter", "is_below", "let_by", "Filter", "Filterer"] : List PySem.Str) ++ (["Handler", "StreamHandler", "Logger", "Yard", "_law_draw", "_law_pick", "_law_text", "_law_object", "_law_pieces", "_law_known", "_law_worth", "_law_filled"] : List PySem.Str) ++ (["_law_written", "_law_field", "_law_braced", "_law_braced_text", "_law_format_parts", "_law_line", "_law_any_record", "_law_braced_parts"] : List PySem.Str)
/-- what the text is, behind the top -/
structure Txt (P : Program) (w : World) (K : PySem.W.Frag) (mg : Str → Option Value) : Prop where
  g_Filterer : mg "Filterer" = some (.ref (He.ga K "Filterer"))
  g_LogRecord : mg "LogRecord" = some (.ref (He.ga K "LogRecord"))
  g_Handler : mg "Handler" = some (.ref (He.ga K "Handler"))
  g_StreamHandler : mg "StreamHandler" = some (.ref (He.ga K "StreamHandler"))
  g_Field : mg "Field" = some (.ref (He.ga K "Field"))
  g_Formatter : mg "Formatter" = some (.ref (He.ga K "Formatter"))
  g_Logger : mg "Logger" = some (.ref (He.ga K "Logger"))
  g_Yard : mg "Yard" = some (.ref (He.ga K "Yard"))
  g_BadLevel : mg "BadLevel" = some (.ref (He.ga K "BadLevel"))
  g_BadExtra : mg "BadExtra" = some (.ref (He.ga K "BadExtra"))
  g_BadField : mg "BadField" = some (.ref (He.ga K "BadField"))
  g_BadMessage : mg "BadMessage" = some (.ref (He.ga K "BadMessage"))
  g_copied_value : mg "copied_value" = some (.ref (He.ga K "copied_value"))
  g_message_of : mg "message_of" = some (.ref (He.ga K "message_of"))
  g_is_integer : mg "is_integer" = some (.ref (He.ga K "is_integer"))
  g_name_end : mg "name_end" = some (.ref (He.ga K "name_end"))
  g_is_width : mg "is_width" = some (.ref (He.ga K "is_width"))
  g_spec_of : mg "spec_of" = some (.ref (He.ga K "spec_of"))
  g_field_of : mg "field_of" = some (.ref (He.ga K "field_of"))
  g_parts_of_braces : mg "parts_of_braces" = some (.ref (He.ga K "parts_of_braces"))
  g_joined_texts : mg "joined_texts" = some (.ref (He.ga K "joined_texts"))
  g__law_draw : mg "_law_draw" = some (.ref (He.ga K "_law_draw"))
  g__law_pick : mg "_law_pick" = some (.ref (He.ga K "_law_pick"))
  g__law_text : mg "_law_text" = some (.ref (He.ga K "_law_text"))
  g__law_object : mg "_law_object" = some (.ref (He.ga K "_law_object"))
  g__law_pieces : mg "_law_pieces" = some (.ref (He.ga K "_law_pieces"))
  g__law_known : mg "_law_known" = some (.ref (He.ga K "_law_known"))
  g__law_worth : mg "_law_worth" = some (.ref (He.ga K "_law_worth"))
  g__law_filled : mg "_law_filled" = some (.ref (He.ga K "_law_filled"))
  g__law_written : mg "_law_written" = some (.ref (He.ga K "_law_written"))
  g__law_field : mg "_law_field" = some (.ref (He.ga K "_law_field"))
  g__law_braced : mg "_law_braced" = some (.ref (He.ga K "_law_braced"))
  g__law_braced_text : mg "_law_braced_text" = some (.ref (He.ga K "_law_braced_text"))
  g__law_format_parts : mg "_law_format_parts" = some (.ref (He.ga K "_law_format_parts"))
  g__law_line : mg "_law_line" = some (.ref (He.ga K "_law_line"))
  g__law_any_record : mg "_law_any_record" = some (.ref (He.ga K "_law_any_record"))
  g__law_braced_parts : mg "_law_braced_parts" = some (.ref (He.ga K "_law_braced_parts"))
  g_law : mg "law" = some (.ref (He.ga K "law"))
  g_WARNING : ∃ t, mg "WARNING" = some (.int 30 t)
  g_NOTSET : ∃ t, mg "NOTSET" = some (.int 0 t)
  g_OWN_FIELDS : mg "OWN_FIELDS" = some (.ref (He.ga K "OWN_FIELDS"))
  g_ALIGNS : mg "ALIGNS" = some (.ref (He.ga K "ALIGNS"))
  g_FIRST_NAMES : mg "FIRST_NAMES" = some (.ref (He.ga K "FIRST_NAMES"))
  g_FIRST_NUMBERS : mg "FIRST_NUMBERS" = some (.ref (He.ga K "FIRST_NUMBERS"))
  g_LETTERS : ∃ t, mg "LETTERS" = some (.str "abcdefghijklmnopqrstuvwxyzABCDEFGHIJKLMNOPQRSTUVWXYZ_" t)
  g_DIGITS : ∃ t, mg "DIGITS" = some (.str "0123456789" t)
  g_MESSAGE_ALONE : mg "MESSAGE_ALONE" = some (.ref (He.ga K "MESSAGE_ALONE"))
  b_len : mg "len" = none
  b_isinstance : mg "isinstance" = none
  b_int : mg "int" = none
  b_str : mg "str" = none
  b_list : mg "list" = none
  b_tuple : mg "tuple" = none
  b_bool : mg "bool" = none
  b_dict : mg "dict" = none
  b_range : mg "range" = none
  b_sorted : mg "sorted" = none
  b_all : mg "all" = none
  b_zip : mg "zip" = none
  b_max : mg "max" = none
  b_repr : mg "repr" = none
  c_LogRecord : Cls K (He.ga K "LogRecord")
  n_LogRecord_name : NoAttr K (He.ga K "LogRecord") "name"
  n_LogRecord_levelno : NoAttr K (He.ga K "LogRecord") "levelno"
  n_LogRecord_levelname : NoAttr K (He.ga K "LogRecord") "levelname"
  n_LogRecord_msg : NoAttr K (He.ga K "LogRecord") "msg"
  n_LogRecord_given : NoAttr K (He.ga K "LogRecord") "given"
  n_LogRecord_created : NoAttr K (He.ga K "LogRecord") "created"
  n_LogRecord_extra : NoAttr K (He.ga K "LogRecord") "extra"
  c_StreamHandler : Cls K (He.ga K "StreamHandler")
  n_StreamHandler_filters : NoAttr K (He.ga K "StreamHandler") "filters"
  n_StreamHandler_yard : NoAttr K (He.ga K "StreamHandler") "yard"
  n_StreamHandler_level : NoAttr K (He.ga K "StreamHandler") "level"
  n_StreamHandler_formatter : NoAttr K (He.ga K "StreamHandler") "formatter"
  n_StreamHandler_name : NoAttr K (He.ga K "StreamHandler") "name"
  n_StreamHandler_terminator : NoAttr K (He.ga K "StreamHandler") "terminator"
  n_StreamHandler_closed : NoAttr K (He.ga K "StreamHandler") "closed"
  n_StreamHandler_stream : NoAttr K (He.ga K "StreamHandler") "stream"
  c_Field : Cls K (He.ga K "Field")
  n_Field_name : NoAttr K (He.ga K "Field") "name"
  n_Field_conversion : NoAttr K (He.ga K "Field") "conversion"
  n_Field_fill : NoAttr K (He.ga K "Field") "fill"
  n_Field_align : NoAttr K (He.ga K "Field") "align"
  n_Field_width : NoAttr K (He.ga K "Field") "width"
  c_Formatter : Cls K (He.ga K "Formatter")
  n_Formatter_fmt : NoAttr K (He.ga K "Formatter") "fmt"
  n_Formatter_style : NoAttr K (He.ga K "Formatter") "style"
  n_Formatter_parts : NoAttr K (He.ga K "Formatter") "parts"
  n_Formatter_defaults : NoAttr K (He.ga K "Formatter") "defaults"
  c_Logger : Cls K (He.ga K "Logger")
  n_Logger_filters : NoAttr K (He.ga K "Logger") "filters"
  n_Logger_yard : NoAttr K (He.ga K "Logger") "yard"
  n_Logger_name : NoAttr K (He.ga K "Logger") "name"
  n_Logger_level : NoAttr K (He.ga K "Logger") "level"
  n_Logger_propagate : NoAttr K (He.ga K "Logger") "propagate"
  n_Logger_disabled : NoAttr K (He.ga K "Logger") "disabled"
  n_Logger_handlers : NoAttr K (He.ga K "Logger") "handlers"
  n_Logger_parent : NoAttr K (He.ga K "Logger") "parent"
  c_Yard : Cls K (He.ga K "Yard")
  n_Yard_clock : NoAttr K (He.ga K "Yard") "clock"
  n_Yard_stream_texts : NoAttr K (He.ga K "Yard") "stream_texts"
  n_Yard_file_rows : NoAttr K (He.ga K "Yard") "file_rows"
  n_Yard_names_of : NoAttr K (He.ga K "Yard") "names_of"
  n_Yard_numbers_of : NoAttr K (He.ga K "Yard") "numbers_of"
  n_Yard_bar_level : NoAttr K (He.ga K "Yard") "bar_level"
  n_Yard_logger_map : NoAttr K (He.ga K "Yard") "logger_map"
  n_Yard_made : NoAttr K (He.ga K "Yard") "made"
  n_Yard_handler_names : NoAttr K (He.ga K "Yard") "handler_names"
  n_Yard_failure_rows : NoAttr K (He.ga K "Yard") "failure_rows"
  n_Yard_root : NoAttr K (He.ga K "Yard") "root"
  n_Yard_last_resort : NoAttr K (He.ga K "Yard") "last_resort"
  m_LogRecord_message : Meth K (He.ga K "LogRecord") "message" (He.ma K (He.ga K "LogRecord") "message")
  m_LogRecord_field : Meth K (He.ga K "LogRecord") "field" (He.ma K (He.ga K "LogRecord") "field")
  m_Field_side_of : Meth K (He.ga K "Field") "side_of" (He.ma K (He.ga K "Field") "side_of")
  m_Field_written : Meth K (He.ga K "Field") "written" (He.ma K (He.ga K "Field") "written")
  m_Formatter_value_of : Meth K (He.ga K "Formatter") "value_of" (He.ma K (He.ga K "Formatter") "value_of")
  m_Formatter_formatted : Meth K (He.ga K "Formatter") "formatted" (He.ma K (He.ga K "Formatter") "formatted")
  m_Formatter_fields : Meth K (He.ga K "Formatter") "fields" (He.ma K (He.ga K "Formatter") "fields")
  m_Yard_advance : Meth K (He.ga K "Yard") "advance" (He.ma K (He.ga K "Yard") "advance")
  m_Yard_level_name : Meth K (He.ga K "Yard") "level_name" (He.ma K (He.ga K "Yard") "level_name")
  m_Yard_level_of : Meth K (He.ga K "Yard") "level_of" (He.ma K (He.ga K "Yard") "level_of")
  m_Yard_make_record : Meth K (He.ga K "Yard") "make_record" (He.ma K (He.ga K "Yard") "make_record")
  m_Yard_enrol : Meth K (He.ga K "Yard") "enrol" (He.ma K (He.ga K "Yard") "enrol")
  k_StreamHandler : Mk K (He.ga K "StreamHandler") (He.ma K (He.ga K "StreamHandler") "__init__")
  k_Logger : Mk K (He.ga K "Logger") (He.ma K (He.ga K "Logger") "__init__")
  k_Yard : Mk K (He.ga K "Yard") (He.ma K (He.ga K "Yard") "__init__")
  k_LogRecord : Mk K (He.ga K "LogRecord") (He.ma K (He.ga K "LogRecord") "__init__")
  k_Field : Mk K (He.ga K "Field") (He.ma K (He.ga K "Field") "__init__")
  k_Formatter : Mk K (He.ga K "Formatter") (He.ma K (He.ga K "Formatter") "__init__")
  x_BadLevel : RB.ExcF K (He.ga K "BadLevel") "level"
  x_BadExtra : RB.ExcF K (He.ga K "BadExtra") "name"
  x_BadField : RB.ExcF K (He.ga K "BadField") "name"
  x_BadMessage : RB.ExcF K (He.ga K "BadMessage") "msg"
  e_BadField_BadField : PySem.W.exmOne K (.ref (He.ga K "BadField")) (.ref (He.ga K "BadField")) = some true
  p_Logger : RA.PlainC K (He.ga K "Logger")
  p_StreamHandler : RA.PlainC K (He.ga K "StreamHandler")
  p_LogRecord : RA.PlainC K (He.ga K "LogRecord")
  sub_Logger_Logger : RA.PairC K (He.ga K "Logger") (He.ga K "Logger")
  sub_StreamHandler_StreamHandler : RA.PairC K (He.ga K "StreamHandler") (He.ga K "StreamHandler")
  sub_LogRecord_LogRecord : RA.PairC K (He.ga K "LogRecord") (He.ga K "LogRecord")
  cf_Filterer_init : RA.CFun K (He.ga K "Filterer") "__init__" (He.ma K (He.ga K "Filterer") "__init__")
  cf_Handler_init : RA.CFun K (He.ga K "Handler") "__init__" (He.ma K (He.ga K "Handler") "__init__")
  ty_Field : RB.TyC K (He.ga K "Field")
  kit_Field_Field : PySem.W.kitOne K (.ref (He.ga K "Field")) (.ref (He.ga K "Field")) = some true
  kib_str_Field : PySem.W.kitOne K (.type "str") (.ref (He.ga K "Field")) = some false
  kiy_Field_str : PySem.W.kitOne K (.ref (He.ga K "Field")) (.type "str") = some false
  kt_ALIGNS : ∀ H : Hp, SqT K H (He.ga K "ALIGNS") ((["<", ">", "^"] : List Str).map V.str)
  kt_OWN_FIELDS : ∀ H : Hp, SqT K H (He.ga K "OWN_FIELDS") ((["name", "levelno", "levelname", "msg", "args", "created", "msecs", "message", "asctime"] : List Str).map V.str)
  dt_Yard_make_record_0 : ∀ H : Hp, SqT K H (He.dflAt ("Yard", some "make_record") 0 K) []
  d_Filterer_init : Stands K "__init__" "Filterer.__init__" s_Filterer_init [] (He.fAd K ("Filterer", some "__init__"))
  d_copied_value : Stands K "copied_value" "copied_value" s_copied_value [] (He.fAd K ("copied_value", none))
  d_message_of : Stands K "message_of" "message_of" s_message_of [] (He.fAd K ("message_of", none))
  d_BadLevel_init : Stands K "__init__" "BadLevel.__init__" s_BadLevel_init [] (He.fAd K ("BadLevel", some "__init__"))
  d_BadExtra_init : Stands K "__init__" "BadExtra.__init__" s_BadExtra_init [] (He.fAd K ("BadExtra", some "__init__"))
  d_BadField_init : Stands K "__init__" "BadField.__init__" s_BadField_init [] (He.fAd K ("BadField", some "__init__"))
  d_BadMessage_init : Stands K "__init__" "BadMessage.__init__" s_BadMessage_init [] (He.fAd K ("BadMessage", some "__init__"))
  d_LogRecord_init : Stands K "__init__" "LogRecord.__init__" s_LogRecord_init [] (He.fAd K ("LogRecord", some "__init__"))
  d_LogRecord_message : Stands K "message" "LogRecord.message" s_LogRecord_message [] (He.fAd K ("LogRecord", some "message"))
  d_LogRecord_field : Stands K "field" "LogRecord.field" s_LogRecord_field [] (He.fAd K ("LogRecord", some "field"))
  d_Handler_init : Stands K "__init__" "Handler.__init__" s_Handler_init [] (He.fAd K ("Handler", some "__init__"))
  d_StreamHandler_init : Stands K "__init__" "StreamHandler.__init__" s_StreamHandler_init [(He.Dv.str "stderr" : He.Dv).v K] (He.fAd K ("StreamHandler", some "__init__"))
  d_is_integer : Stands K "is_integer" "is_integer" s_is_integer [] (He.fAd K ("is_integer", none))
  d_Field_init : Stands K "__init__" "Field.__init__" s_Field_init [(He.Dv.str "" : He.Dv).v K, (He.Dv.str " " : He.Dv).v K, (He.Dv.str "" : He.Dv).v K, (He.Dv.int 0 : He.Dv).v K] (He.fAd K ("Field", some "__init__"))
  d_Field_side_of : Stands K "side_of" "Field.side_of" s_Field_side_of [] (He.fAd K ("Field", some "side_of"))
  d_Field_written : Stands K "written" "Field.written" s_Field_written [] (He.fAd K ("Field", some "written"))
  d_name_end : Stands K "name_end" "name_end" s_name_end [] (He.fAd K ("name_end", none))
  d_is_width : Stands K "is_width" "is_width" s_is_width [] (He.fAd K ("is_width", none))
  d_spec_of : Stands K "spec_of" "spec_of" s_spec_of [] (He.fAd K ("spec_of", none))
  d_field_of : Stands K "field_of" "field_of" s_field_of [] (He.fAd K ("field_of", none))
  d_parts_of_braces : Stands K "parts_of_braces" "parts_of_braces" s_parts_of_braces [] (He.fAd K ("parts_of_braces", none))
  d_joined_texts : Stands K "joined_texts" "joined_texts" s_joined_texts [] (He.fAd K ("joined_texts", none))
  d_Formatter_init : Stands K "__init__" "Formatter.__init__" s_Formatter_init [(He.Dv.non : He.Dv).v K, (He.Dv.str "{" : He.Dv).v K, (He.Dv.bl true : He.Dv).v K, (He.Dv.non : He.Dv).v K] (He.fAd K ("Formatter", some "__init__"))
  d_Formatter_value_of : Stands K "value_of" "Formatter.value_of" s_Formatter_value_of [] (He.fAd K ("Formatter", some "value_of"))
  d_Formatter_formatted : Stands K "formatted" "Formatter.formatted" s_Formatter_formatted [] (He.fAd K ("Formatter", some "formatted"))
  d_Formatter_fields : Stands K "fields" "Formatter.fields" s_Formatter_fields [] (He.fAd K ("Formatter", some "fields"))
  d_Logger_init : Stands K "__init__" "Logger.__init__" s_Logger_init [] (He.fAd K ("Logger", some "__init__"))
  d_Yard_init : Stands K "__init__" "Yard.__init__" s_Yard_init [(He.Dv.int 0 : He.Dv).v K] (He.fAd K ("Yard", some "__init__"))
  d_Yard_advance : Stands K "advance" "Yard.advance" s_Yard_advance [] (He.fAd K ("Yard", some "advance"))
  d_Yard_level_name : Stands K "level_name" "Yard.level_name" s_Yard_level_name [] (He.fAd K ("Yard", some "level_name"))
  d_Yard_level_of : Stands K "level_of" "Yard.level_of" s_Yard_level_of [] (He.fAd K ("Yard", some "level_of"))
  d_Yard_make_record : Stands K "make_record" "Yard.make_record" s_Yard_make_record [(He.Dv.adr (He.dflAt ("Yard", some "make_record") 0) : He.Dv).v K, (He.Dv.non : He.Dv).v K] (He.fAd K ("Yard", some "make_record"))
  d_Yard_enrol : Stands K "enrol" "Yard.enrol" s_Yard_enrol [] (He.fAd K ("Yard", some "enrol"))
  d__law_draw : Stands K "_law_draw" "_law_draw" s__law_draw [] (He.fAd K ("_law_draw", none))
  d__law_pick : Stands K "_law_pick" "_law_pick" s__law_pick [] (He.fAd K ("_law_pick", none))
  d__law_text : Stands K "_law_text" "_law_text" s__law_text [] (He.fAd K ("_law_text", none))
  d__law_object : Stands K "_law_object" "_law_object" s__law_object [] (He.fAd K ("_law_object", none))
  d__law_pieces : Stands K "_law_pieces" "_law_pieces" s__law_pieces [] (He.fAd K ("_law_pieces", none))
  d__law_known : Stands K "_law_known" "_law_known" s__law_known [] (He.fAd K ("_law_known", none))
  d__law_worth : Stands K "_law_worth" "_law_worth" s__law_worth [] (He.fAd K ("_law_worth", none))
  d__law_filled : Stands K "_law_filled" "_law_filled" s__law_filled [] (He.fAd K ("_law_filled", none))
  d__law_written : Stands K "_law_written" "_law_written" s__law_written [] (He.fAd K ("_law_written", none))
  d__law_field : Stands K "_law_field" "_law_field" s__law_field [] (He.fAd K ("_law_field", none))
  d__law_braced : Stands K "_law_braced" "_law_braced" s__law_braced [] (He.fAd K ("_law_braced", none))
  d__law_braced_text : Stands K "_law_braced_text" "_law_braced_text" s__law_braced_text [] (He.fAd K ("_law_braced_text", none))
  d__law_format_parts : Stands K "_law_format_parts" "_law_format_parts" s__law_format_parts [] (He.fAd K ("_law_format_parts", none))
  d__law_line : Stands K "_law_line" "_law_line" s__law_line [] (He.fAd K ("_law_line", none))
  d__law_any_record : Stands K "_law_any_record" "_law_any_record" s__law_any_record [] (He.fAd K ("_law_any_record", none))
  d__law_braced_parts : Stands K "_law_braced_parts" "_law_braced_parts" s__law_braced_parts [] (He.fAd K ("_law_braced_parts", none))
  d_law : Stands K "law" "law" s_law [] (He.fAd K ("law", none))
  t_FIRST_NAMES : RB.KD P w K (He.ga K "FIRST_NAMES") (kv_FIRST_NAMES.map fun q => (q.1, q.2.v K))
  t_FIRST_NUMBERS : RB.KD P w K (He.ga K "FIRST_NUMBERS") (kv_FIRST_NUMBERS.map fun q => (q.1, q.2.v K))
  t_MESSAGE_ALONE : RB.KD P w K (He.ga K "MESSAGE_ALONE") (kv_MESSAGE_ALONE.map fun q => (q.1, q.2.v K))
theorem Txt.of {P : Program} {w : World} {K : PySem.W.Frag} {h : Heap} {mg : Str → Option Value} (X : K.In h) (G : h.Ns mainGlobals mg) (c : RB.SaysB fa fx fn ts w K) : Txt P w K mg where
    g_Filterer := He.glo_ok X G (c.fact 0 (f := .glo "Filterer") (by rfl))
    g_LogRecord := He.glo_ok X G (c.fact 1 (f := .glo "LogRecord") (by rfl))
    g_Handler := He.glo_ok X G (c.fact 2 (f := .glo "Handler") (by rfl))
    g_StreamHandler := He.glo_ok X G (c.fact 3 (f := .glo "StreamHandler") (by rfl))
    g_Field := He.glo_ok X G (c.fact 4 (f := .glo "Field") (by rfl))
    g_Formatter := He.glo_ok X G (c.fact 5 (f := .glo "Formatter") (by rfl))
    g_Logger := He.glo_ok X G (c.fact 6 (f := .glo "Logger") (by rfl))
    g_Yard := He.glo_ok X G (c.fact 7 (f := .glo "Yard") (by rfl))
    g_BadLevel := He.glo_ok X G (c.fact 8 (f := .glo "BadLevel") (by rfl))
    g_BadExtra := He.glo_ok X G (c.fact 9 (f := .glo "BadExtra") (by rfl))
    g_BadField := He.glo_ok X G (c.fact 10 (f := .glo "BadField") (by rfl))
    g_BadMessage := He.glo_ok X G (c.fact 11 (f := .glo "BadMessage") (by rfl))
    g_copied_value := He.glo_ok X G (c.fact 12 (f := .glo "copied_value") (by rfl))
    g_message_of := He.glo_ok X G (c.fact 13 (f := .glo "message_of") (by rfl))
    g_is_integer := He.glo_ok X G (c.fact 14 (f := .glo "is_integer") (by rfl))
    g_name_end := He.glo_ok X G (c.fact 15 (f := .glo "name_end") (by rfl))
    g_is_width := He.glo_ok X G (c.fact 16 (f := .glo "is_width") (by rfl))
    g_spec_of := He.glo_ok X G (c.fact 17 (f := .glo "spec_of") (by rfl))
    g_field_of := He.glo_ok X G (c.fact 18 (f := .glo "field_of") (by rfl))
    g_parts_of_braces := He.glo_ok X G (c.fact 19 (f := .glo "parts_of_braces") (by rfl))
    g_joined_texts := He.glo_ok X G (c.fact 20 (f := .glo "joined_texts") (by rfl))
    g__law_draw := He.glo_ok X G (c.fact 21 (f := .glo "_law_draw") (by rfl))
    g__law_pick := He.glo_ok X G (c.fact 22 (f := .glo "_law_pick") (by rfl))
    g__law_text := He.glo_ok X G (c.fact 23 (f := .glo "_law_text") (by rfl))
    g__law_object := He.glo_ok X G (c.fact 24 (f := .glo "_law_object") (by rfl))
    g__law_pieces := He.glo_ok X G (c.fact 25 (f := .glo "_law_pieces") (by rfl))
    g__law_known := He.glo_ok X G (c.fact 26 (f := .glo "_law_known") (by rfl))
    g__law_worth := He.glo_ok X G (c.fact 27 (f := .glo "_law_worth") (by rfl))
    g__law_filled := He.glo_ok X G (c.fact 28 (f := .glo "_law_filled") (by rfl))
    g__law_written := He.glo_ok X G (c.fact 29 (f := .glo "_law_written") (by rfl))
    g__law_field := He.glo_ok X G (c.fact 30 (f := .glo "_law_field") (by rfl))
    g__law_braced := He.glo_ok X G (c.fact 31 (f := .glo "_law_braced") (by rfl))
    g__law_braced_text := He.glo_ok X G (c.fact 32 (f := .glo "_law_braced_text") (by rfl))
    g__law_format_parts := He.glo_ok X G (c.fact 33 (f := .glo "_law_format_parts") (by rfl))
    g__law_line := He.glo_ok X G (c.fact 34 (f := .glo "_law_line") (by rfl))
    g__law_any_record := He.glo_ok X G (c.fact 35 (f := .glo "_law_any_record") (by rfl))
    g__law_braced_parts := He.glo_ok X G (c.fact 36 (f := .glo "_law_braced_parts") (by rfl))
    g_law := He.glo_ok X G (c.fact 37 (f := .glo "law") (by rfl))
    g_WARNING := He.int_ok X G (c.fact 38 (f := .int "WARNING" 30) (by rfl))
    g_NOTSET := He.int_ok X G (c.fact 39 (f := .int "NOTSET" 0) (by rfl))
    g_OWN_FIELDS := He.glo_ok X G (c.fact 40 (f := .glo "OWN_FIELDS") (by rfl))
    g_ALIGNS := He.glo_ok X G (c.fact 41 (f := .glo "ALIGNS") (by rfl))
    g_FIRST_NAMES := He.glo_ok X G (c.fact 42 (f := .glo "FIRST_NAMES") (by rfl))
    g_FIRST_NUMBERS := He.glo_ok X G (c.fact 43 (f := .glo "FIRST_NUMBERS") (by rfl))
    g_LETTERS := He.str_ok X G (c.fact 44 (f := .str "LETTERS" "abcdefghijklmnopqrstuvwxyzABCDEFGHIJKLMNOPQRSTUVWXYZ_") (by rfl))
    g_DIGITS := He.str_ok X G (c.fact 45 (f := .str "DIGITS" "0123456789") (by rfl))
    g_MESSAGE_ALONE := He.glo_ok X G (c.fact 46 (f := .glo "MESSAGE_ALONE") (by rfl))
    b_len := He.free_ok X G (c.fact 47 (f := .free "len") (by rfl))
    b_isinstance := He.free_ok X G (c.fact 48 (f := .free "isinstance") (by rfl))
    b_int := He.free_ok X G (c.fact 49 (f := .free "int") (by rfl))
    b_str := He.free_ok X G (c.fact 50 (f := .free "str") (by rfl))
    b_list := He.free_ok X G (c.fact 51 (f := .free "list") (by rfl))
    b_tuple := He.free_ok X G (c.fact 52 (f := .free "tuple") (by rfl))
    b_bool := He.free_ok X G (c.fact 53 (f := .free "bool") (by rfl))
    b_dict := He.free_ok X G (c.fact 54 (f := .free "dict") (by rfl))
    b_range := He.free_ok X G (c.fact 55 (f := .free "range") (by rfl))
    b_sorted := He.free_ok X G (c.fact 56 (f := .free "sorted") (by rfl))
    b_all := He.free_ok X G (c.fact 57 (f := .free "all") (by rfl))
    b_zip := He.free_ok X G (c.fact 58 (f := .free "zip") (by rfl))
    b_max := He.free_ok X G (c.fact 59 (f := .free "max") (by rfl))
    b_repr := He.free_ok X G (c.fact 60 (f := .free "repr") (by rfl))
    c_LogRecord := He.cls_ok (c.fact 61 (f := .cls "LogRecord") (by rfl))
    n_LogRecord_name := He.noat_ok (c.fact 62 (f := .noat "LogRecord" "name") (by rfl))
    n_LogRecord_levelno := He.noat_ok (c.fact 63 (f := .noat "LogRecord" "levelno") (by rfl))
    n_LogRecord_levelname := He.noat_ok (c.fact 64 (f := .noat "LogRecord" "levelname") (by rfl))
    n_LogRecord_msg := He.noat_ok (c.fact 65 (f := .noat "LogRecord" "msg") (by rfl))
    n_LogRecord_given := He.noat_ok (c.fact 66 (f := .noat "LogRecord" "given") (by rfl))
    n_LogRecord_created := He.noat_ok (c.fact 67 (f := .noat "LogRecord" "created") (by rfl))
    n_LogRecord_extra := He.noat_ok (c.fact 68 (f := .noat "LogRecord" "extra") (by rfl))
    c_StreamHandler := He.cls_ok (c.fact 69 (f := .cls "StreamHandler") (by rfl))
    n_StreamHandler_filters := He.noat_ok (c.fact 70 (f := .noat "StreamHandler" "filters") (by rfl))
    n_StreamHandler_yard := He.noat_ok (c.fact 71 (f := .noat "StreamHandler" "yard") (by rfl))
    n_StreamHandler_level := He.noat_ok (c.fact 72 (f := .noat "StreamHandler" "level") (by rfl))
    n_StreamHandler_formatter := He.noat_ok (c.fact 73 (f := .noat "StreamHandler" "formatter") (by rfl))
    n_StreamHandler_name := He.noat_ok (c.fact 74 (f := .noat "StreamHandler" "name") (by rfl))
    n_StreamHandler_terminator := He.noat_ok (c.fact 75 (f := .noat "StreamHandler" "terminator") (by rfl))
    n_StreamHandler_closed := He.noat_ok (c.fact 76 (f := .noat "StreamHandler" "closed") (by rfl))
    n_StreamHandler_stream := He.noat_ok (c.fact 77 (f := .noat "StreamHandler" "stream") (by rfl))
    c_Field := He.cls_ok (c.fact 78 (f := .cls "Field") (by rfl))
    n_Field_name := He.noat_ok (c.fact 79 (f := .noat "Field" "name") (by rfl))
    n_Field_conversion := He.noat_ok (c.fact 80 (f := .noat "Field" "conversion") (by rfl))
    n_Field_fill := He.noat_ok (c.fact 81 (f := .noat "Field" "fill") (by rfl))
    n_Field_align := He.noat_ok (c.fact 82 (f := .noat "Field" "align") (by rfl))
    n_Field_width := He.noat_ok (c.fact 83 (f := .noat "Field" "width") (by rfl))
    c_Formatter := He.cls_ok (c.fact 84 (f := .cls "Formatter") (by rfl))
    n_Formatter_fmt := He.noat_ok (c.fact 85 (f := .noat "Formatter" "fmt") (by rfl))
    n_Formatter_style := He.noat_ok (c.fact 86 (f := .noat "Formatter" "style") (by rfl))
    n_Formatter_parts := He.noat_ok (c.fact 87 (f := .noat "Formatter" "parts") (by rfl))
    n_Formatter_defaults := He.noat_ok (c.fact 88 (f := .noat "Formatter" "defaults") (by rfl))
    c_Logger := He.cls_ok (c.fact 89 (f := .cls "Logger") (by rfl))
    n_Logger_filters := He.noat_ok (c.fact 90 (f := .noat "Logger" "filters") (by rfl))
    n_Logger_yard := He.noat_ok (c.fact 91 (f := .noat "Logger" "yard") (by rfl))
    n_Logger_name := He.noat_ok (c.fact 92 (f := .noat "Logger" "name") (by rfl))
    n_Logger_level := He.noat_ok (c.fact 93 (f := .noat "Logger" "level") (by rfl))
    n_Logger_propagate := He.noat_ok (c.fact 94 (f := .noat "Logger" "propagate") (by rfl))
    n_Logger_disabled := He.noat_ok (c.fact 95 (f := .noat "Logger" "disabled") (by rfl))
    n_Logger_handlers := He.noat_ok (c.fact 96 (f := .noat "Logger" "handlers") (by rfl))
    n_Logger_parent := He.noat_ok (c.fact 97 (f := .noat "Logger" "parent") (by rfl))
    c_Yard := He.cls_ok (c.fact 98 (f := .cls "Yard") (by rfl))
    n_Yard_clock := He.noat_ok (c.fact 99 (f := .noat "Yard" "clock") (by rfl))
    n_Yard_stream_texts := He.noat_ok (c.fact 100 (f := .noat "Yard" "stream_texts") (by rfl))
    n_Yard_file_rows := He.noat_ok (c.fact 101 (f := .noat "Yard" "file_rows") (by rfl))
    n_Yard_names_of := He.noat_ok (c.fact 102 (f := .noat "Yard" "names_of") (by rfl))
    n_Yard_numbers_of := He.noat_ok (c.fact 103 (f := .noat "Yard" "numbers_of") (by rfl))
    n_Yard_bar_level := He.noat_ok (c.fact 104 (f := .noat "Yard" "bar_level") (by rfl))
    n_Yard_logger_map := He.noat_ok (c.fact 105 (f := .noat "Yard" "logger_map") (by rfl))
    n_Yard_made := He.noat_ok (c.fact 106 (f := .noat "Yard" "made") (by rfl))
    n_Yard_handler_names := He.noat_ok (c.fact 107 (f := .noat "Yard" "handler_names") (by rfl))
    n_Yard_failure_rows := He.noat_ok (c.fact 108 (f := .noat "Yard" "failure_rows") (by rfl))
    n_Yard_root := He.noat_ok (c.fact 109 (f := .noat "Yard" "root") (by rfl))
    n_Yard_last_resort := He.noat_ok (c.fact 110 (f := .noat "Yard" "last_resort") (by rfl))
    m_LogRecord_message := He.meth_ok (c.fact 111 (f := .meth "LogRecord" "message") (by rfl))
    m_LogRecord_field := He.meth_ok (c.fact 112 (f := .meth "LogRecord" "field") (by rfl))
    m_Field_side_of := He.meth_ok (c.fact 113 (f := .meth "Field" "side_of") (by rfl))
    m_Field_written := He.meth_ok (c.fact 114 (f := .meth "Field" "written") (by rfl))
    m_Formatter_value_of := He.meth_ok (c.fact 115 (f := .meth "Formatter" "value_of") (by rfl))
    m_Formatter_formatted := He.meth_ok (c.fact 116 (f := .meth "Formatter" "formatted") (by rfl))
    m_Formatter_fields := He.meth_ok (c.fact 117 (f := .meth "Formatter" "fields") (by rfl))
    m_Yard_advance := He.meth_ok (c.fact 118 (f := .meth "Yard" "advance") (by rfl))
    m_Yard_level_name := He.meth_ok (c.fact 119 (f := .meth "Yard" "level_name") (by rfl))
    m_Yard_level_of := He.meth_ok (c.fact 120 (f := .meth "Yard" "level_of") (by rfl))
    m_Yard_make_record := He.meth_ok (c.fact 121 (f := .meth "Yard" "make_record") (by rfl))
    m_Yard_enrol := He.meth_ok (c.fact 122 (f := .meth "Yard" "enrol") (by rfl))
    k_StreamHandler := He.mkr_ok (c.fact 123 (f := .mkr "StreamHandler") (by rfl))
    k_Logger := He.mkr_ok (c.fact 124 (f := .mkr "Logger") (by rfl))
    k_Yard := He.mkr_ok (c.fact 125 (f := .mkr "Yard") (by rfl))
    k_LogRecord := He.mkr_ok (c.fact 126 (f := .mkr "LogRecord") (by rfl))
    k_Field := He.mkr_ok (c.fact 127 (f := .mkr "Field") (by rfl))
    k_Formatter := He.mkr_ok (c.fact 128 (f := .mkr "Formatter") (by rfl))
    x_BadLevel := RB.exc_ok (c.more 0 (f := .exc "BadLevel" "level") (by rfl))
    x_BadExtra := RB.exc_ok (c.more 1 (f := .exc "BadExtra" "name") (by rfl))
    x_BadField := RB.exc_ok (c.more 2 (f := .exc "BadField" "name") (by rfl))
    x_BadMessage := RB.exc_ok (c.more 3 (f := .exc "BadMessage" "msg") (by rfl))
    e_BadField_BadField := RB.exm_ok (c.more 4 (f := .exm "BadField" "BadField" true) (by rfl))
    p_Logger := RB.pl_ok (c.more 5 (f := .pl "Logger") (by rfl))
    p_StreamHandler := RB.pl_ok (c.more 6 (f := .pl "StreamHandler") (by rfl))
    p_LogRecord := RB.pl_ok (c.more 7 (f := .pl "LogRecord") (by rfl))
    sub_Logger_Logger := RB.sub_ok (c.more 8 (f := .sub "Logger" "Logger") (by rfl))
    sub_StreamHandler_StreamHandler := RB.sub_ok (c.more 9 (f := .sub "StreamHandler" "StreamHandler") (by rfl))
    sub_LogRecord_LogRecord := RB.sub_ok (c.more 10 (f := .sub "LogRecord" "LogRecord") (by rfl))
    cf_Filterer_init := RB.cf_ok (c.more 11 (f := .cf "Filterer" "__init__") (by rfl))
    cf_Handler_init := RB.cf_ok (c.more 12 (f := .cf "Handler" "__init__") (by rfl))
    ty_Field := RB.ty_ok (c.more 13 (f := .ty "Field") (by rfl))
    kit_Field_Field := RB.kit_ok (c.more 14 (f := .kit "Field" "Field" true) (by rfl))
    kib_str_Field := RB.kib_ok (c.more 15 (f := .kib "str" "Field" false) (by rfl))
    kiy_Field_str := RB.kiy_ok (c.more 16 (f := .kiy "Field" "str" false) (by rfl))
    kt_ALIGNS := RB.ktup_ok (c.more 17 (f := .ktup "ALIGNS" ["<", ">", "^"]) (by rfl))
    kt_OWN_FIELDS := RB.ktup_ok (c.more 18 (f := .ktup "OWN_FIELDS" ["name", "levelno", "levelname", "msg", "args", "created", "msecs", "message", "asctime"]) (by rfl))
    dt_Yard_make_record_0 := RB.dtup_ok (c.more 19 (f := .dtup ("Yard", some "make_record") 0) (by rfl))
    d_Filterer_init := c.d.def_ 0 (d := dd_Filterer_init) (by rfl)
    d_copied_value := c.d.def_ 1 (d := dd_copied_value) (by rfl)
    d_message_of := c.d.def_ 2 (d := dd_message_of) (by rfl)
    d_BadLevel_init := c.d.def_ 3 (d := dd_BadLevel_init) (by rfl)
    d_BadExtra_init := c.d.def_ 4 (d := dd_BadExtra_init) (by rfl)
    d_BadField_init := c.d.def_ 5 (d := dd_BadField_init) (by rfl)
    d_BadMessage_init := c.d.def_ 6 (d := dd_BadMessage_init) (by rfl)
    d_LogRecord_init := c.d.def_ 7 (d := dd_LogRecord_init) (by rfl)
    d_LogRecord_message := c.d.def_ 8 (d := dd_LogRecord_message) (by rfl)
    d_LogRecord_field := c.d.def_ 9 (d := dd_LogRecord_field) (by rfl)
    d_Handler_init := c.d.def_ 10 (d := dd_Handler_init) (by rfl)
    d_StreamHandler_init := c.d.def_ 11 (d := dd_StreamHandler_init) (by rfl)
    d_is_integer := c.d.def_ 12 (d := dd_is_integer) (by rfl)
    d_Field_init := c.d.def_ 13 (d := dd_Field_init) (by rfl)
    d_Field_side_of := c.d.def_ 14 (d := dd_Field_side_of) (by rfl)
    d_Field_written := c.d.def_ 15 (d := dd_Field_written) (by rfl)
    d_name_end := c.d.def_ 16 (d := dd_name_end) (by rfl)
    d_is_width := c.d.def_ 17 (d := dd_is_width) (by rfl)
    d_spec_of := c.d.def_ 18 (d := dd_spec_of) (by rfl)
    d_field_of := c.d.def_ 19 (d := dd_field_of) (by rfl)
    d_parts_of_braces := c.d.def_ 20 (d := dd_parts_of_braces) (by rfl)
    d_joined_texts := c.d.def_ 21 (d := dd_joined_texts) (by rfl)
    d_Formatter_init := c.d.def_ 22 (d := dd_Formatter_init) (by rfl)
    d_Formatter_value_of := c.d.def_ 23 (d := dd_Formatter_value_of) (by rfl)
    d_Formatter_formatted := c.d.def_ 24 (d := dd_Formatter_formatted) (by rfl)
    d_Formatter_fields := c.d.def_ 25 (d := dd_Formatter_fields) (by rfl)
    d_Logger_init := c.d.def_ 26 (d := dd_Logger_init) (by rfl)
    d_Yard_init := c.d.def_ 27 (d := dd_Yard_init) (by rfl)
    d_Yard_advance := c.d.def_ 28 (d := dd_Yard_advance) (by rfl)
    d_Yard_level_name := c.d.def_ 29 (d := dd_Yard_level_name) (by rfl)
    d_Yard_level_of := c.d.def_ 30 (d := dd_Yard_level_of) (by rfl)
    d_Yard_make_record := c.d.def_ 31 (d := dd_Yard_make_record) (by rfl)
    d_Yard_enrol := c.d.def_ 32 (d := dd_Yard_enrol) (by rfl)
    d__law_draw := c.d.def_ 33 (d := dd__law_draw) (by rfl)
    d__law_pick := c.d.def_ 34 (d := dd__law_pick) (by rfl)
    d__law_text := c.d.def_ 35 (d := dd__law_text) (by rfl)
    d__law_object := c.d.def_ 36 (d := dd__law_object) (by rfl)
    d__law_pieces := c.d.def_ 37 (d := dd__law_pieces) (by rfl)
    d__law_known := c.d.def_ 38 (d := dd__law_known) (by rfl)
    d__law_worth := c.d.def_ 39 (d := dd__law_worth) (by rfl)
    d__law_filled := c.d.def_ 40 (d := dd__law_filled) (by rfl)
    d__law_written := c.d.def_ 41 (d := dd__law_written) (by rfl)
    d__law_field := c.d.def_ 42 (d := dd__law_field) (by rfl)
    d__law_braced := c.d.def_ 43 (d := dd__law_braced) (by rfl)
    d__law_braced_text := c.d.def_ 44 (d := dd__law_braced_text) (by rfl)
    d__law_format_parts := c.d.def_ 45 (d := dd__law_format_parts) (by rfl)
    d__law_line := c.d.def_ 46 (d := dd__law_line) (by rfl)
    d__law_any_record := c.d.def_ 47 (d := dd__law_any_record) (by rfl)
    d__law_braced_parts := c.d.def_ 48 (d := dd__law_braced_parts) (by rfl)
    d_law := c.d.def_ 49 (d := dd_law) (by rfl)
    t_FIRST_NAMES := c.tb 0 (t := ("FIRST_NAMES", kv_FIRST_NAMES)) (by rfl) P
    t_FIRST_NUMBERS := c.tb 1 (t := ("FIRST_NUMBERS", kv_FIRST_NUMBERS)) (by rfl) P
    t_MESSAGE_ALONE := c.tb 2 (t := ("MESSAGE_ALONE", kv_MESSAGE_ALONE)) (by rfl) P
end K17

set_option Elab.async false
set_option linter.all false
set_option maxRecDepth 100000
set_option maxHeartbeats 4000000
/-! The head's facts over the objects that the module's names reach, level by level. -/
namespace RHd
open PySem PySem.Spec PyProof.Rows L2 He RB
/-- what the objects at a level name -/
def lvl (g : Addr → Option Obj) : Nat → List Addr → List Addr
  | 0, as => as
  | n + 1, as => as ++ lvl g n (as.flatMap fun a => match g a with
    | some o => (refsD o).filter fun b => !Nat.beq b a
    | none => [])
def asL (g : Addr → Option Obj) (n : Nat) : List Addr := lvl g n [mainGlobals]
def obsLG (n : Nat) (fa : List Fa) (fx : List Fx) (fn : List DefD) (ts : List Tb) (g : Addr → Option Obj) : AlB := obsB fa fx fn ts (frG g (extraB g fx (asL g n)))
def hookL (n : Nat) (fa : List Fa) (fx : List Fx) (fn : List DefD) (ts : List Tb) : PySem.W.Hook where
  α := AlB
  obs := fun s => obsLG n fa fx fn ts s.heap.get?
  val := fun w => valB fn ts w
  says := fun w h => ∃ K : PySem.W.Frag, K.In h ∧ SaysB fa fx fn ts w K
  of := fun _ _ e => ⟨_, frG_in, e⟩
  keeps := fun _ _ _ ⟨K, hK, c⟩ k => ⟨K, PySem.W.Frag.In.keeps hK k, c⟩
theorem obsLG_eq {n : Nat} {fa : List Fa} {fx : List Fx} {fn : List DefD} {ts : List Tb} {g : Addr → Option Obj} {s : Shared} (h : ∀ a, g a = s.heap.get? a) : obsLG n fa fx fn ts g = (hookL n fa fx fn ts).obs s := by
  have e : g = s.heap.get? := funext h
  rw [e] <;> rfl
end RHd

set_option Elab.async false
set_option linter.all false
set_option maxRecDepth 100000
set_option maxHeartbeats 0
namespace K17
open PySem PySem.Spec PyProof.Rows L2 RC
/-! ### the head -/
abbrev R : PySem.W.OpenRow := PySem.W.OpenLaw.row PySem.Challenge.rw_recordyard_k06_formats_in_braces
abbrev hk : PySem.W.Hook := RHd.hookL 4 fa fx fn ts
def ob (s : PySem.W.SharedT) : RB.AlB := RHd.obsLG 4 fa fx fn ts (HandSHeadRun.getT s)
theorem ob_eq (s : PySem.W.SharedT) : ob s = hk.obs s.abs := RHd.obsLG_eq (HandSHeadRun.getT_eq s)
open HandSHeadRun PySem.W
abbrev AlR : Type := List (Option (List (Option (Key × Int)))) × Bool
noncomputable def fr (s : PySem.W.SharedT) : PySem.W.Frag := He.frG (HandSHeadRun.getT s) (RB.extraB (HandSHeadRun.getT s) fx (RHd.asL (HandSHeadRun.getT s) 4))
noncomputable def obD (s : PySem.W.SharedT) : He.AlD := He.obsD fa fn (fr s)
noncomputable def obR (s : PySem.W.SharedT) : AlR := (ts.map fun t => RB.tbRow (fr s) t.1, (fx.all fun f => f.ok (fr s)) && ts.all fun t => RB.tbVals (fr s) t)
noncomputable abbrev lk (w : World) (s : PySem.W.SharedT) : Bool := HandSHeadRun.looksF R.prog (boot_heap w.params) s.abs
noncomputable abbrev sn (s : PySem.W.SharedT) := HandSHeadRun.seenQ (PySem.W.view R.prog [81]) names (importedModules R.prog.main.body) (fun s => xlAt (PySem.W.view R.prog [81]) [] s && recOk R.toRowW.records s) s.abs
theorem hjoin3 {S A B D C : Type} {o : Option S} {a : S → A} {b : S → B} {d : S → D} {r : S → C} {x : A} {y : B} {v : D} {z : C} (h1 : o.map (fun s => (a s, b s, r s)) = some (x, y, z)) (h2 : o.map d = some v) : o.map (fun s => (a s, b s, (d s, r s))) = some (x, y, (v, z)) := by
  cases o with
  | none => cases h1
  | some s =>
    have e1 := Option.some.inj h1
    have e2 := Option.some.inj h2
    injection e1 with p1 p2
    injection p2 with p2 p3
    show some (a s, b s, (d s, r s)) = _
    rw [p1, p2, p3, e2]
theorem r1_f (w : World) (os : OsState) : (HandSHeadRun.endF (HandSHeadRun.stepQ (HandSHeadRun.denQ tabQ) R.prog (w.withFollow "special-get-raises" false)) 13000 R.prog (w.withFollow "special-get-raises" false) os).map (fun s => (lk (w.withFollow "special-get-raises" false) s, sn s, obR s)) = some (true, openGood (PySem.W.view R.prog [81]) names, (ts.map fun t => RB.tbWant (w.withFollow "special-get-raises" false).params t.2, true)) := by
  kernel_rfl
theorem r2_f (w : World) (os : OsState) : (HandSHeadRun.endF (HandSHeadRun.stepQ (HandSHeadRun.denQ tabQ) R.prog (w.withFollow "special-get-raises" false)) 13000 R.prog (w.withFollow "special-get-raises" false) os).map obD = some (He.valD fn) := by
  kernel_rfl
theorem run_f (w : World) : HandSHeadRun.RunEq R (PySem.W.view R.prog [81]) hk ob 13000 names (w.withFollow "special-get-raises" false) := fun os => hjoin3 (r1_f w os) (r2_f w os)
theorem r1_t (w : World) (os : OsState) : (HandSHeadRun.endF (HandSHeadRun.stepQ (HandSHeadRun.denQ tabQ) R.prog (w.withFollow "special-get-raises" true)) 13000 R.prog (w.withFollow "special-get-raises" true) os).map (fun s => (lk (w.withFollow "special-get-raises" true) s, sn s, obR s)) = some (true, openGood (PySem.W.view R.prog [81]) names, (ts.map fun t => RB.tbWant (w.withFollow "special-get-raises" true).params t.2, true)) := by
  kernel_rfl
theorem r2_t (w : World) (os : OsState) : (HandSHeadRun.endF (HandSHeadRun.stepQ (HandSHeadRun.denQ tabQ) R.prog (w.withFollow "special-get-raises" true)) 13000 R.prog (w.withFollow "special-get-raises" true) os).map obD = some (He.valD fn) := by
  kernel_rfl
theorem run_t (w : World) : HandSHeadRun.RunEq R (PySem.W.view R.prog [81]) hk ob 13000 names (w.withFollow "special-get-raises" true) := fun os => hjoin3 (r1_t w os) (r2_t w os)
theorem run (w : World) : HandSHeadRun.RunEq R (PySem.W.view R.prog [81]) hk ob 13000 names w := PySem.W.byRow2 "special-get-raises" (P := fun w => HandSHeadRun.RunEq R (PySem.W.view R.prog [81]) hk ob 13000 names w) run_f run_t w
end K17

set_option Elab.async false
set_option linter.all false
set_option maxRecDepth 100000
set_option maxHeartbeats 4000000
/-! Defs that are called where no repr is under way (guards = some []): repr of flat lists, tuples and dicts. -/
namespace RGd
open PySem PySem.Spec PyProof.Rows L2 RC
/-- what a def promises of a call where no guard stands -/
structure FnG (P : Program) (w : World) (K : PySem.W.Frag) (mg : Str → Option Value) (base : Heap) (CX : CXT) (k : Nat) (f : Addr) (fd : FuncData) (ps : List Str) (sp : Sp) : Prop where
  size : ∀ vs H Q E, sp vs H Q E → vs.length = ps.length
  go : ∀ (A : Around) (st : List Env) (s : Shared) (H : Hp) (us : List Value) (vs : List V) (Q : VK) (E : XK), Room k A → A.guards = some [] → Env0 P w K mg base A st s H → BindsTo s fd ⟨us, []⟩ (ps.zip us) →
    Vals vs us → sp vs H Q E → codeAny (model P w) A (.call (.ref f) ⟨us, []⟩) (CR CX st P w H s Q E) s
def CallG (P : Program) (w : World) (K : PySem.W.Frag) (mg : Str → Option Value) (base : Heap) (k : Nat) (f : Addr) (ps : List Str) (sp : Sp) : Prop :=
  ∃ fd, FnG P w K mg base CX0 k f fd ps sp ∧ Binds K fd ps [] ∧ PySem.W.keepIn K (.ref f) = true
section
variable {P : Program} {w : World} {K : PySem.W.Frag} {mg : Str → Option Value} {base : Heap} {x qual : Str} {f : Addr} {fd : FuncData} {k : Nat} {N ps : List Str} {sp : Sp} {params : Arguments} {body : List Stmt} {scope : Scope} {CX : CXT}
theorem fnG (D : FunD K x qual params body scope [] [] f fd) (S : FnScope N ps scope) (size : ∀ vs H Q E, sp vs H Q E → vs.length = ps.length)
    (text : ∀ (cdv : Value) (A : Around) (outer : List Env) (s : Shared) (H : Hp) (vs : List V) (Q : VK) (E : XK), Room k (A.deeper (envOfC qual scope s.heap.objs.size f cdv)) → (A.deeper (envOfC qual scope s.heap.objs.size f cdv)).guards = some [] → sp vs H Q E →
      ∃ t, PSs (cxOf CX P w K mg base N qual scope f cdv A outer s H E) body t ∧ t { nx := fun _ H' => Q .non H', rt := Q } (L2.start N vs) H) : FnG P w K mg base CX (k + 1) f fd ps sp := by
  refine ⟨size, fun A outer s H us vs Q E hr gd e0 bd rel h => ?_⟩
  obtain ⟨oc, od, dV, kV, doc, pm, an, cdv, ct, osl, rfl, look, code, _, _⟩ := D.ex
  have n1 := size _ _ _ _ h
  have inK : K.In s.heap := e0.mod.kin.keeps fun b o e => (e0.bs b o e).1
  have nolim : s.heap.NoLimit := e0.mod.nolimit.keeps fun b o e => (e0.bs b o e).1
  have kinds : ∀ y ∈ ps.zip us, scope.names.lookup y.1 = some .local ∨ (scope.names.lookup y.1 = some .cell ∧ ((cellsFrom (s.heap.objs.size + 1) scope.names []).lookup y.1).isSome = true) := by
    rintro ⟨n, v⟩ hy
    rcases S.par n (List.of_mem_zip hy).1 with q | q
    · exact .inl q
    · exact .inr ⟨q, PySem.W.cellsFrom_some _ _ _ (.inl q)⟩
  refine codeAny_call_function hr.depth (inK _ _ look) rfl S.co S.gen rfl (PySem.W.codeRec_of inK code) (bd _ _ _ _ ?_)
  refine wpAny_newFunctionEnv_cells S.kind kinds fun env he s1 x => ?_
  subst he
  refine ⟨nolim.keeps x.toInCall.keep, codeAny_func ?_⟩
  obtain ⟨t, ht, hq⟩ := text cdv A outer s H vs Q E (hr.deeper _) gd h
  have I := inv_start (CX := CX) (E := E) S hr.hd e0 n1 rel x
  refine wpAny_mono (ht.run [] s1 _ H _ I hq) (fun fl s' hs => ?_) fun e s' hs => hs
  rcases fl with _ | _ | _ | u
  · obtain ⟨σ', H', J, q⟩ := hs
    exact ⟨.non, H', J.os, J.bare, J.base, J.hok, rfl, q⟩
  · obtain ⟨_, _, _, q⟩ := hs
    exact q.elim
  · obtain ⟨_, _, _, q⟩ := hs
    exact q.elim
  · obtain ⟨v, σ', H', J, rv, q⟩ := hs
    exact ⟨v, H', J.os, J.bare, J.base, J.hok, rv, q⟩
theorem stands_callG0 {st : Stmt} (F : Stands K x qual st [] f) (S : FnScope N ps (defScope st)) (size : ∀ vs H Q E, sp vs H Q E → vs.length = ps.length)
    (text : ∀ (cdv : Value) (A : Around) (outer : List Env) (s : Shared) (H : Hp) (vs : List V) (Q : VK) (E : XK), Room k (A.deeper (envOfC qual (defScope st) s.heap.objs.size f cdv)) → (A.deeper (envOfC qual (defScope st) s.heap.objs.size f cdv)).guards = some [] → sp vs H Q E →
      ∃ t, PSs (cxOf CX0 P w K mg base N qual (defScope st) f cdv A outer s H E).nox (defBody st) t ∧ t { nx := fun _ H' => Q .non H', rt := Q } (L2.start N vs) H)
    (bind : ∀ (kV doc pm : Value) (an : Option Addr) (cdv ct : Value) (us : List Value), us.length = ps.length → bindArgs (PySem.W.fnOf x qual (defArgs st) (defBody st) (defScope st) .none kV doc pm an cdv ct) ⟨us, []⟩ = pure (ps.zip us)) :
    CallG P w K mg base (k + 1) f ps sp := by
  obtain ⟨fd, F⟩ := F
  refine ⟨fd, fnG F S size fun cdv A outer s H vs Q E hr gd h => ?_, F.bindsN bind, F.kp⟩
  obtain ⟨t, h, q⟩ := text cdv A outer s H vs Q E hr gd h
  exact ⟨t, h.nox, q⟩
end
section
variable {X : Cx} {k : Nat} {f : Addr} {ps : List Str} {sp : Sp} {x : Str} {p pos : Pos} {e : Expr} {es : List Expr} {t : TA}
/-- f(e, ..) where no guard stands -/
theorem pe_fnG (gd : X.A.guards = some []) (hm : X.mg x = some (.ref f)) (c : CallG X.prog X.w X.K X.mg X.base k f ps sp) (hr : Room k X.A) (hg : Gl X x) (ha : PA X (e :: es) t) (hdb : (x == ("__debug__" : Str)) = false := by decide)
    (he : starEach (e :: es) X.env = (false, eval e X.env) :: starEach es X.env := by rfl) (hpl : (backTo pos (starEach es X.env)).any (·.1) = false := by rfl) : PE X (.Call (.Name x p) (e :: es) [] pos) (tCall sp [] E0 t) := by
  obtain ⟨fd, F, hb, hk⟩ := c
  refine ⟨fun pins s σ H Q I h => ?_⟩
  refine wpAny_Call_Name_kw (ld_glob I hg hm ?_ hdb)
  refine PySem.W.callWith_K (h₀ := X.base) I.ok.mod.kin hk (thn (ha.run pos pins s σ H _ I h) fun us s1 ⟨vs, H1, I1, r, q⟩ => ⟨I1.kIn, ?_⟩) he hpl
  have q0 : sp vs H1 Q E0 := by
    have q2 : sp (vs ++ []) H1 Q E0 := q
    rw [List.append_nil] at q2
    exact q2
  have n1 : us.length = ps.length := r.length.symm.trans (F.size _ _ _ _ q0)
  have b := hb s1 us I1.kIn (by rw [List.append_nil]; exact n1)
  rw [List.append_nil] at b
  refine wpAny_call (codeAny_mono (F.go X.A X.stack s1 H1 us vs Q E0 hr gd I1.env0 b r q0) fun z s' hz => ?_)
  rcases z with er | fl
  · exact pass0 pins σ H1 s1 er s' I1 hz
  · cases fl with
    | ret u => exact I1.after hz
    | next => exact hz.elim
    | brk => exact hz.elim
    | cont => exact hz.elim
end
/-! ### the law's top -/
theorem walk_ofG {l : PySem.W.OpenLaw} {n k : Nat} {q : Program} {loose : List Str} {XP : (Str → Option Value) → Heap → Prop} {YP : World → Heap → Prop} {d : DefRec} {x : Str}
    (most : l.most = some n) (few : n ≤ sizeLine) (nodef : d.params.defaults = []) (hr : Room k callerA)
    (F : ∀ (w : World) (mg : Str → Option Value) (fa : Addr) (h : Heap), YP w h → h.Ns mainGlobals mg → mg d.name = some (.ref fa) →
      ∃ (K : PySem.W.Frag) (fd : FuncData) (sp : Sp), K.In h ∧ (∀ (s : Shared) (u : Value), BindsTo s fd ⟨[u], []⟩ [(x, u)]) ∧
        (∀ (H : Hp) (a : Addr) (ns : List Int), ns.length ≤ n → Only H → SqL K H a (ns.map V.int) → sp [.ref a] H (fun v _ => v = .bl true) fun _ _ _ => False) ∧
        ∀ base : Heap, K.In base → base.Ns mainGlobals mg → FnG l.prog w K mg base CX0 k fa fd [x] sp) :
    PySem.W.WalkO q loose XP YP l.row.toRowW d [] (fun f vs => PySem.call f vs) := by
  refine Att.attach_call most nodef fun w s0 st mg mb fa o pm cd doc a us ns G Y ho hd hcd hmg script allInt lenN noGens => ?_
  obtain ⟨K, fd, sp, inK, binds, prom, fn⟩ := F w mg fa _ Y G.T.g hmg
  have rel := vals_ints allInt
  have lenU := allInt.length
  have small : ns.length ≤ sizeLine := Nat.le_trans lenN few
  -- whatever is tracked of the script
  have go : ∀ T : Hp, Only T → SqL K T a (ns.map V.int) → HOk l.prog w T st.heap → (∀ b, T b ≠ none → b = a) → (T a ≠ none → K.lookup a = none) →
      codeAny (model l.prog w) callerA (.call (.ref fa) ⟨[.ref a], []⟩) (fun r s' => r = .ok (.ret (.bool true)) ∧ OldK st.heap s'.heap ∧ s'.os = st.os ∧ AllBare s'.gens) st := by
    intro T only sq ok one out
    have low : ∀ {b : Addr} {o : Obj}, st.heap.get? b = some o → T b = none → (hidT st.heap T).get? b = some o := fun z n => hidT_get z n
    have dictFree : ∀ {b : Addr} {o : Obj} {es : Array DictEntry} {ep : Nat}, st.heap.get? b = some o → o.data = .dict es ep → T b = none := by
      intro b o es ep z dd
      rcases hT : T b with _ | u
      · rfl
      · obtain rfl : b = a := one b (by rw [hT]; exact fun c => nomatch c)
        rw [script] at z
        cases z
        exact nomatch (show Data.seq us.toArray _ = Data.dict es ep from dd)
    have spaces : ∀ {b : Addr} {m : Str → Option Value}, st.heap.Ns b m → (hidT st.heap T).Ns b m := by
      rintro b m ⟨o, es, ep, z, dd, r⟩
      exact ⟨o, es, ep, low z (dictFree z dd), dd, r⟩
    have kBase : K.In (hidT st.heap T) := by
      intro b o z
      refine low (inK b o z) ?_
      rcases hT : T b with _ | u
      · rfl
      · obtain rfl : b = a := one b (by rw [hT]; exact fun c => nomatch c)
        rw [out (by rw [hT]; exact fun c => nomatch c)] at z
        cases z
    obtain ⟨mc, lim1, lim2⟩ := G.T.nolimit
    have modl : Mod K mg (hidT st.heap T) := ⟨kBase, spaces G.T.g, ⟨mb, spaces G.T.b, G.T.builtins⟩, mc, spaces lim1, lim2⟩
    have env : Env0 l.prog w K mg (hidT st.heap T) callerA [] st T := ⟨rfl, modl, fun _ _ z => of_hidT z, Nat.le_of_eq (hidT_size _ _), trivial, fun _ c => (nomatch c), ok, .of_eq noGens⟩
    have run := (fn _ kBase (spaces G.T.g)).go callerA [] st T [.ref a] [.ref a] _ _ hr rfl env (binds st (.ref a)) (.cons rfl .nil) (prom T a ns lenN only sq)
    refine codeAny_mono run fun r s' res => ?_
    rcases r with er | fl
    · exact False.elim res
    · cases fl with
      | next => exact res.elim
      | brk => exact res.elim
      | cont => exact res.elim
      | ret u =>
        obtain ⟨v, T', os, bare, un, ok', rv, rfl⟩ := res
        obtain rfl : u = Value.bool true := rv
        refine ⟨rfl, OldK.of_keep fun b o z => ?_, os, bare⟩
        rcases hT : T b with _ | y
        · exact un.keep b o z hT (fun c => nomatch c) (fun c => nomatch c)
        · rcases only b with c | ⟨ob, xs, c⟩
          · rw [hT] at c; cases c
          · obtain ⟨z1, _⟩ := ok b _ c
            obtain ⟨z2, _⟩ := ok' b _ (un.frzs b ob _ c)
            rw [z] at z1
            cases z1
            exact z2
  rcases hk : K.lookup a with _ | o2
  · let O : Obj := { cls := .type "list", data := .seq us.toArray }
    refine go (fun b => if b = a then some (.frz O (.lst (ns.map V.int))) else none) (fun b => ?_) (.inl (.inr ⟨O, if_pos rfl⟩)) (fun b u c => ?_) (fun b c => ?_) fun _ => hk
    · by_cases ba : b = a
      · exact .inr ⟨O, _, if_pos ba⟩
      · exact .inl (if_neg ba)
    · by_cases ba : b = a
      · have c2 := (if_pos ba).symm.trans c
        cases c2
        subst ba
        exact ⟨script, by rw [List.length_map]; exact small, us, _, rel, script⟩
      · exact nomatch (if_neg ba).symm.trans c
    · by_cases ba : b = a
      · exact ba
      · exact absurd (if_neg ba) c
  · have z := inK a o2 hk
    rw [script] at z
    cases z
    exact go (fun _ => none) (fun _ => .inl rfl) (.inr ⟨_, us.toArray, _, hk, rfl, rfl, rfl, by rw [List.size_toArray, lenU]; exact small, by simpa using rel⟩) (fun _ _ c => nomatch (show (none : Option HO) = some _ from c)) (fun _ c => absurd rfl c) fun c => absurd rfl c
/-! ### repr -/
inductive Flat : V → PyData → Prop
  | non : Flat .non .none
  | bl (b : Bool) : Flat (.bl b) (.bool b)
  | int (i : Int) : Flat (.int i) (.int i)
  | str (x : Str) : Flat (.str x) (.str x)
inductive DatV (H : Hp) : V → PyData → Prop
  | flat {v : V} {d : PyData} (h : Flat v d) : DatV H v d
  | lst {a : Addr} {xs : List V} {ds : List PyData} (ha : H a = some (.lst xs)) (h : Paired Flat xs ds) : DatV H (.ref a) (.list ds)
  | tup {a : Addr} {xs : List V} {ds : List PyData} (ha : H a = some (.tup xs)) (h : Paired Flat xs ds) : DatV H (.ref a) (.tuple ds)
  | dic {a : Addr} {kvs : List (Key × V)} {ds : List (PyData × PyData)} (ha : H a = some (.dK kvs)) (h : Paired (fun p q => Flat (kV p.1) q.1 ∧ Flat p.2 q.2) kvs ds) : DatV H (.ref a) (.dict ds)
theorem DatV.same {H H' : Hp} (e : Same H H') {v : V} {d : PyData} : DatV H v d → DatV H' v d
  | .flat h => .flat h
  | .lst ha h => .lst (e _ _ ha) h
  | .tup ha h => .tup (e _ _ ha) h
  | .dic ha h => .dic (e _ _ ha) h
theorem flat_reads {h : Heap} {v : V} {d : PyData} {u : Value} (f : Flat v d) (r : RelV v u) : Reads h u d [] := by
  cases f with
  | non => obtain rfl : u = Value.none := r; exact .none
  | bl b => obtain rfl : u = Value.bool b := r; exact .bool b
  | int i => obtain ⟨t, rfl⟩ := r; exact .int i t
  | str x => obtain ⟨t, rfl⟩ := r; exact .str x t
theorem flats_reads {h : Heap} : ∀ {xs : List V} {ds : List PyData} {us : List Value}, Paired Flat xs ds → Vals xs us → ReadsAll h us ds []
  | _, _, _, .nil, .nil => .nil
  | _, _, _, .cons f fs, .cons r rs => .cons (as := []) (bs := []) (flat_reads f r) (flats_reads fs rs)
theorem flats_noDict : ∀ {xs : List V} {ds : List PyData}, Paired Flat xs ds → PyData.hasDictAll ds = false
  | _, _, .nil => by rw [PyData.hasDictAll]
  | _, _, .cons f fs => by
    have ih := flats_noDict fs
    cases f <;> simp [PyData.hasDictAll, PyData.hasDict, ih]
theorem flats_depth : ∀ {xs : List V} {ds : List PyData}, Paired Flat xs ds → PyData.depthAll ds = 0
  | _, _, .nil => by rw [PyData.depthAll]
  | _, _, .cons f fs => by
    have ih := flats_depth fs
    cases f <;> simp [PyData.depthAll, PyData.depth, ih]
theorem flat_depth {v : V} {d : PyData} (f : Flat v d) : d.depth = 0 := by cases f <;> simp [PyData.depth]
theorem kv_depth : ∀ {kvs : List (Key × V)} {ds : List (PyData × PyData)}, Paired (fun p q => Flat (kV p.1) q.1 ∧ Flat p.2 q.2) kvs ds → PyData.depthKv ds = 0
  | _, _, .nil => by rw [PyData.depthKv]
  | _, _, .cons (b := q) ⟨f, g⟩ fs => by
    have ih := kv_depth fs
    obtain ⟨q1, q2⟩ := q
    have h1 := flat_depth f
    have h2 := flat_depth g
    simp [PyData.depthKv, h1, h2, ih]
theorem key_rel {k : Key} {v : Value} (h : keyIs k v = true) : RelV (kV k) v := by
  rcases keyIs_shape h with ⟨i, t, rfl, rfl⟩ | ⟨x, t, rfl, rfl⟩
  · exact ⟨t, rfl⟩
  · exact ⟨t, rfl⟩
theorem kv_reads {P : Program} {w : World} {h : Heap} : ∀ {kvs : List (Key × V)} {ds : List (PyData × PyData)} {vs : List (Key × Value)} {es : List DictEntry}, Paired (fun p q => Flat (kV p.1) q.1 ∧ Flat p.2 q.2) kvs ds → KV kvs vs → PySem.Pairs (mixKind P w) es vs →
    ReadsAll h (es.map (·.key)) (ds.map (·.1)) [] ∧ ReadsAll h (es.map (·.val)) (ds.map (·.2)) []
  | _, _, _, _, .nil, .nil, .nil => ⟨.nil, .nil⟩
  | _, _, _, _, .cons (a := p) ⟨f, g⟩ fs, .cons (b := q) ⟨e, r⟩ rs, .cons (e := en) k v ps => by
    obtain ⟨i1, i2⟩ := kv_reads (h := h) fs rs ps
    have k1 : RelV (kV p.1) en.key := by rw [e]; exact key_rel k
    have v1 : RelV p.2 en.val := by rw [v]; exact r
    exact ⟨.cons (as := []) (bs := []) (flat_reads f k1) i1, .cons (as := []) (bs := []) (flat_reads g v1) i2⟩
theorem dat_reads {P : Program} {w : World} {H : Hp} {h : Heap} (ok : HOk P w H h) {a : Addr} {d : PyData} (q : DatV H (.ref a) d) : ∃ as, Reads h (.ref a) d as ∧ (d.hasDict = true → sysModules ∉ as) ∧ d.depth ≤ 2 := by
  cases q with
  | flat f => cases f
  | @lst _ xs ds ha f =>
    obtain ⟨_, its, n, r, g⟩ := (show ObjOk P w H h a (.lst xs) from ok a _ ha)
    refine ⟨_, .list g rfl rfl (flats_reads f r), fun z => ?_, ?_⟩
    · rw [PyData.hasDict, flats_noDict f] at z; cases z
    · rw [PyData.depth, flats_depth f]; decide
  | @tup _ xs ds ha f =>
    obtain ⟨_, its, r, o, h1, h2, n, h3⟩ := (show ObjOk P w H h a (.tup xs) from ok a _ ha)
    refine ⟨_, .tuple h1 h2 h3 (flats_reads f r), fun z => ?_, ?_⟩
    · rw [PyData.hasDict, flats_noDict f] at z; cases z
    · rw [PyData.depth, flats_depth f]; decide
  | @dic _ kvs ds ha f =>
    obtain ⟨_, hsys, vs, rel, o, es, ep, g1, ex, g2, _, pr, _⟩ := dk_of ok ha
    obtain ⟨r1, r2⟩ := kv_reads (h := h) f rel pr
    refine ⟨_, .dict g1 ex.1 g2 r1 r2, fun _ z => ?_, ?_⟩
    · have z : sysModules ∈ [a] := z
      rw [List.mem_singleton.mp z, beq_self_eq_true] at hsys
      cases hsys
    · rw [PyData.depth, kv_depth f]; decide
section
variable {X : Cx}
theorem hu8 {k : Nat} {A : Around} (hr : Room k A) : A.units + 8 < cLine := by have := hr.un; omega
/-- repr(v), where no guard stands -/
theorem call_repr_dat (gd : X.A.guards = some []) (hun : X.A.units + 8 < cLine) : CallR X (.builtin "repr") (fun xs H Q => ∃ v d, xs = [v] ∧ DatV H v d ∧ d.showable = true ∧ d.shown.length ≤ sizeLine ∧ Q (.str d.shown) H) := by
  intro pins s σ H xs us Q I r h
  obtain ⟨v, d, rfl, dv, sh, sz, q⟩ := h
  obtain ⟨u, rfl, rv⟩ := vals1 r
  have fin : ∀ (h' : Heap) (tk : Tok) (t : Tok), (∀ b o, s.heap.get? b = some o → h'.get? b = some o) → EP X pins σ Q (.str d.shown t) { s with heap := h', toks := tk } := fun h' tk t hk =>
    ⟨.str d.shown, H, I.kept hk, ⟨t, rfl⟩, q⟩
  cases v with
  | ref a =>
    obtain rfl : u = Value.ref a := rv
    obtain ⟨as, rd, nm, dp⟩ := dat_reads I.hok dv
    exact repr_of_reads' rd sh nm gd (by omega) (fun _ _ z => z) (fun h' u tk hk => fin h' tk u hk) sz
  | non =>
    obtain rfl : u = Value.none := rv
    cases dv with
    | flat f =>
      cases f
      exact PySem.P.repr_of_none (fin _ _ _ fun _ _ z => z)
  | bl b =>
    obtain rfl : u = Value.bool b := rv
    cases dv with
    | flat f =>
      cases f
      refine PySem.P.repr_of_bool ?_
      have := fin s.heap (s.toks + 1) s.toks fun _ _ z => z
      rw [PyData.shown] at this
      exact this
  | int i =>
    obtain ⟨t, rfl⟩ := rv
    cases dv with
    | flat f =>
      cases f
      refine PySem.P.repr_of_int (by simpa [PyData.showable] using sh) ?_
      have := fin s.heap (s.toks + 1) s.toks fun _ _ z => z
      rw [PyData.shown] at this
      exact this
  | str x =>
    obtain ⟨t, rfl⟩ := rv
    cases dv with
    | flat f =>
      cases f
      rw [PyData.shown] at sz
      refine PySem.P.repr_of_str ?_ sz
      have := fin s.heap (s.toks + 1) s.toks fun _ _ z => z
      rw [PyData.shown] at this
      exact this
  | _ =>
    cases dv with
    | flat f => cases f
end
end RGd

set_option Elab.async false
set_option linter.all false
set_option maxRecDepth 100000
set_option maxHeartbeats 4000000
/-! str and repr of data at any depth (lists, tuples, dicts by texts), where no guard stands. -/
namespace RNd
open PySem PySem.Spec PyProof.Rows L2 RC RGd
/-- v is the data d, not deeper than n -/
def ND (H : Hp) : Nat → V → PyData → Prop
  | 0, _, _ => False
  | n + 1, v, d => Flat v d ∨ (∃ (a : Addr) (xs : List V) (ds : List PyData), v = .ref a ∧ d = .list ds ∧ H a = some (.lst xs) ∧ Paired (ND H n) xs ds) ∨
    (∃ (a : Addr) (xs : List V) (ds : List PyData), v = .ref a ∧ d = .tuple ds ∧ H a = some (.tup xs) ∧ Paired (ND H n) xs ds) ∨
    ∃ (a : Addr) (kvs : List (Key × V)) (ds : List (PyData × PyData)), v = .ref a ∧ d = .dict ds ∧ H a = some (.dK kvs) ∧ Paired (fun p q => Flat (kV p.1) q.1 ∧ ND H n p.2 q.2) kvs ds
section
variable {P : Program} {w : World} {H : Hp} {h : Heap}
/-- how a value is read and shown -/
def Gd (h : Heap) (u : Value) (d : PyData) : Prop := (∃ as, Reads h u d as) ∧ (d.showable = true → d.shown.length ≤ sizeLine → ∃ bs, ReadAtMost h d.depth bs ∧ ∀ (P : Program) (w : World), ReprK P w bs h d.depth u d.shown)
def Gds (h : Heap) (us : List Value) (ds : List PyData) : Prop := (∃ as, ReadsAll h us ds as) ∧ (PyData.showableAll ds = true → (∀ t ∈ PyData.shownAll ds, t.length ≤ sizeLine) → ∃ bs, ReadAtMost h (PyData.depthAll ds) bs ∧ ∀ (P : Program) (w : World), ReprAllK P w bs h (PyData.depthAll ds) us (PyData.shownAll ds))
theorem gd_flat {v : V} {d : PyData} {u : Value} (f : Flat v d) (r : RelV v u) : Gd h u d := by
  refine ⟨⟨_, flat_reads f r⟩, fun hs hz => ⟨[], (fun _ z => nomatch z), ?_⟩⟩
  cases f with
  | non => obtain rfl : u = Value.none := r; rw [PyData.shown]; exact fun _ _ => .of_is ReprIs.none _ _ _
  | bl b => obtain rfl : u = Value.bool b := r; rw [PyData.shown]; exact fun _ _ => .of_is (ReprIs.bool b) _ _ _
  | int i =>
    obtain ⟨t, rfl⟩ := r
    rw [PyData.shown]
    exact fun _ _ => .of_is (ReprIs.int t (by simpa [PyData.showable] using hs)) _ _ _
  | str x =>
    obtain ⟨t, rfl⟩ := r
    rw [PyData.shown] at hz ⊢
    exact fun _ _ => .of_is (ReprIs.str x t hz) _ _ _
theorem gds_of {n : Nat} (ih : ∀ v d u, ND H n v d → RelV v u → Gd h u d) : ∀ {xs : List V} {ds : List PyData} {us : List Value}, Paired (ND H n) xs ds → Vals xs us → Gds h us ds
  | _, _, _, .nil, .nil => ⟨⟨_, .nil⟩, fun _ _ => ⟨[], (fun _ z => nomatch z), by rw [PyData.shownAll]; exact fun _ _ => .nil⟩⟩
  | _, _, _, .cons f fs, .cons r rs => by
    obtain ⟨⟨a1, r1⟩, g1⟩ := ih _ _ _ f r
    obtain ⟨⟨a2, r2⟩, g2⟩ := gds_of ih fs rs
    refine ⟨⟨_, .cons r1 r2⟩, fun hs hz => ?_⟩
    rw [PyData.showableAll, Bool.and_eq_true] at hs
    rw [PyData.shownAll] at hz ⊢
    obtain ⟨b1, m1, k1⟩ := g1 hs.1 (hz _ List.mem_cons_self)
    obtain ⟨b2, m2, k2⟩ := g2 hs.2 fun t ht => hz t (List.mem_cons_of_mem _ ht)
    rw [PyData.depthAll]
    exact ⟨b1 ++ b2, (m1.mono (Nat.le_max_left _ _)).append (m2.mono (Nat.le_max_right _ _)), fun P w => .cons (((k1 P w).more fun b z => List.mem_append_left _ z).level_le (Nat.le_max_left _ _)) ((k2 P w).more_le (fun b z => List.mem_append_right _ z) (Nat.le_max_right _ _))⟩
theorem kvs_of {n : Nat} (ih : ∀ v d u, ND H n v d → RelV v u → Gd h u d) : ∀ {kvs : List (Key × V)} {ds : List (PyData × PyData)} {vs : List (Key × Value)} {es : List DictEntry}, Paired (fun p q => Flat (kV p.1) q.1 ∧ ND H n p.2 q.2) kvs ds → KV kvs vs → PySem.Pairs (mixKind P w) es vs →
    Gds h (es.map (·.key)) (ds.map (·.1)) ∧ Gds h (es.map (·.val)) (ds.map (·.2))
  | _, _, _, _, .nil, .nil, .nil => ⟨⟨⟨_, .nil⟩, fun _ _ => ⟨[], (fun _ z => nomatch z), by rw [List.map_nil, PyData.shownAll]; exact fun _ _ => .nil⟩⟩, ⟨⟨_, .nil⟩, fun _ _ => ⟨[], (fun _ z => nomatch z), by rw [List.map_nil, PyData.shownAll]; exact fun _ _ => .nil⟩⟩⟩
  | _, _, _, _, .cons (a := p) ⟨f, g⟩ fs, .cons (b := q) ⟨e, r⟩ rs, .cons (e := en) k v ps => by
    obtain ⟨⟨⟨ka, kr⟩, kg⟩, ⟨⟨va, vr⟩, vg⟩⟩ := kvs_of ih fs rs ps
    have k1 : RelV (kV p.1) en.key := by rw [e]; exact key_rel k
    have v1 : RelV p.2 en.val := by rw [v]; exact r
    obtain ⟨⟨a1, r1⟩, g1⟩ := gd_flat (h := h) f k1
    obtain ⟨⟨a2, r2⟩, g2⟩ := ih _ _ _ g v1
    refine ⟨⟨⟨_, .cons r1 kr⟩, fun hs hz => ?_⟩, ⟨⟨_, .cons r2 vr⟩, fun hs hz => ?_⟩⟩
    · rw [List.map_cons, PyData.showableAll, Bool.and_eq_true] at hs
      rw [List.map_cons, PyData.shownAll] at hz
      obtain ⟨b1, m1, h1⟩ := g1 hs.1 (hz _ List.mem_cons_self)
      obtain ⟨b2, m2, h2⟩ := kg hs.2 fun t ht => hz t (List.mem_cons_of_mem _ ht)
      rw [List.map_cons, List.map_cons, PyData.depthAll, PyData.shownAll]
      exact ⟨b1 ++ b2, (m1.mono (Nat.le_max_left _ _)).append (m2.mono (Nat.le_max_right _ _)), fun P w => .cons (((h1 P w).more fun b z => List.mem_append_left _ z).level_le (Nat.le_max_left _ _)) ((h2 P w).more_le (fun b z => List.mem_append_right _ z) (Nat.le_max_right _ _))⟩
    · rw [List.map_cons, PyData.showableAll, Bool.and_eq_true] at hs
      rw [List.map_cons, PyData.shownAll] at hz
      obtain ⟨b1, m1, h1⟩ := g2 hs.1 (hz _ List.mem_cons_self)
      obtain ⟨b2, m2, h2⟩ := vg hs.2 fun t ht => hz t (List.mem_cons_of_mem _ ht)
      rw [List.map_cons, List.map_cons, PyData.depthAll, PyData.shownAll]
      exact ⟨b1 ++ b2, (m1.mono (Nat.le_max_left _ _)).append (m2.mono (Nat.le_max_right _ _)), fun P w => .cons (((h1 P w).more fun b z => List.mem_append_left _ z).level_le (Nat.le_max_left _ _)) ((h2 P w).more_le (fun b z => List.mem_append_right _ z) (Nat.le_max_right _ _))⟩
/-- a box at the top: what its kind's repr is handed -/
inductive Bx (h : Heap) (a : Addr) : PyData → Prop
  | lst {its : List Value} {n : Nat} {ds : List PyData} (g : h.get? a = some { cls := .type "list", data := .seq its.toArray n }) (gs : Gds h its ds) : Bx h a (.list ds)
  | tup {o : Obj} {its : Array Value} {n : Nat} {ds : List PyData} (g : h.get? a = some o) (c : o.cls = .type "tuple") (e : o.data = .seq its n) (gs : Gds h its.toList ds) : Bx h a (.tuple ds)
  | dct {o : Obj} {es : Array DictEntry} {n : Nat} {ds : List (PyData × PyData)} (g : h.get? a = some o) (c : o.cls = .type "dict") (e : o.data = .dict es n) (hsys : (a == sysModules) = false) (g1 : Gds h (es.toList.map (·.key)) (ds.map (·.1))) (g2 : Gds h (es.toList.map (·.val)) (ds.map (·.2))) : Bx h a (.dict ds)
theorem bx_reads {a : Addr} {d : PyData} (b : Bx h a d) : ∃ as, Reads h (.ref a) d as := by
  cases b with
  | lst g gs => obtain ⟨⟨as, r⟩, _⟩ := gs; exact ⟨_, .list g rfl rfl r⟩
  | tup g c e gs => obtain ⟨⟨as, r⟩, _⟩ := gs; exact ⟨_, .tuple g c e r⟩
  | dct g c e _ g1 g2 => obtain ⟨⟨as, r⟩, _⟩ := g1; obtain ⟨⟨bs, r2⟩, _⟩ := g2; exact ⟨_, .dict g c e r r2⟩
/-- what is shown of the parts -/
theorem bx_parts {a : Addr} {d : PyData} (b : Bx h a d) (hs : d.showable = true) (hz : d.shown.length ≤ sizeLine) : ∃ bs, ReadAtMost h d.depth (a :: bs) ∧ a ∉ bs ∧
    ((∃ its n ds, d = .list ds ∧ h.get? a = some { cls := .type "list", data := .seq its.toArray n } ∧ ∀ (P : Program) (w : World), ReprAllK P w bs h (PyData.depthAll ds) its (PyData.shownAll ds)) ∨
     (∃ o its n ds, d = .tuple ds ∧ h.get? a = some o ∧ o.cls = .type "tuple" ∧ o.data = .seq its n ∧ ∀ (P : Program) (w : World), ReprAllK P w bs h (PyData.depthAll ds) its.toList (PyData.shownAll ds)) ∨
     (∃ o es n ds, d = .dict ds ∧ h.get? a = some o ∧ o.cls = .type "dict" ∧ o.data = .dict es n ∧ (a == sysModules) = false ∧ ∀ (P : Program) (w : World), ReprEntriesK P w bs h (PyData.depthKv ds) es.toList (PyData.shownKv ds))) := by
  obtain ⟨as0, rd⟩ := bx_reads b
  cases b with
  | @lst its n ds g gs =>
    rw [PyData.showable] at hs
    rw [PyData.shown] at hz
    obtain ⟨bs, m, k⟩ := gs.2 hs fun t ht => Nat.le_trans (listText_mem_le ht) hz
    have na : a ∉ bs := not_mem_of_deeper rd (by rw [PyData.depth]; omega) m
    exact ⟨bs, ReadAtMost.cons rd (by rw [PyData.depth]; omega) m, na, .inl ⟨its, n, ds, rfl, g, k⟩⟩
  | @tup o its n ds g c e gs =>
    rw [PyData.showable] at hs
    rw [PyData.shown] at hz
    obtain ⟨bs, m, k⟩ := gs.2 hs fun t ht => Nat.le_trans (tupleText_mem_le ht) hz
    have na : a ∉ bs := not_mem_of_deeper rd (by rw [PyData.depth]; omega) m
    exact ⟨bs, ReadAtMost.cons rd (by rw [PyData.depth]; omega) m, na, .inr (.inl ⟨o, its, n, ds, rfl, g, c, e, k⟩)⟩
  | @dct o es n ds g c e hsys g1 g2 =>
    rw [PyData.showable] at hs
    rw [PyData.shown] at hz
    obtain ⟨s1, s2⟩ := PyData.showableKv_split ds hs
    obtain ⟨b1, m1, k1⟩ := g1.2 s1 fun t ht => by obtain ⟨p, hp, hl⟩ := PyData.shownKv_key_le ds t ht; exact Nat.le_trans hl (Nat.le_trans (dictText_mem_le hp) hz)
    obtain ⟨b2, m2, k2⟩ := g2.2 s2 fun t ht => by obtain ⟨p, hp, hl⟩ := PyData.shownKv_val_le ds t ht; exact Nat.le_trans hl (Nat.le_trans (dictText_mem_le hp) hz)
    have d1 := PyData.depthAll_keys_le ds
    have d2 := PyData.depthAll_vals_le ds
    have m : ReadAtMost h (PyData.depthKv ds) (b1 ++ b2) := (m1.mono d1).append (m2.mono d2)
    have na : a ∉ b1 ++ b2 := not_mem_of_deeper rd (by rw [PyData.depth]; omega) m
    refine ⟨b1 ++ b2, ReadAtMost.cons rd (by rw [PyData.depth]; omega) m, na, .inr (.inr ⟨o, es, n, ds, rfl, g, c, e, hsys, ?_⟩)⟩
    rw [PyData.shownKv_eq]
    exact fun P w => ReprEntriesK.of_two es.toList _ _ ((k1 P w).more_le (fun b z => List.mem_append_left _ z) d1) ((k2 P w).more_le (fun b z => List.mem_append_right _ z) d2)
theorem bx_gd {a : Addr} {d : PyData} (b : Bx h a d) : Gd h (.ref a) d := by
  refine ⟨bx_reads b, fun hs hz => ?_⟩
  obtain ⟨bs, m, na, h1 | h1 | h1⟩ := bx_parts b hs hz
  · obtain ⟨its, n, ds, rfl, g, k⟩ := h1
    refine ⟨a :: bs, m, ?_⟩
    rw [PyData.depth, PyData.shown]
    cases its with
    | nil =>
      intro P w
      have e9 : PyData.shownAll ds = [] := List.eq_nil_of_length_eq_zero (by simpa using (k P w).length_eq)
      rw [e9, listText_nil]
      exact ReprK.listEmpty g rfl rfl
    | cons x l => exact fun P w => ReprK.list g rfl rfl na (by simpa using (k P w).length_eq) (fun i y e => (k P w).item i y (by simpa using e))
  · obtain ⟨o, its, n, ds, rfl, g, c, e, k⟩ := h1
    refine ⟨a :: bs, m, ?_⟩
    rw [PyData.depth, PyData.shown]
    exact fun P w => ReprK.tuple g c e na (k P w)
  · obtain ⟨o, es, n, ds, rfl, g, c, e, hsys, k⟩ := h1
    refine ⟨a :: bs, m, ?_⟩
    rw [PyData.depth, PyData.shown]
    exact fun P w => ReprK.dict g c e hsys na (k P w)
theorem nd_bx (ok : HOk P w H h) {n : Nat} (ih : ∀ v d u, ND H n v d → RelV v u → Gd h u d) {a : Addr} {d : PyData} (q : ND H (n + 1) (.ref a) d) : Bx h a d := by
  rcases q with f | ⟨a', xs, ds, e, rfl, ha, f⟩ | ⟨a', xs, ds, e, rfl, ha, f⟩ | ⟨a', kvs, ds, e, rfl, ha, f⟩
  · cases f
  · cases e
    obtain ⟨_, its, n', r, g⟩ := (show ObjOk P w H h a (.lst xs) from ok a _ ha)
    exact .lst g (gds_of ih f r)
  · cases e
    obtain ⟨_, its, r, o, h1, h2, n', h3⟩ := (show ObjOk P w H h a (.tup xs) from ok a _ ha)
    exact .tup h1 h2 h3 (gds_of ih f r)
  · cases e
    obtain ⟨_, hsys, vs, rel, o, es, ep, g1, ex, g2, _, pr, _⟩ := dk_of ok ha
    obtain ⟨r1, r2⟩ := kvs_of ih f rel pr
    exact .dct g1 ex.1 g2 hsys r1 r2
theorem nd_gd (ok : HOk P w H h) : ∀ (n : Nat) (v : V) (d : PyData) (u : Value), ND H n v d → RelV v u → Gd h u d
  | 0, _, _, _, q, _ => q.elim
  | n + 1, v, d, u, q, r => by
    by_cases hv : ∃ a, v = .ref a
    · obtain ⟨a, rfl⟩ := hv
      obtain rfl : u = Value.ref a := r
      exact bx_gd (nd_bx ok (nd_gd ok n) q)
    · rcases q with f | ⟨a', xs, ds, e, _⟩ | ⟨a', xs, ds, e, _⟩ | ⟨a', kvs, ds, e, _⟩
      · exact gd_flat f r
      · exact absurd ⟨a', e⟩ hv
      · exact absurd ⟨a', e⟩ hv
      · exact absurd ⟨a', e⟩ hv
/-- how a box is shown by its kind's repr -/
theorem bx_shows {a : Addr} {d : PyData} (b : Bx h a d) (hs : d.showable = true) (hz : d.shown.length ≤ sizeLine) : ∃ T idr, ∀ (P : Program) (w : World), ShowsBy P w h a d T idr := by
  obtain ⟨bs, m, na, h1 | h1 | h1⟩ := bx_parts b hs hz
  · obtain ⟨its, n, ds, rfl, g, k⟩ := h1
    rw [PyData.shown] at hz
    refine ⟨"list", "list.__repr__", fun P w => ⟨F.slot_list_repr.toG, F.slot_list_str, F.slot_list_format, fun s hk0 => ⟨_, hk0 _ _ g, rfl⟩, fun A E s Q hg hu hk0 hQ => ?_⟩⟩
    rw [PyData.depth] at hu
    rw [PyData.shown] at hQ
    cases its with
    | nil =>
      have e9 : PyData.shownAll ds = [] := List.eq_nil_of_length_eq_zero (by simpa using (k P w).length_eq)
      rw [e9, listText_nil] at hQ
      exact call_list_repr_empty ⟨_, hk0 _ _ g, rfl⟩ (hk0 _ _ g) rfl (hQ s.heap _ _ fun _ _ e => e)
    | cons x l => exact call_list_reprK g rfl rfl na (by simpa using (k P w).length_eq) (fun i y e => (k P w).item i y (by simpa using e)) hg (fun b _ => Clear.nil b) hu hk0 hQ hz
  · obtain ⟨o, its, n, ds, rfl, g, c, e, k⟩ := h1
    rw [PyData.shown] at hz
    refine ⟨"tuple", "tuple.__repr__", fun P w => ⟨F.slot_tuple_repr, F.slot_tuple_str, F.slot_tuple_format, fun s hk0 => ⟨o, hk0 _ _ g, c⟩, fun A E s Q hg hu hk0 hQ => ?_⟩⟩
    rw [PyData.depth] at hu
    rw [PyData.shown] at hQ
    exact call_tuple_reprK g c e na (k P w) hg (fun b _ => Clear.nil b) hu hk0 hQ hz
  · obtain ⟨o, es, n, ds, rfl, g, c, e, hsys, k⟩ := h1
    rw [PyData.shown] at hz
    refine ⟨"dict", "dict.__repr__", fun P w => ⟨F.slot_dict_repr, F.slot_dict_str, F.slot_dict_format, fun s hk0 => ⟨o, hk0 _ _ g, c⟩, fun A E s Q hg hu hk0 hQ => ?_⟩⟩
    rw [PyData.depth] at hu
    rw [PyData.shown] at hQ
    exact call_dict_reprK g c e hsys na (k P w) hg (fun b _ => Clear.nil b) hu hk0 hQ hz
end
end RNd

set_option Elab.async false
set_option linter.all false
set_option maxRecDepth 100000
set_option maxHeartbeats 4000000
/-! Defs that may raise own errors, calls of them, raise, except X as e of several clauses. -/
namespace RQ
open PySem PySem.Spec PyProof.Rows L2 RC
/-- as Callable, where an error may leave the def -/
def CallX (P : Program) (w : World) (K : PySem.W.Frag) (mg : Str → Option Value) (base : Heap) (k : Nat) (f : Addr) (ps : List Str) (dvs : List V) (sp : Sp) : Prop :=
  ∃ fd ds, FnOk P w K mg base (L2.CX P w) k f fd ps sp ∧ Vals dvs ds ∧ Binds K fd ps ds ∧ PySem.W.keepIn K (.ref f) = true
section
variable {P : Program} {w : World} {K : PySem.W.Frag} {mg : Str → Option Value} {base : Heap} {x qual : Str} {dvs : List V} {f : Addr} {k : Nat} {N ps : List Str} {sp : Sp}
theorem CallX.up {j : Nat} (c : CallX P w K mg base j f ps dvs sp) (h : j ≤ k) : CallX P w K mg base k f ps dvs sp :=
  let ⟨fd, ds, F, r⟩ := c
  ⟨fd, ds, F.mono h, r⟩
theorem stands_callX {st : Stmt} (F : Stands K x qual st dvs f) (S : FnScope N ps (defScope st)) (n j : Nat) (len : ∀ vs H Q E, sp vs H Q E → vs.length = ps.length)
    (hbody : ∀ (cdv : Value) (A : Around) (outer : List Env) (s : Shared) (H : Hp) (vs : List V) (Q : VK) (E : XK), Room k (A.deeper (envOfC qual (defScope st) s.heap.objs.size f cdv)) → sp vs H Q E →
      ∃ t, PSs (cxOf (L2.CX P w) P w K mg base N qual (defScope st) f cdv A outer s H E) (defBody st) t ∧ t { nx := fun _ H' => Q .non H', rt := Q } (start N vs) H)
    (h0 : dvs = [] → n = ps.length ∧ ∀ (kV doc pm : Value) (an : Option Addr) (cdv ct : Value) (us : List Value), us.length = ps.length → bindArgs (PySem.W.fnOf x qual (defArgs st) (defBody st) (defScope st) .none kV doc pm an cdv ct) ⟨us, []⟩ = pure (ps.zip us))
    (h1 : dvs ≠ [] → n + (dvs.length - j) = ps.length ∧ ∀ (T : Addr) (kV doc pm : Value) (an : Option Addr) (cdv ct : Value) (us its : List Value), us.length = n → its.length = dvs.length →
      ∃ k, bindArgs (PySem.W.fnOf x qual (defArgs st) (defBody st) (defScope st) (.ref T) kV doc pm an cdv ct) ⟨us, []⟩ = seqItems? (.ref T) >>= k ∧ k (some its.toArray) = pure (ps.zip (us ++ its.drop j))) :
    CallX P w K mg base (k + 1) f ps (dvs.drop j) sp := by
  obtain ⟨fd, F⟩ := F
  have ok : FnOk P w K mg base (L2.CX P w) (k + 1) f fd ps sp := F.ok S len fun cdv A outer s H vs Q E hr hsp => hbody cdv A outer s H vs Q E hr hsp
  by_cases hd : dvs = []
  · subst hd
    exact ⟨fd, [], ok, by rw [List.drop_nil]; exact .nil, F.bindsN (h0 rfl).2, F.kp⟩
  · obtain ⟨ds, hv, hb⟩ := F.binds1 n j hd (h1 hd).1 (h1 hd).2
    exact ⟨fd, ds, ok, hv, hb, F.kp⟩
theorem stands_callX0 {st : Stmt} (F : Stands K x qual st [] f) (S : FnScope N ps (defScope st)) (len : ∀ vs H Q E, sp vs H Q E → vs.length = ps.length)
    (hbody : ∀ (cdv : Value) (A : Around) (outer : List Env) (s : Shared) (H : Hp) (vs : List V) (Q : VK) (E : XK), Room k (A.deeper (envOfC qual (defScope st) s.heap.objs.size f cdv)) → sp vs H Q E →
      ∃ t, PSs (cxOf (L2.CX P w) P w K mg base N qual (defScope st) f cdv A outer s H E) (defBody st) t ∧ t { nx := fun _ H' => Q .non H', rt := Q } (start N vs) H)
    (h0 : ∀ (kV doc pm : Value) (an : Option Addr) (cdv ct : Value) (us : List Value), us.length = ps.length → bindArgs (PySem.W.fnOf x qual (defArgs st) (defBody st) (defScope st) .none kV doc pm an cdv ct) ⟨us, []⟩ = pure (ps.zip us)) :
    CallX P w K mg base (k + 1) f ps [] sp := by
  obtain ⟨fd, F⟩ := F
  have ok : FnOk P w K mg base (L2.CX P w) (k + 1) f fd ps sp := F.ok S len fun cdv A outer s H vs Q E hr hsp => hbody cdv A outer s H vs Q E hr hsp
  exact ⟨fd, [], ok, .nil, F.bindsN h0, F.kp⟩
end
section
variable {X : Cx} {k : Nat} {f C : Addr} {ps : List Str} {sp : Sp} {dvs : List V} {x m : Str} {p pos apos : Pos} {e o : Expr} {es : List Expr} {ta : TE} {t : TA} {pl : Sem Bool} {W : WX}
/-- f(e, ..), where f may raise -/
theorem pe_fnX (tk : Takes X W) (hm : X.mg x = some (.ref f)) (c : CallX X.prog X.w X.K X.mg X.base k f ps dvs sp) (hr : Room k X.A) (hg : Gl X x) (ha : PA X (e :: es) t) (hdb : (x == ("__debug__" : Str)) = false := by decide)
    (he : starEach (e :: es) X.env = (false, eval e X.env) :: starEach es X.env := by rfl) (hpl : (backTo pos (starEach es X.env)).any (·.1) = false := by rfl) : PE X (.Call (.Name x p) (e :: es) [] pos) (tCallSD sp dvs (WE W) t) := by
  obtain ⟨fd, ds, F, hd, hb, hk⟩ := c
  exact pe_callSD F hr hg hm hk hb hd (fun σ => passAt tk σ) ha hdb he hpl
/-- o.m(e, ..), where m may raise -/
def tMethX (C : Addr) (m : Str) (sp : Sp) (dvs : List V) (E : L2.St → XK) (ta : TE) (t : TA) : TE := fun σ H Q => ta σ H fun x H1 => ∃ a dx fs, x = .ref a ∧ H1 a = some (.ins C dx fs) ∧ fs.lookup m = none ∧ t σ H1 fun vs H2 => sp (x :: (vs ++ dvs)) H2 Q (E σ)
theorem pe_mtX (tk : Takes X W) (cl : Cls X.K C) (hm : Meth X.K C m f) (c : CallX X.prog X.w X.K X.mg X.base k f ps dvs sp) (hr : Room k X.A) (he : PE X o ta) (ha : PA X (e :: es) t)
    (hst : starEach (e :: es) X.env = (false, eval e X.env) :: starEach es X.env := by rfl) (hpl : (backTo pos (starEach es X.env)).any (·.1) = false := by rfl)
    (ht : eval (.Call (.Attribute o m apos) (e :: es) [] pos) X.env = (do
      let ov ← eval o X.env
      standAt apos.atName
      let (f, first) ← holding [ov] (getMethod ov m pl)
      callWith pos f first (backTo pos (starEach (e :: es) X.env)) (backToKw pos (keywordEach [] X.env))) := by rfl) :
    PE X (.Call (.Attribute o m apos) (e :: es) [] pos) (tMethX C m sp dvs (WE W) ta t) := by
  obtain ⟨fd, ds, F, hd, hb, hk⟩ := c
  refine ⟨fun pins s σ H Q I h => ?_⟩
  refine PySem.W.methodCall_KW (pl := pl) (thn (he.run pins s σ H _ I h) fun u s1 ⟨z, H1, I1, rz, a, dx, fs, ez, ea, l, q⟩ => ?_) ht
  subst ez
  obtain rfl : u = Value.ref a := rz
  refine getmeth_ok I1 ea cl hm l ?_
  refine PySem.W.callWith_K (first := [.ref a]) (h₀ := X.base) I.ok.mod.kin hm.kp (thn (ha.run pos pins s1 σ H1 _ I1 q) fun us s2 ⟨ws, H2, I2, r, q2⟩ => ⟨I2.kIn, ?_⟩) hst hpl
  exact run_fnSD (us := .ref a :: us) (vs := .ref a :: ws) F hr hb hd (passAt tk σ) I2 (.cons rfl r) q2
/-- C(e, ..), where __init__ may raise -/
def tMakeX (C : Addr) (sp : Sp) (dvs : List V) (E : L2.St → XK) (t : TA) : TE := fun σ H Q => t σ H fun vs H1 => ∀ x dx, H1 x = none → H1 dx = none → dx ≠ x →
  sp (.ref x :: (vs ++ dvs)) (upd (upd H1 dx (.own x)) x (.ins C dx [])) (fun v H2 => v = .non ∧ Q (.ref x) H2) (E σ)
theorem pe_mkX (tk : Takes X W) (M : Mk X.K C f) (hm : X.mg x = some (.ref C)) (c : CallX X.prog X.w X.K X.mg X.base k f ps dvs sp) (hr : Room (k + 1) X.A) (hg : Gl X x) (ha : PA X (e :: es) t) (hdb : (x == ("__debug__" : Str)) = false := by decide)
    (he : starEach (e :: es) X.env = (false, eval e X.env) :: starEach es X.env := by rfl) (hpl : (backTo pos (starEach es X.env)).any (·.1) = false := by rfl) : PE X (.Call (.Name x p) (e :: es) [] pos) (tMakeX C sp dvs (WE W) t) := by
  obtain ⟨fd, ds, F, hd, hb, hk⟩ := c
  refine ⟨fun pins s σ H Q I h => ?_⟩
  refine wpAny_Call_Name_kw (ld_glob I hg hm ?_ hdb)
  refine PySem.W.callWith_K (h₀ := X.base) I.ok.mod.kin M.kp (thn (ha.run pos pins s σ H _ I h) fun us s1 ⟨ws, H1, I1, r, q⟩ => ⟨I1.kIn, ?_⟩) he hpl
  have big := Nat.le_succ s1.heap.objs.size
  have spx := q (s1.heap.objs.size + 1) s1.heap.objs.size (I1.hok.fresh big) (I1.hok.fresh (Nat.le_refl _)) (Nat.ne_of_lt (Nat.lt_succ_self _))
  have made := Inv.made (C := C) I1
  have rel : Vals (V.ref (s1.heap.objs.size + 1) :: (ws ++ dvs)) (Value.ref (s1.heap.objs.size + 1) :: (us ++ ds)) := .cons rfl (r.append hd)
  have len : (Value.ref (s1.heap.objs.size + 1) :: us ++ ds).length = ps.length := rel.length.symm.trans (F.len _ _ _ _ spx)
  have bind := hb _ (Value.ref (s1.heap.objs.size + 1) :: us) made.kIn len
  have env := made.env0.make C us []
  have room := hr.make C us []
  refine wpAny_call (make_map (f := f) I1.kIn M.makes M.init (beq_iff_eq.mp M.fn) (codeAny_mono (F.run _ X.stack _ _ ⟨Value.ref (s1.heap.objs.size + 1) :: us, []⟩ _ _ _ (WE W σ) room env bind rel spx) fun z s' hz => ?_))
  cases z with
  | error er => exact passAt tk σ pins _ _ er s' made hz
  | ok fl =>
    cases fl with
    | ret u =>
      obtain ⟨v, H', I3, rv, ev, q3⟩ := made.after hz
      subst ev
      exact ⟨rv, V.ref (s1.heap.objs.size + 1), H', I3, rfl, q3⟩
    | next => exact hz.elim
    | brk => exact hz.elim
    | cont => exact hz.elim
end
/-! ### raise X(e) -/
/-- __init__ of an own error: one field kept -/
def spExcInit (K : PySem.W.Frag) (f : Str) : Sp := fun vs H Q _ => ∃ (a C : Addr) (v : V), vs = [.ref a, v] ∧ RB.ExcF K C f ∧ H a = some (exo a C none) ∧ ∀ dx, H dx = none → dx ≠ a → Q .non (upd (upd H dx (exd dx [(f, v)])) a (exo a C (some dx)))
section
variable {X : Cx} {C : Addr} {f x : Str} {k : Nat} {ps : List Str} {e : Expr} {p pos pos2 : Pos} {ta : TA} {W : WX}
def tMkE (C : Addr) (f : Str) (ta : TA) : L2.St → Hp → XK → Prop := fun σ H Q => ta σ H fun vs H1 => ∃ v, vs = [v] ∧ ∀ d, H1 d = none → Q (.ref C) (some d) (upd H1 d (.xd [(f, v)]))
theorem mkE_of {K : PySem.W.Frag} {Q : XK} {vs : List V} {H1 : Hp} (T : RB.ExcF K C f) (h : ∃ v, vs = [v] ∧ ∀ d, H1 d = none → Q (.ref C) (some d) (upd H1 d (.xd [(f, v)]))) :
    vs.length ≤ 1000 ∧ ∀ a, H1 a = none → spExcInit K f (.ref a :: (vs ++ [])) (upd H1 a (exo a C none))
      (fun v H2 => v = .non ∧ ∃ (d : Addr) (fs : List (Str × V)), H2 a = some (exo a C (some d)) ∧ H2 d = some (exd d fs) ∧ H1 d = none ∧ Q (.ref C) (some d) (upd (del H2 a) d (.xd fs))) (fun _ _ _ => False) := by
  obtain ⟨v, rfl, h⟩ := h
  refine ⟨by show 1 ≤ 1000; decide, fun a ha => ⟨a, C, v, rfl, T, upd_same, fun dx hdx nd => ⟨rfl, dx, [(f, v)], upd_same, by rw [upd_ne nd, upd_same], ?_, ?_⟩⟩⟩
  · have := hdx
    rw [upd_ne nd] at this
    exact this
  · have hd : H1 dx = none := by have := hdx; rw [upd_ne nd] at this; exact this
    have e : upd (del (upd (upd (upd H1 a (exo a C none)) dx (exd dx [(f, v)])) a (exo a C (some dx))) a) dx (.xd [(f, v)]) = upd H1 dx (.xd [(f, v)]) := by
      funext b
      by_cases c : b = dx
      · rw [c, upd_same, upd_same]
      · rw [upd_ne c, upd_ne c]
        by_cases z : b = a
        · rw [z, del_same, ha]
        · rw [del_ne z, upd_ne z, upd_ne c, upd_ne z]
    rw [e]
    exact h dx hd
theorem pmk_exc (T : RB.ExcF X.K C f) (c : Callable X.prog X.w X.K X.mg X.base k (He.ma X.K C "__init__") ps [] (spExcInit X.K f)) (hr : Room (k + 1) X.A) (hm : X.mg x = some (.ref C)) (hg : Gl X x) (ha : PA X [e] ta)
    (hdb : (x == ("__debug__" : Str)) = false := by decide) (he : starEach (e :: []) X.env = (false, eval e X.env) :: starEach [] X.env := by rfl) (hpl : (backTo pos (starEach [] X.env)).any (·.1) = false := by rfl) :
    PMk X (.Call (.Name x p) [e] [] pos) (tMkE C f ta) := by
  obtain ⟨fd, ds, F, hd, hb, hk⟩ := c
  have m := pmk_oex (dvs := []) (x := x) (p := p) (pos := pos) T.ox T.ini T.ty F hr hb hd pass0 hg hm ha hdb he hpl
  intro pins s σ H Q I h
  have ha2 : PA X [e] (fun σ0 H0 K0 => ta σ0 H0 (fun vs H1 => ∃ v, vs = [v] ∧ ∀ d, H1 d = none → Q (.ref C) (some d) (upd H1 d (.xd [(f, v)]))) ∧
      ∀ vs H1, (∃ v, vs = [v] ∧ ∀ d, H1 d = none → Q (.ref C) (some d) (upd H1 d (.xd [(f, v)]))) → K0 vs H1) := ⟨fun pos0 pins0 s0 σ0 H0 K0 I0 h0 =>
    wpAny_mono (ha.run pos0 pins0 s0 σ0 H0 _ I0 h0.1) (fun us s1 hz => by
      obtain ⟨vs, H1, I1, r1, q1⟩ := hz
      exact ⟨vs, H1, I1, r1, h0.2 vs H1 q1⟩) (fun _ _ z => z)⟩
  exact pmk_oex (dvs := []) (x := x) (p := p) (pos := pos) T.ox T.ini T.ty F hr hb hd pass0 hg hm ha2 hdb he hpl pins s σ H Q I ⟨h, fun vs H1 q => mkE_of T q⟩
/-- raise X(e) -/
def tExc (C : Addr) (f : Str) (W : WX) (ta : TA) : TS := fun _ σ H => tMkE C f ta σ H fun cls d H' => W cls d σ H'
theorem ps_exc (hc : X.calm = true) (tk : Takes X W) (T : RB.ExcF X.K C f) (c : Callable X.prog X.w X.K X.mg X.base k (He.ma X.K C "__init__") ps [] (spExcInit X.K f)) (hr : Room (k + 1) X.A) (hm : X.mg x = some (.ref C)) (hg : Gl X x) (ha : PA X [e] ta)
    (hdb : (x == ("__debug__" : Str)) = false := by decide) (he : starEach (e :: []) X.env = (false, eval e X.env) :: starEach [] X.env := by rfl) (hpl : (backTo pos (starEach [] X.env)).any (·.1) = false := by rfl) :
    PS X (.Raise (some (.Call (.Name x p) [e] [] pos)) none pos2) (tExc C f W ta) := ps_raise hc tk (pmk_exc T c hr hm hg ha hdb he hpl)
/-- self.f = e in an own error's __init__, the first field -/
theorem init_rd {K : PySem.W.Frag} {D : Ends} {σ : L2.St} {H : Hp} {a C : Addr} {v : V} {to te : TE} (T : RB.ExcF K C f) (h : ∀ (Q : V → Hp → Prop), Q v H → te σ H Q) (h2 : ∀ (Q : V → Hp → Prop), Q (.ref a) H → to σ H Q) (ea : H a = some (exo a C none))
    (q : ∀ dx, H dx = none → dx ≠ a → D.nx σ (upd (upd H dx (exd dx [(f, v)])) a (exo a C (some dx)))) : tOst K f to te D σ H :=
  h _ (h2 _ ⟨a, C, rfl, T.ox, T.no, .inl ⟨ea, q⟩⟩)
end
/-! ### except X as e, several clauses -/
abbrev HdT : Type := Value × Option Nat × (Addr → Value → Option Addr → TS)
/-- the ends of a suite whose slot i goes -/
def Ends.un (D : Ends) (i : Nat) : Ends := { nx := fun σ' H' => D.nx (σ'.set i none) H', rt := D.rt, bk := fun σ' H' => D.bk (σ'.set i none) H', ct := fun σ' H' => D.ct (σ'.set i none) H' }
def wAny (K : PySem.W.Frag) (Wout : WX) (D : Ends) : List HdT → WX
  | [] => Wout
  | (c, none, ts) :: r => fun cls d σ H => ∃ b, PySem.W.exmOne K cls c = some b ∧ (b = true → ∀ a, H a = none → ts a cls d D σ H) ∧ (b = false → wAny K Wout D r cls d σ H)
  | (c, some i, ts) :: r => fun cls d σ H => ∃ b, PySem.W.exmOne K cls c = some b ∧ (b = true → ∀ a, H a = none → ts a cls d (Ends.un D i) (σ.set i (some (.ref a))) H) ∧ (b = false → wAny K Wout D r cls d σ H)
inductive HdA (X : Cx) : List ExceptHandler → List HdT → Prop
  | nil : HdA X [] []
  | plain {x : Str} {c : Value} {ts : Addr → Value → Option Addr → TS} {b : Stmt} {bs : List Stmt} {np pe : Pos} {hds : List ExceptHandler} {l : List HdT} (hc : Names X x c)
      (su : ∀ (a : Addr) (oe : Obj) (cls : Value) (d : Option Addr) (pn : List (Addr × Obj)), Zc cls d oe → (∃ vs, oe.data = .fields vs) → PSs (X.suite a ((a, oe) :: pn)) (b :: bs) (ts a cls d)) (r : HdA X hds l) :
      HdA X (.ExceptHandler (some (.Name x np)) none (b :: bs) pe :: hds) ((c, none, ts) :: l)
  | named {x n : Str} {c : Value} {i : Nat} {ts : Addr → Value → Option Addr → TS} {b : Stmt} {bs : List Stmt} {np pe : Pos} {hds : List ExceptHandler} {l : List HdT} (hN : X.N.Nodup) (hi : X.N[i]? = some n) (hl : X.env.kindOf n = some .local) (hc : Names X x c)
      (su : ∀ (a : Addr) (oe : Obj) (cls : Value) (d : Option Addr) (pn : List (Addr × Obj)), Zc cls d oe → (∃ vs, oe.data = .fields vs) → PSs (X.suite a ((a, oe) :: pn)) (b :: bs) (ts a cls d)) (r : HdA X hds l) :
      HdA X (.ExceptHandler (some (.Name x np)) (some n) (b :: bs) pe :: hds) ((c, some i, ts) :: l)
section
variable {X : Cx} {body : List Stmt} {hd0 : ExceptHandler} {hds : List ExceptHandler} {l : List HdT} {pos : Pos} {tb : WX → TS} {Wout : WX}
/-- what a caught error leaves: looked at by clause after clause -/
theorem hd_go {pins : List (Addr × Obj)} {σq : L2.St} {Hq : Hp} {B : Heap} {a : Addr} {cls : Value} {d : Option Addr} {sq : Shared} {st : Shared} {D : Ends} (ok : X.Ok) (hs : X.stack = X.env :: X.outer) (hf : X.env.frame = some X.env.locals) (tk : Takes X Wout)
    (J : Inv X pins σq Hq sq) (grd : ∀ b o, sq.heap.get? b = some o → b ∉ frs X.stack → B.get? b = some o) (up : sq.heap.UpToSlots st.heap) (free : Hq a = none) (os : st.os = sq.os) (bare : AllBare st.gens)
    (fly : PySem.HandSPX.FlyingZ B (X.env :: X.outer) a (Zc cls d) st.heap) : ∀ {hds : List ExceptHandler} {l : List HdT}, HdA X hds l → wAny X.K Wout D l cls d σq Hq → wpAny (model X.prog X.w) X.A (handleBy (.ref a) X.env hds) (SP X pins D) X.xe st := by
  have J3 : Inv X pins σq Hq st := J.landed grd fly.1 up os bare
  obtain ⟨oA, vA, eA, zA, dA⟩ := fly.there
  have out : a ∉ frs (X.env :: X.outer) := fun hm => by
    obtain ⟨_, o2, e2, nf⟩ := fly.2.2.1.mem hm
    rw [eA] at e2
    cases e2
    exact nf _ dA
  have aL : a ≠ X.env.locals := fun z => out (List.mem_filterMap.mpr ⟨X.env, List.mem_cons_self, hf.trans (congrArg some z.symm)⟩)
  have aF : a ∉ X.fs := fun hm => by
    obtain ⟨v, hv, q⟩ := List.mem_filterMap.mp hm
    exact out (List.mem_filterMap.mpr ⟨v, List.mem_cons_of_mem _ hv, q⟩)
  have S3 := J3.suite eA dA free aL aF
  have ty : PySem.W.Looks (model X.prog X.w) st.heap (typeOf (.ref a)) cls := fun A Q E s kp q => wpAny_typeOf_ref (kp _ _ eA) (by rw [zA.1]; exact q)
  have named : ∀ {x : Str} {c : Value} {np : Pos} {Q : Value → Shared → Prop} {E : Value → Shared → Prop}, Names X x c → Q c st → wpAny (model X.prog X.w) (X.A.mark (some (.ref a))) (eval (.Name x np) X.env) Q E st := fun {x c np Q E} hc q => by
    obtain ⟨g1, g2, g3 | ⟨g3, g4, g5⟩⟩ := hc
    · exact ld_glob (X := X.suite a ((a, oA) :: (X.pn ++ pins))) S3 g1 g3 q g2
    · exact ld_blt (X := X.suite a ((a, oA) :: (X.pn ++ pins))) S3 g1 g3 g4 q g5 g2
  intro hds l hk
  induction hk with
  | nil =>
    intro w
    refine wpAny_handleBy_nil ?_
    obtain ⟨k1, k2, k3, oe, vs, T, oT, ts', he, hz, hd, h1, hr⟩ := id fly
    unfold PySem.passOn
    refine wpAny_bind (wpAny_field he hd h1 ?_)
    rw [if_neg (show ¬((Value.ref T == Value.none) = true) by simp)]
    have last : wpAny (model X.prog X.w) X.A (setFlight (.ref a) X.env.frame) (fun _ s4 => wpAny (model X.prog X.w) X.A (throw (.ref a) : Sem Flow) (SP X pins D) X.xe s4) X.xe st := by
      rw [hf]
      refine PySem.HandSPX.setFlight_upZ fly fun hW held upW => wpAny_throw (tk _ _ ?_)
      exact ⟨a, B, sq, pins, σq, Hq, cls, d, rfl, J, grd, up.trans upW, .inr (.inr (by rw [hs]; exact held)), free, os, bare, w⟩
    first
      | exact wpAny_bind (wpAny_pure (wpAny_bind last))
      | exact wpAny_bind last
  | @plain x c ts b bs np pe hds2 l2 hc su r ih =>
    rintro ⟨z, hz, hyes, hno⟩
    refine wpAny_handleBy_cons (codeAny_handlers_test ?_) (by intro q; cases q)
    refine named hc ((PySem.W.exm_one (M := model X.prog X.w) J3.kIn ty hz).here ?_)
    cases z with
    | false => exact ih (hno rfl)
    | true =>
      refine codeAny_handlers_suite (PySem.HandSPX.lands_againZ fly fun h4 fl4 up4 => ?_)
      have J4 : Inv X pins σq Hq { st with heap := h4 } := J.landed grd fl4.1 (up.trans up4) os bare
      obtain ⟨o4, v4, e4, z4, d4⟩ := fl4.there
      refine wpAny_mono ((su a o4 cls d (X.pn ++ pins) z4 ⟨_, d4⟩).run [] _ _ Hq _ (J4.suite e4 d4 free aL aF) (hyes rfl a free)) (fun fl s6 hsp => ?_) (fun _ _ z => z.elim)
      cases fl with
      | ret u =>
        obtain ⟨v6, σ6, H6, S6, r6, q6⟩ := hsp
        exact ⟨v6, σ6, H6, S6.unsuite ok, r6, q6⟩
      | next =>
        obtain ⟨σ6, H6, S6, q6⟩ := hsp
        exact ⟨σ6, H6, S6.unsuite ok, q6⟩
      | brk =>
        obtain ⟨σ6, H6, S6, q6⟩ := hsp
        exact ⟨σ6, H6, S6.unsuite ok, q6⟩
      | cont =>
        obtain ⟨σ6, H6, S6, q6⟩ := hsp
        exact ⟨σ6, H6, S6.unsuite ok, q6⟩
  | @named x n c i ts b bs np pe hds2 l2 hN hi hl hc su r ih =>
    rintro ⟨z, hz, hyes, hno⟩
    refine wpAny_handleBy_cons (codeAny_handlers_test ?_) (by intro q; cases q)
    refine named hc ((PySem.W.exm_one (M := model X.prog X.w) J3.kIn ty hz).here ?_)
    cases z with
    | false => exact ih (hno rfl)
    | true =>
      refine codeAny_handlers_suite_as (PySem.HandSPX.lands_againZ fly fun h4 fl4 up4 => ?_)
      have J4 : Inv X pins σq Hq { st with heap := h4 } := J.landed grd fl4.1 (up.trans up4) os bare
      obtain ⟨o4, v4, e4, z4, d4⟩ := fl4.there
      refine store_ok (X := X.suite a ((a, o4) :: (X.pn ++ pins))) (v := .ref a) (J4.suite e4 d4 free aL aF) hN hi (.inl hl) rfl (fun s5 S5 => ?_) (.inr hl)
      refine wpAny_mono ((su a o4 cls d (X.pn ++ pins) z4 ⟨_, d4⟩).run [] s5 _ Hq _ S5 (hyes rfl a free)) (fun fl s6 hsp => ?_) (fun _ _ z => z.elim)
      have gone : ∀ {σ6 : L2.St} {H6 : Hp} {Q : Shared → Prop}, Inv (X.suite a ((a, o4) :: (X.pn ++ pins))) [] σ6 H6 s6 → (∀ s7, Inv X pins (σ6.set i none) H6 s7 → Q s7) →
          wpAny (model X.prog X.w) X.A (do bindName X.env n .none; unbindBehindTheSuite X.env n pe) (fun _ s7 => Q s7) X.xe s6 := fun {σ6 H6 Q} S6 hq => gone_ok (S6.unsuite ok) hN hi hl hq
      cases fl with
      | ret u =>
        obtain ⟨v6, σ6, H6, S6, r6, q6⟩ := hsp
        exact gone S6 fun s7 J7 => ⟨v6, _, H6, J7, r6, q6⟩
      | next =>
        obtain ⟨σ6, H6, S6, q6⟩ := hsp
        exact gone S6 fun s7 J7 => ⟨_, H6, J7, q6⟩
      | brk =>
        obtain ⟨σ6, H6, S6, q6⟩ := hsp
        exact gone S6 fun s7 J7 => ⟨_, H6, J7, q6⟩
      | cont =>
        obtain ⟨σ6, H6, S6, q6⟩ := hsp
        exact gone S6 fun s7 J7 => ⟨_, H6, J7, q6⟩
theorem ps_tryA (hs : X.stack = X.env :: X.outer) (hf : X.env.frame = some X.env.locals) (tk : Takes X Wout)
    (hb : ∀ (W : WX) (pn : List (Addr × Obj)) (xe : Value → Shared → Prop), Takes (X.tr pn xe) W → PassesOwn (model X.prog X.w) X.A X.env xe → PSs (X.tr pn xe) body (tb W))
    (hh : HdA X (hd0 :: hds) l) : PS X (.Try body (hd0 :: hds) [] [] pos) (fun D σ H => tb (wAny X.K Wout D l) D σ H) := by
  refine ⟨fun pins s σ H D I h => ?_⟩
  have ok := I.ok
  have fr : X.A.frames = some (X.env :: X.outer) := ok.frames.trans (congrArg some hs)
  refine wpAny_Try_except ?_
  have air : Takes (X.tr (X.pn ++ pins) (fun e s₁ => wpAny (model X.prog X.w) X.A (noteFrame e X.env) (fun _ s₂ => wpAny (model X.prog X.w) X.A (setFlight e none) (fun _ s₃ =>
      wpAny (model X.prog X.w) X.A (handleBy e X.env (hd0 :: hds)) (SP X pins D) X.xe s₃) X.xe s₂) X.xe s₁)) (wAny X.K Wout D l) := fun u s' xx => by
    obtain ⟨a, B, sq, pq, σq, Hq, cls, d, rfl, Jq, grd, up, sky, free, os, bare, w⟩ := xx
    have J : Inv X pins σq Hq sq := Jq.ofTry ok
    have sky2 : Sky B (X.env :: X.outer) a (Zc cls d) X.env.locals s'.heap := hs ▸ sky
    show wpAny (model X.prog X.w) X.A (noteFrame (.ref a) X.env) _ _ _
    refine Sky.land Zc.steady fr hf sky2 fun h3 fly up3 => ?_
    exact hd_go (st := { s' with heap := h3 }) ok hs hf tk J grd (up.trans up3) free os bare fly hh w
  refine wpAny_mono ((hb (wAny X.K Wout D l) (X.pn ++ pins) _ air PassesOwn.looking).run [] s σ H D (I.toTry _) h) (fun fl s1 hsp => ?_) (fun e s1 he => he)
  cases fl with
  | ret u =>
    obtain ⟨v, σ', H', J', r, q⟩ := hsp
    exact ⟨v, σ', H', J'.ofTry ok, r, q⟩
  | next =>
    obtain ⟨σ', H', J', q⟩ := hsp
    exact wpAny_execs_nil ⟨σ', H', J'.ofTry ok, q⟩
  | brk =>
    obtain ⟨σ', H', J', q⟩ := hsp
    exact ⟨σ', H', J'.ofTry ok, q⟩
  | cont =>
    obtain ⟨σ', H', J', q⟩ := hsp
    exact ⟨σ', H', J'.ofTry ok, q⟩
end
end RQ

set_option Elab.async false
set_option linter.all false
set_option maxRecDepth 100000
set_option maxHeartbeats 4000000
/-! Defs called in an except suite, whatever the context of the handled error is. -/
namespace RI
open PySem PySem.Spec PyProof.Rows L2 RC
variable {P : Program} {w : World} {K : PySem.W.Frag} {mg : Str → Option Value} {base : Heap} {f : Addr} {fd : FuncData} {k : Nat} {ps : List Str} {sp : Sp}
/-- what a def promises of a call there -/
structure HotOk (P : Program) (w : World) (K : PySem.W.Frag) (mg : Str → Option Value) (base : Heap)
    (k : Nat) (f : Addr) (fd : FuncData) (ps : List Str) (sp : Sp) : Prop where
  size : ∀ vs H Q, sp vs H Q L2.E0 → vs.length = ps.length
  go : ∀ (A : Around) (st : List Env) (s : Shared) (H : Hp) (us : List Value) (vs : List V) (Q : VK) (p : Addr × Obj),
    L2H.RoomH k A → L2H.PinOk st H s p → Env0 P w K mg base A st s H → BindsTo s fd ⟨us, []⟩ (ps.zip us) →
    Vals vs us → sp vs H Q L2.E0 → codeAny (model P w) A (.call (.ref f) ⟨us, []⟩) (CR L2.CX0 st P w H s Q L2.E0) s
def CallI (P : Program) (w : World) (K : PySem.W.Frag) (mg : Str → Option Value) (base : Heap)
    (k : Nat) (f : Addr) (ps : List Str) (sp : Sp) : Prop :=
  ∃ fd, HotOk P w K mg base k f fd ps sp ∧ Binds K fd ps [] ∧ PySem.W.keepIn K (.ref f) = true
theorem CallI.up {j : Nat} (c : CallI P w K mg base j f ps sp) (h : j ≤ k) : CallI P w K mg base k f ps sp :=
  let ⟨fd, o, r⟩ := c
  ⟨fd, ⟨o.size, fun A st s H us vs Q p hr => o.go A st s H us vs Q p (hr.mono h)⟩, r⟩
theorem stands_callI {x qual : Str} {N : List Str} {st : Stmt} (F : Stands K x qual st [] f) (S : FnScope N ps (defScope st))
    (size : ∀ vs H Q E, sp vs H Q E → vs.length = ps.length)
    (body : ∀ (cdv : Value) (A : Around) (outer : List Env) (s : Shared) (H : Hp) (vs : List V) (Q : VK) (p : Addr × Obj),
      L2H.RoomH k (A.deeper (envOfC qual (defScope st) s.heap.objs.size f cdv)) → sp vs H Q L2.E0 →
      ∃ t, PSs (L2H.cxH L2.CX0 P w K mg base N qual (defScope st) f cdv A outer s H L2.E0 p) (defBody st) t ∧
        t { nx := fun _ H' => Q .non H', rt := Q } (L2.start N vs) H)
    (bind : ∀ (kV doc pm : Value) (an : Option Addr) (cdv ct : Value) (us : List Value), us.length = ps.length →
      bindArgs (PySem.W.fnOf x qual (defArgs st) (defBody st) (defScope st) .none kV doc pm an cdv ct) ⟨us, []⟩ = pure (ps.zip us)) :
    CallI P w K mg base (k + 1) f ps sp := by
  obtain ⟨fd, D⟩ := F
  refine ⟨fd, ⟨fun vs H Q h => size _ _ _ _ h, fun A outer s H us vs Q p hr pin e0 bd rel h => ?_⟩, D.bindsN bind, D.kp⟩
  obtain ⟨oc, od, dV, kV, doc, pm, an, cdv, ct, osl, rfl, look, code, _, _⟩ := D.ex
  have n1 := size _ _ _ _ h
  have inK : K.In s.heap := e0.mod.kin.keeps fun b o e => (e0.bs b o e).1
  have nolim : s.heap.NoLimit := e0.mod.nolimit.keeps fun b o e => (e0.bs b o e).1
  have kinds : ∀ y ∈ ps.zip us, (defScope st).names.lookup y.1 = some .local ∨
      ((defScope st).names.lookup y.1 = some .cell ∧ ((cellsFrom (s.heap.objs.size + 1) (defScope st).names []).lookup y.1).isSome = true) := by
    rintro ⟨n, v⟩ hy
    rcases S.par n (List.of_mem_zip hy).1 with q | q
    · exact .inl q
    · exact .inr ⟨q, PySem.W.cellsFrom_some _ _ _ (.inl q)⟩
  refine codeAny_call_function hr.depth (inK _ _ look) rfl S.co S.gen rfl (PySem.W.codeRec_of inK code) (bd _ _ _ _ ?_)
  refine wpAny_newFunctionEnv_cells S.kind kinds fun env he s1 x => ?_
  subst he
  refine ⟨nolim.keeps x.toInCall.keep, codeAny_func ?_⟩
  obtain ⟨t, ht, hq⟩ := body cdv A outer s H vs Q p (hr.deeper _) h
  have I := L2H.inv_startH (E := L2.E0) (CX := L2.CX0) (w := w) S pin e0 n1 rel x
  refine wpAny_mono (ht.run [] s1 _ H _ I hq) (fun fl s' hs => ?_) fun e s' hs => hs
  rcases fl with _ | _ | _ | u
  · obtain ⟨σ', H', J, q⟩ := hs
    exact ⟨.non, H', J.os, J.bare, J.base, J.hok, rfl, q⟩
  · obtain ⟨_, _, _, q⟩ := hs
    exact q.elim
  · obtain ⟨_, _, _, q⟩ := hs
    exact q.elim
  · obtain ⟨v, σ', H', J, rv, q⟩ := hs
    exact ⟨v, H', J.os, J.bare, J.base, J.hok, rv, q⟩
section
variable {X : Cx} {C : Addr} {m : Str} {pos apos : Pos} {e o : Expr} {es : List Expr} {ta : TE} {t : TA} {pl2 : Sem Bool}
/-- some object is held in the suite -/
def Held0 (X : Cx) : Prop := ∃ p : Addr × Obj, p ∈ X.pn
def tMethI (C : Addr) (m : Str) (sp : Sp) (ta : TE) (t : TA) : TE := fun σ H Q => ta σ H fun x H1 =>
  ∃ a dx fs, x = .ref a ∧ H1 a = some (.ins C dx fs) ∧ fs.lookup m = none ∧ t σ H1 fun vs H2 => sp (x :: vs) H2 Q L2.E0
theorem run_I {pins : List (Addr × Obj)} {σ : L2.St} {H : Hp} {s : Shared} {Q : VK} {us : List Value} {vs : List V}
    (c : CallI X.prog X.w X.K X.mg X.base k f ps sp) (hr : L2H.RoomH k X.A) (hp : Held0 X)
    (I : Inv X pins σ H s) (r : Vals vs us) (h : sp vs H Q L2.E0) : wpAny (model X.prog X.w) X.A (call (.ref f) us) (EP X pins σ Q) X.xe s := by
  obtain ⟨fd, F, hb, hk⟩ := c
  obtain ⟨p, hp⟩ := hp
  have n1 : us.length = ps.length := r.length.symm.trans (F.size _ _ _ h)
  have b := hb s us I.kIn (by rw [List.append_nil]; exact n1)
  rw [List.append_nil] at b
  obtain ⟨q1, q2, q3, q4, q5⟩ := I.pin p (List.mem_append_left _ hp)
  have pin : L2H.PinOk X.stack H s p := ⟨q1, q2, fun z => (List.mem_cons.mp (I.stkSub p.1 z)).elim q3 q4, q5⟩
  refine wpAny_call (codeAny_mono (F.go X.A X.stack s H us vs Q p hr pin I.env0 b r h) fun z s' hz => ?_)
  rcases z with e | fl
  · exact hz.elim
  · rcases fl with _ | _ | _ | u
    · exact hz.elim
    · exact hz.elim
    · exact hz.elim
    · exact I.after hz
/-- o.m(e, ..) there -/
theorem pe_mtI (he : PE X o ta) (cl : Cls X.K C) (hm : Meth X.K C m f) (c : CallI X.prog X.w X.K X.mg X.base k f ps sp)
    (hr : L2H.RoomH k X.A) (hp : Held0 X) (ha : PA X (e :: es) t)
    (hst : starEach (e :: es) X.env = (false, eval e X.env) :: starEach es X.env := by rfl) (hpl : (backTo pos (starEach es X.env)).any (·.1) = false := by rfl)
    (ht : eval (.Call (.Attribute o m apos) (e :: es) [] pos) X.env = (do
      let ov ← eval o X.env
      standAt apos.atName
      let (f, first) ← holding [ov] (getMethod ov m pl2)
      callWith pos f first (backTo pos (starEach (e :: es) X.env)) (backToKw pos (keywordEach [] X.env))) := by rfl) :
    PE X (.Call (.Attribute o m apos) (e :: es) [] pos) (tMethI C m sp ta t) := by
  refine ⟨fun pins s σ H Q I h => ?_⟩
  refine PySem.W.methodCall_KW (pl := pl2) (thn (he.run pins s σ H _ I h) fun u s1 ⟨x, H1, I1, rx, a, dx, fs, ex, ea, nf, q⟩ => ?_) ht
  subst ex
  obtain rfl : u = Value.ref a := rx
  refine getmeth_ok I1 ea cl hm nf ?_
  refine PySem.W.callWith_K (first := [.ref a]) (h₀ := X.base) I.ok.mod.kin hm.kp (thn (ha.run pos pins s1 σ H1 _ I1 q) fun us s2 ⟨vs, H2, I2, r, q2⟩ => ⟨I2.kIn, ?_⟩) hst hpl
  exact run_I (us := .ref a :: us) (vs := .ref a :: vs) c hr hp I2 (.cons rfl r) q2
/-- o.m() there -/
theorem pe_mtI0 (he : PE X o ta) (cl : Cls X.K C) (hm : Meth X.K C m f) (c : CallI X.prog X.w X.K X.mg X.base k f ps sp)
    (hr : L2H.RoomH k X.A) (hp : Held0 X)
    (ht : eval (.Call (.Attribute o m apos) [] [] pos) X.env = (do
      let ov ← eval o X.env
      standAt apos.atName
      let (f, first) ← holding [ov] (getMethod ov m pl2)
      callWith pos f first (backTo pos (starEach [] X.env)) (backToKw pos (keywordEach [] X.env))) := by rfl) :
    PE X (.Call (.Attribute o m apos) [] [] pos) (tMethI C m sp ta tNil) := by
  refine ⟨fun pins s σ H Q I h => ?_⟩
  refine PySem.W.methodCall_KW (pl := pl2) (thn (he.run pins s σ H _ I h) fun u s1 ⟨x, H1, I1, rx, a, dx, fs, ex, ea, nf, q⟩ => ?_) ht
  subst ex
  obtain rfl : u = Value.ref a := rx
  refine getmeth_ok I1 ea cl hm nf ?_
  exact PySem.W.callWith_K0 (first := [.ref a]) I1.kIn hm.kp (run_I (us := [.ref a]) (vs := [.ref a]) c hr hp I1 (.cons rfl .nil) q)
theorem held_of {X : Cx} {a : Addr} {oe : Obj} {pn : List (Addr × Obj)} : Held0 (X.suite a ((a, oe) :: pn)) := ⟨(a, oe), List.mem_cons_self⟩
theorem room_suite {X : Cx} {a : Addr} {pn : List (Addr × Obj)} (hr : Room k X.A) : L2H.RoomH k (X.suite a pn).A := ⟨hr.dp, hr.un⟩
end
end RI

set_option Elab.async false
set_option linter.all false
set_option maxRecDepth 100000
set_option maxHeartbeats 4000000
/-! Own errors raised where nothing is handled (their context is None), and raised anew in an except suite. -/
namespace RH
open PySem PySem.Spec PyProof.Rows L2 RC
/-- as RQ.CallX; an error that leaves has no context -/
def CallN (P : Program) (w : World) (K : PySem.W.Frag) (mg : Str → Option Value) (base : Heap) (k : Nat) (f : Addr) (ps : List Str) (dvs : List V) (sp : Sp) : Prop :=
  ∃ fd ds, FnOk P w K mg base (L2N.CX P w) k f fd ps sp ∧ Vals dvs ds ∧ Binds K fd ps ds ∧ PySem.W.keepIn K (.ref f) = true
theorem cx_weak {P : Program} {w : World} {o : List Env} {H : Hp} {s : Shared} {E : XK} {u : Value} {s' : Shared} (h : L2N.CX P w o H s E u s') : L2.CX P w o H s E u s' := by
  obtain ⟨a, B, H', cls, d, e, fl, r⟩ := h
  exact ⟨a, B, H', cls, d, e, L2H.flyingZ_imp (fun _ z => L2N.Zn.zc z) fl, r⟩
section
variable {P : Program} {w : World} {K : PySem.W.Frag} {mg : Str → Option Value} {base : Heap} {x qual : Str} {dvs : List V} {f : Addr} {k : Nat} {N ps : List Str} {sp : Sp}
theorem CallN.up {j : Nat} (c : CallN P w K mg base j f ps dvs sp) (h : j ≤ k) : CallN P w K mg base k f ps dvs sp :=
  let ⟨fd, ds, F, r⟩ := c
  ⟨fd, ds, F.mono h, r⟩
theorem fn_weak {fd : FuncData} (F : FnOk P w K mg base (L2N.CX P w) k f fd ps sp) : FnOk P w K mg base (L2.CX P w) k f fd ps sp := by
  refine ⟨F.len, fun A outer s H args us vs Q E hr e0 hb r h => codeAny_mono (F.run A outer s H args us vs Q E hr e0 hb r h) fun z s' hz => ?_⟩
  cases z with
  | error e => exact cx_weak hz
  | ok fl => cases fl <;> exact hz
theorem CallN.toX (c : CallN P w K mg base k f ps dvs sp) : RQ.CallX P w K mg base k f ps dvs sp :=
  let ⟨fd, ds, F, r⟩ := c
  ⟨fd, ds, fn_weak F, r⟩
theorem stands_callN0 {st : Stmt} (F : Stands K x qual st [] f) (S : FnScope N ps (defScope st)) (len : ∀ vs H Q E, sp vs H Q E → vs.length = ps.length)
    (body : ∀ (cdv : Value) (A : Around) (outer : List Env) (s : Shared) (H : Hp) (vs : List V) (Q : VK) (E : XK), Room k (A.deeper (envOfC qual (defScope st) s.heap.objs.size f cdv)) → sp vs H Q E →
      ∃ t, PSs (cxOf (L2N.CX P w) P w K mg base N qual (defScope st) f cdv A outer s H E) (defBody st) t ∧ t { nx := fun _ H' => Q .non H', rt := Q } (start N vs) H)
    (bind : ∀ (kV doc pm : Value) (an : Option Addr) (cdv ct : Value) (us : List Value), us.length = ps.length → bindArgs (PySem.W.fnOf x qual (defArgs st) (defBody st) (defScope st) .none kV doc pm an cdv ct) ⟨us, []⟩ = pure (ps.zip us)) :
    CallN P w K mg base (k + 1) f ps [] sp := by
  obtain ⟨fd, F⟩ := F
  have ok : FnOk P w K mg base (L2N.CX P w) (k + 1) f fd ps sp := F.ok S len fun cdv A outer s H vs Q E hr h => body cdv A outer s H vs Q E hr h
  exact ⟨fd, [], ok, .nil, F.bindsN bind, F.kp⟩
end
section
variable {X : Cx} {k : Nat} {f C : Addr} {ps : List Str} {sp : Sp} {dvs : List V} {x m fl : Str} {p pos pos2 apos : Pos} {e o : Expr} {es : List Expr} {ta : TE} {t : TA} {pl : Sem Bool} {W : WX}
/-- f(e, ..), where f may raise an error without context -/
theorem pe_fnN (tk : L2N.Takes X W) (hm : X.mg x = some (.ref f)) (c : CallN X.prog X.w X.K X.mg X.base k f ps dvs sp) (hr : Room k X.A) (hg : Gl X x) (ha : PA X (e :: es) t) (hdb : (x == ("__debug__" : Str)) = false := by decide)
    (he : starEach (e :: es) X.env = (false, eval e X.env) :: starEach es X.env := by rfl) (hpl : (backTo pos (starEach es X.env)).any (·.1) = false := by rfl) : PE X (.Call (.Name x p) (e :: es) [] pos) (tCallSD sp dvs (WE W) t) := by
  obtain ⟨fd, ds, F, hd, hb, hk⟩ := c
  exact pe_callSD F hr hg hm hk hb hd (fun σ => L2N.passAt tk σ) ha hdb he hpl
theorem pe_mtN (tk : L2N.Takes X W) (cl : Cls X.K C) (hm : Meth X.K C m f) (c : CallN X.prog X.w X.K X.mg X.base k f ps dvs sp) (hr : Room k X.A) (he : PE X o ta) (ha : PA X (e :: es) t)
    (hst : starEach (e :: es) X.env = (false, eval e X.env) :: starEach es X.env := by rfl) (hpl : (backTo pos (starEach es X.env)).any (·.1) = false := by rfl)
    (ht : eval (.Call (.Attribute o m apos) (e :: es) [] pos) X.env = (do
      let ov ← eval o X.env
      standAt apos.atName
      let (f, first) ← holding [ov] (getMethod ov m pl)
      callWith pos f first (backTo pos (starEach (e :: es) X.env)) (backToKw pos (keywordEach [] X.env))) := by rfl) :
    PE X (.Call (.Attribute o m apos) (e :: es) [] pos) (RQ.tMethX C m sp dvs (WE W) ta t) := by
  obtain ⟨fd, ds, F, hd, hb, hk⟩ := c
  refine ⟨fun pins s σ H Q I h => ?_⟩
  refine PySem.W.methodCall_KW (pl := pl) (thn (he.run pins s σ H _ I h) fun u s1 ⟨z, H1, I1, rz, a, dx, fs, ez, ea, l, q⟩ => ?_) ht
  subst ez
  obtain rfl : u = Value.ref a := rz
  refine getmeth_ok I1 ea cl hm l ?_
  refine PySem.W.callWith_K (first := [.ref a]) (h₀ := X.base) I.ok.mod.kin hm.kp (thn (ha.run pos pins s1 σ H1 _ I1 q) fun us s2 ⟨ws, H2, I2, r, q2⟩ => ⟨I2.kIn, ?_⟩) hst hpl
  exact run_fnSD (us := .ref a :: us) (vs := .ref a :: ws) F hr hb hd (L2N.passAt tk σ) I2 (.cons rfl r) q2
theorem pe_mtN0 (tk : L2N.Takes X W) (cl : Cls X.K C) (hm : Meth X.K C m f) (c : CallN X.prog X.w X.K X.mg X.base k f ps dvs sp) (hr : Room k X.A) (he : PE X o ta)
    (ht : eval (.Call (.Attribute o m apos) [] [] pos) X.env = (do
      let ov ← eval o X.env
      standAt apos.atName
      let (f, first) ← holding [ov] (getMethod ov m pl)
      callWith pos f first (backTo pos (starEach [] X.env)) (backToKw pos (keywordEach [] X.env))) := by rfl) :
    PE X (.Call (.Attribute o m apos) [] [] pos) (RQ.tMethX C m sp dvs (WE W) ta tNil) := by
  obtain ⟨fd, ds, F, hd, hb, hk⟩ := c
  refine ⟨fun pins s σ H Q I h => ?_⟩
  refine PySem.W.methodCall_KW (pl := pl) (thn (he.run pins s σ H _ I h) fun u s1 ⟨z, H1, I1, rz, a, dx, fs, ez, ea, l, q⟩ => ?_) ht
  subst ez
  obtain rfl : u = Value.ref a := rz
  refine getmeth_ok I1 ea cl hm l ?_
  exact PySem.W.callWith_K0 (first := [.ref a]) I1.kIn hm.kp (run_fnSD (us := [.ref a]) (vs := [.ref a]) F hr hb hd (L2N.passAt tk σ) I1 (.cons rfl .nil) q)
theorem pe_mtX0 (tk : Takes X W) (cl : Cls X.K C) (hm : Meth X.K C m f) (c : RQ.CallX X.prog X.w X.K X.mg X.base k f ps dvs sp) (hr : Room k X.A) (he : PE X o ta)
    (ht : eval (.Call (.Attribute o m apos) [] [] pos) X.env = (do
      let ov ← eval o X.env
      standAt apos.atName
      let (f, first) ← holding [ov] (getMethod ov m pl)
      callWith pos f first (backTo pos (starEach [] X.env)) (backToKw pos (keywordEach [] X.env))) := by rfl) :
    PE X (.Call (.Attribute o m apos) [] [] pos) (RQ.tMethX C m sp dvs (WE W) ta tNil) := by
  obtain ⟨fd, ds, F, hd, hb, hk⟩ := c
  refine ⟨fun pins s σ H Q I h => ?_⟩
  refine PySem.W.methodCall_KW (pl := pl) (thn (he.run pins s σ H _ I h) fun u s1 ⟨z, H1, I1, rz, a, dx, fs, ez, ea, l, q⟩ => ?_) ht
  subst ez
  obtain rfl : u = Value.ref a := rz
  refine getmeth_ok I1 ea cl hm l ?_
  exact PySem.W.callWith_K0 (first := [.ref a]) I1.kIn hm.kp (run_fnSD (us := [.ref a]) (vs := [.ref a]) F hr hb hd (passAt tk σ) I1 (.cons rfl .nil) q)
/-- C(e) of an own error, made where nothing is handled: no context -/
theorem pmk_excN (T : RB.ExcF X.K C fl) (c : Callable X.prog X.w X.K X.mg X.base k (He.ma X.K C "__init__") ps [] (RQ.spExcInit X.K fl)) (hr : Room (k + 1) X.A) (hm : X.mg x = some (.ref C)) (hg : Gl X x) (ha : PA X [e] t)
    (hdb : (x == ("__debug__" : Str)) = false := by decide) (he : starEach (e :: []) X.env = (false, eval e X.env) :: starEach [] X.env := by rfl) (hpl : (backTo pos (starEach [] X.env)).any (·.1) = false := by rfl) :
    L2N.PMk X (.Call (.Name x p) [e] [] pos) (RQ.tMkE C fl t) := by
  obtain ⟨fd, ds, Fi, hd, hb, hk⟩ := c
  cases hd
  intro pins s0 σ0 H0 Q0 I0 h0
  have ox := T.ox
  obtain ⟨nm, qn, N, bs, bm, sn, sub, ab, col, dd, j0, j1, j2, j3, j5, jC, jB⟩ := ox.cls
  refine wpAny_Call_Name_kw (ld_glob I0 hg hm ?_ hdb)
  refine PySem.W.callWith_K (h₀ := X.base) I0.ok.mod.kin ox.kC (thn (ha.run pos pins s0 σ0 H0 _ I0 h0) fun us sA ⟨vs, HA, IA, rA, qA⟩ => ⟨IA.kIn, ?_⟩) he hpl
  show wpAny _ _ (call (.ref C) us) _ _ _
  obtain ⟨big, first⟩ := RQ.mkE_of T qA
  obtain ⟨hp, gs, dr, tks, os⟩ := sA
  generalize eN : hp.objs.size + 1 = nw
  have up : hp.objs.size ≤ nw := eN ▸ Nat.le_succ _
  have free : HA nw = none := IA.hok.fresh up
  have wish := first nw free
  have keep : ∀ b u, hp.get? b = some u → ((hp.push (PySem.W.kdv_tup us)).push (PySem.HandSPX.excO C hp.objs.size)).get? b = some u := fun b u z => Heap.get?_push_of_some _ (Heap.get?_push_of_some _ z)
  have there : ((hp.push (PySem.W.kdv_tup us)).push (PySem.HandSPX.excO C hp.objs.size)).get? nw = some (PySem.HandSPX.excO C hp.objs.size) := by rw [← eN]; heap_get
  have IB : Inv X pins σ0 (upd HA nw (exo nw C none)) ⟨(hp.push (PySem.W.kdv_tup us)).push (PySem.HandSPX.excO C hp.objs.size), gs, dr, tks, os⟩ := IA.laid keep up (exo_ok there)
  have relB : Vals (V.ref nw :: (vs ++ [])) (Value.ref nw :: us) := .cons rfl (by rw [List.append_nil]; exact rA)
  have lenB : (Value.ref nw :: us).length = ps.length := relB.length.symm.trans (Fi.len _ _ _ _ wish)
  have few : us.length ≤ sizeLine := by rw [← Paired.length rA, sizeLine_eq]; omega
  have bindB := hb _ (Value.ref nw :: us) IB.kIn (by rw [List.append_nil]; exact lenB)
  rw [List.append_nil] at bindB
  have call : wpAny (model X.prog X.w) X.A (call (.ref C) us) (L2N.MkP X pins σ0 Q0) X.xe ⟨hp, gs, dr, tks, os⟩ := by
    refine wpAny_call (PySem.HandSPX.call_own F.excBase_ValueError (fun Y => PySem.HandSPX.refsVE_contains Y bm jB) (IA.kIn _ _ jC) (PySem.W.looks_findIn IA.kIn T.ini) (fun self => PySem.W.bind_fn IA.kIn self T.ty) few ?_)
    rw [eN]
    refine codeAny_mono (Fi.run _ X.stack _ _ ⟨Value.ref nw :: us, []⟩ _ _ _ (fun _ _ _ => False) (hr.make C us []) (IB.env0.make C us []) bindB relB wish) fun z sZ hz => ?_
    cases z with
    | error er => exact pass0 pins σ0 _ _ er sZ IB hz
    | ok flw =>
      cases flw with
      | next => exact hz.elim
      | brk => exact hz.elim
      | cont => exact hz.elim
      | ret u =>
        obtain ⟨v, HB, osB, bareB, unB, hokB, rv, ev, d, fs, ea, ed, hd1, qB⟩ := hz
        subst ev
        obtain ⟨hB, gB, dB, tB, osZ⟩ := sZ
        obtain ⟨t0, G, J, kG, ge, hoe, na⟩ := mk_end0 (d2 := dB) (t2 := tB) IA up keep unB hokB osB bareB ea ed hd1
        exact ⟨rv, nw, _, _, ⟨G, gB, dB, tB, osZ⟩, _, .ref C, some d, rfl, J, kG, ge, hoe, ⟨rfl, rfl, fun ws hw => by cases hw; rfl⟩, rfl, rfl, na, rfl, bareB, raises_own ox.exC ox.tyC, qB⟩
  exact call
theorem ps_excN (hc : X.calm = true) (tk : L2N.Takes X W) (T : RB.ExcF X.K C fl) (c : Callable X.prog X.w X.K X.mg X.base k (He.ma X.K C "__init__") ps [] (RQ.spExcInit X.K fl)) (hr : Room (k + 1) X.A) (hm : X.mg x = some (.ref C)) (hg : Gl X x) (ha : PA X [e] t)
    (hdb : (x == ("__debug__" : Str)) = false := by decide) (he : starEach (e :: []) X.env = (false, eval e X.env) :: starEach [] X.env := by rfl) (hpl : (backTo pos (starEach [] X.env)).any (·.1) = false := by rfl) :
    PS X (.Raise (some (.Call (.Name x p) [e] [] pos)) none pos2) (RQ.tExc C fl W t) := L2N.ps_raise hc tk (pmk_excN T c hr hm hg ha hdb he hpl)
end
section
variable {P : Program} {w : World} {K : PySem.W.Frag} {mg : Str → Option Value} {base : Heap} {nm qual : Str} {f : Addr} {k : Nat} {N ps : List Str} {sp : Sp}
/-- an error's __init__, called while another error is handled -/
def InitH (P : Program) (w : World) (K : PySem.W.Frag) (mg : Str → Option Value) (base : Heap) (k : Nat) (f : Addr) (ps : List Str) (sp : Sp) : Prop :=
  ∃ fd, L2H.FnH P w K mg base CX0 k f fd ps sp ∧ Binds K fd ps [] ∧ PySem.W.keepIn K (.ref f) = true
theorem stands_initH {st : Stmt} (F : Stands K nm qual st [] f) (S : FnScope N ps (defScope st)) (size : ∀ vs H Q E, sp vs H Q E → vs.length = ps.length)
    (body : ∀ (cdv : Value) (A : Around) (outer : List Env) (s : Shared) (H : Hp) (vs : List V) (Q : VK) (E : XK) (p : Addr × Obj), L2H.RoomH k (A.deeper (envOfC qual (defScope st) s.heap.objs.size f cdv)) → sp vs H Q E →
      ∃ t, PSs (L2H.cxH CX0 P w K mg base N qual (defScope st) f cdv A outer s H E p) (defBody st) t ∧ t { nx := fun _ H' => Q .non H', rt := Q } (L2.start N vs) H)
    (bind : ∀ (kV doc pm : Value) (an : Option Addr) (cdv ct : Value) (us : List Value), us.length = ps.length → bindArgs (PySem.W.fnOf nm qual (defArgs st) (defBody st) (defScope st) .none kV doc pm an cdv ct) ⟨us, []⟩ = pure (ps.zip us)) :
    InitH P w K mg base (k + 1) f ps sp := by
  obtain ⟨fd, D⟩ := F
  obtain ⟨oc, od, dV, kV, doc, pm, an, cdv, ct, osl, rfl, look, code, _, _⟩ := D.ex
  exact ⟨_, L2H.fn_ofH look code S size fun A outer s H vs Q E p _ hr h => body cdv A outer s H vs Q E p hr h, D.bindsN bind, D.kp⟩
end
section
variable {X : Cx} {k : Nat} {C : Addr} {ps : List Str} {x fl : Str} {p pos pos2 : Pos} {e : Expr} {t : TA} {W : WX}
theorem pmk_excH (T : RB.ExcF X.K C fl) (c : InitH X.prog X.w X.K X.mg X.base k (He.ma X.K C "__init__") ps (RQ.spExcInit X.K fl)) (hr : L2H.RoomH (k + 1) X.A) (hot : L2H.HotC X) (hm : X.mg x = some (.ref C)) (hg : Gl X x) (ha : PA X [e] t)
    (hdb : (x == ("__debug__" : Str)) = false := by decide) (he : starEach (e :: []) X.env = (false, eval e X.env) :: starEach [] X.env := by rfl) (hpl : (backTo pos (starEach [] X.env)).any (·.1) = false := by rfl) :
    L2N.PMk X (.Call (.Name x p) [e] [] pos) (RQ.tMkE C fl t) := by
  obtain ⟨fd, Fi, hb, hk⟩ := c
  intro pins s σ H Q I h
  have both : PA X [e] (fun σ0 H0 K0 => t σ0 H0 (fun vs H1 => ∃ v, vs = [v] ∧ ∀ d, H1 d = none → Q (.ref C) (some d) (upd H1 d (.xd [(fl, v)]))) ∧
      ∀ vs H1, (∃ v, vs = [v] ∧ ∀ d, H1 d = none → Q (.ref C) (some d) (upd H1 d (.xd [(fl, v)]))) → K0 vs H1) := ⟨fun pos0 pins0 s0 σ0 H0 K0 I0 h0 =>
    wpAny_mono (ha.run pos0 pins0 s0 σ0 H0 _ I0 h0.1) (fun us s1 ⟨vs, H1, I1, r1, q1⟩ => ⟨vs, H1, I1, r1, h0.2 vs H1 q1⟩) (fun _ _ z => z)⟩
  exact (L2H.pmk5_oexH (x := x) (p := p) (pos := pos) T.ox T.ini T.ty Fi hr hot hb pass0 hg hm both hdb he hpl).pmk pins s σ H Q I ⟨h, fun vs H1 q => RQ.mkE_of T q⟩
/-- raise C(e) in an except suite -/
theorem ps_excH (hot : L2H.HotC X) (tk : L2.Takes X W) (T : RB.ExcF X.K C fl) (c : InitH X.prog X.w X.K X.mg X.base k (He.ma X.K C "__init__") ps (RQ.spExcInit X.K fl)) (hr : L2H.RoomH (k + 1) X.A) (hm : X.mg x = some (.ref C)) (hg : Gl X x) (ha : PA X [e] t)
    (hdb : (x == ("__debug__" : Str)) = false := by decide) (he : starEach (e :: []) X.env = (false, eval e X.env) :: starEach [] X.env := by rfl) (hpl : (backTo pos (starEach [] X.env)).any (·.1) = false := by rfl) :
    PS X (.Raise (some (.Call (.Name x p) [e] [] pos)) none pos2) (RQ.tExc C fl W t) := L2H.ps_raiseH hot tk (pmk_excH T c hr hot hm hg ha hdb he hpl)
end
end RH

set_option Elab.async false
set_option linter.all false
set_option maxRecDepth 100000
set_option maxHeartbeats 4000000
/-! Methods and raising defs that are called where no guard stands. -/
namespace RGm
open PySem PySem.Spec PyProof.Rows L2 RC RGd
/-- as CallG, where an error may leave the def -/
def CallXG (P : Program) (w : World) (K : PySem.W.Frag) (mg : Str → Option Value) (base : Heap) (k : Nat) (f : Addr) (ps : List Str) (sp : Sp) : Prop :=
  ∃ fd, FnG P w K mg base (L2.CX P w) k f fd ps sp ∧ Binds K fd ps [] ∧ PySem.W.keepIn K (.ref f) = true
section
variable {P : Program} {w : World} {K : PySem.W.Frag} {mg : Str → Option Value} {base : Heap} {x qual : Str} {f : Addr} {fd : FuncData} {k : Nat} {N ps : List Str} {sp : Sp}
theorem stands_callXG0 {st : Stmt} (F : Stands K x qual st [] f) (S : FnScope N ps (defScope st)) (size : ∀ vs H Q E, sp vs H Q E → vs.length = ps.length)
    (text : ∀ (cdv : Value) (A : Around) (outer : List Env) (s : Shared) (H : Hp) (vs : List V) (Q : VK) (E : XK), Room k (A.deeper (envOfC qual (defScope st) s.heap.objs.size f cdv)) → (A.deeper (envOfC qual (defScope st) s.heap.objs.size f cdv)).guards = some [] → sp vs H Q E →
      ∃ t, PSs (cxOf (L2.CX P w) P w K mg base N qual (defScope st) f cdv A outer s H E) (defBody st) t ∧ t { nx := fun _ H' => Q .non H', rt := Q } (L2.start N vs) H)
    (bind : ∀ (kV doc pm : Value) (an : Option Addr) (cdv ct : Value) (us : List Value), us.length = ps.length → bindArgs (PySem.W.fnOf x qual (defArgs st) (defBody st) (defScope st) .none kV doc pm an cdv ct) ⟨us, []⟩ = pure (ps.zip us)) :
    CallXG P w K mg base (k + 1) f ps sp := by
  obtain ⟨fd, F⟩ := F
  exact ⟨fd, fnG F S size fun cdv A outer s H vs Q E hr gd h => text cdv A outer s H vs Q E hr gd h, F.bindsN bind, F.kp⟩
theorem FnG.mono {CX : CXT} {j : Nat} (F : FnG P w K mg base CX j f fd ps sp) (h : j ≤ k) : FnG P w K mg base CX k f fd ps sp :=
  ⟨F.size, fun A st s H us vs Q E hr => F.go A st s H us vs Q E (hr.mono h)⟩
theorem CallXG.up {j : Nat} (c : CallXG P w K mg base j f ps sp) (h : j ≤ k) : CallXG P w K mg base k f ps sp :=
  let ⟨fd, F, r⟩ := c
  ⟨fd, FnG.mono F h, r⟩
theorem callG_up {j : Nat} (c : CallG P w K mg base j f ps sp) (h : j ≤ k) : CallG P w K mg base k f ps sp :=
  let ⟨fd, F, r⟩ := c
  ⟨fd, FnG.mono F h, r⟩
end
section
variable {X : Cx} {k : Nat} {f C : Addr} {ps : List Str} {sp : Sp} {x m : Str} {p pos apos : Pos} {e o : Expr} {es : List Expr} {ta : TE} {t : TA} {pl : Sem Bool} {W : WX}
theorem run_fnG {CX : CXT} {fd : FuncData} {E : L2.St → XK} {pins : List (Addr × Obj)} {σ : L2.St} {H : Hp} {s : Shared} {Q : VK} {us : List Value} {vs : List V} (F : FnG X.prog X.w X.K X.mg X.base CX k f fd ps sp) (hr : Room k X.A) (gd : X.A.guards = some []) (hb : Binds X.K fd ps []) (hx : PassesAt CX X σ (E σ))
    (I : Inv X pins σ H s) (r : Vals vs us) (h : sp (vs ++ []) H Q (E σ)) : wpAny (model X.prog X.w) X.A (call (.ref f) us) (EP X pins σ Q) X.xe s := by
  rw [List.append_nil] at h
  have n1 : us.length = ps.length := r.length.symm.trans (F.size _ _ _ _ h)
  have b := hb s us I.kIn (by rw [List.append_nil]; exact n1)
  rw [List.append_nil] at b
  refine wpAny_call (codeAny_mono (F.go X.A X.stack s H us vs Q (E σ) hr gd I.env0 b r h) fun z s' hz => ?_)
  rcases z with er | fl
  · exact hx pins H s er s' I hz
  · cases fl with
    | ret u => exact I.after hz
    | next => exact hz.elim
    | brk => exact hz.elim
    | cont => exact hz.elim
theorem pass0At {σ : L2.St} : PassesAt CX0 X σ E0 := fun pins H s e s' I h => pass0 pins σ H s e s' I h
/-- o.m(e, ..) where no guard stands -/
theorem pe_mtG (gd : X.A.guards = some []) (cl : Cls X.K C) (hm : Meth X.K C m f) (c : CallG X.prog X.w X.K X.mg X.base k f ps sp) (hr : Room k X.A) (he : PE X o ta) (ha : PA X (e :: es) t)
    (hst : starEach (e :: es) X.env = (false, eval e X.env) :: starEach es X.env := by rfl) (hpl : (backTo pos (starEach es X.env)).any (·.1) = false := by rfl)
    (ht : eval (.Call (.Attribute o m apos) (e :: es) [] pos) X.env = (do
      let ov ← eval o X.env
      standAt apos.atName
      let (f, first) ← holding [ov] (getMethod ov m pl)
      callWith pos f first (backTo pos (starEach (e :: es) X.env)) (backToKw pos (keywordEach [] X.env))) := by rfl) :
    PE X (.Call (.Attribute o m apos) (e :: es) [] pos) (tMeth C m sp [] E0 ta t) := by
  obtain ⟨fd, F, hb, hk⟩ := c
  refine ⟨fun pins s σ H Q I h => ?_⟩
  refine PySem.W.methodCall_KW (pl := pl) (thn (he.run pins s σ H _ I h) fun u s1 ⟨z, H1, I1, rz, a, dx, fs, ez, ea, l, q⟩ => ?_) ht
  subst ez
  obtain rfl : u = Value.ref a := rz
  refine getmeth_ok I1 ea cl hm l ?_
  refine PySem.W.callWith_K (first := [.ref a]) (h₀ := X.base) I.ok.mod.kin hm.kp (thn (ha.run pos pins s1 σ H1 _ I1 q) fun us s2 ⟨ws, H2, I2, r, q2⟩ => ⟨I2.kIn, ?_⟩) hst hpl
  exact run_fnG (E := fun _ => E0) (us := .ref a :: us) (vs := .ref a :: ws) F hr gd hb pass0At I2 (.cons rfl r) q2
theorem pe_mtG0 (gd : X.A.guards = some []) (cl : Cls X.K C) (hm : Meth X.K C m f) (c : CallG X.prog X.w X.K X.mg X.base k f ps sp) (hr : Room k X.A) (he : PE X o ta)
    (ht : eval (.Call (.Attribute o m apos) [] [] pos) X.env = (do
      let ov ← eval o X.env
      standAt apos.atName
      let (f, first) ← holding [ov] (getMethod ov m pl)
      callWith pos f first (backTo pos (starEach [] X.env)) (backToKw pos (keywordEach [] X.env))) := by rfl) :
    PE X (.Call (.Attribute o m apos) [] [] pos) (tMeth C m sp [] E0 ta tNil) := by
  obtain ⟨fd, F, hb, hk⟩ := c
  refine ⟨fun pins s σ H Q I h => ?_⟩
  refine PySem.W.methodCall_KW (pl := pl) (thn (he.run pins s σ H _ I h) fun u s1 ⟨z, H1, I1, rz, a, dx, fs, ez, ea, l, q⟩ => ?_) ht
  subst ez
  obtain rfl : u = Value.ref a := rz
  refine getmeth_ok I1 ea cl hm l ?_
  exact PySem.W.callWith_K0 (first := [.ref a]) I1.kIn hm.kp (run_fnG (E := fun _ => E0) (us := [.ref a]) (vs := [.ref a]) F hr gd hb pass0At I1 (.cons rfl .nil) q)
/-- f(e, ..), o.m(e, ..), o.m(), which may raise, where no guard stands -/
theorem pe_fnXG (gd : X.A.guards = some []) (tk : Takes X W) (hm : X.mg x = some (.ref f)) (c : CallXG X.prog X.w X.K X.mg X.base k f ps sp) (hr : Room k X.A) (hg : Gl X x) (ha : PA X (e :: es) t) (hdb : (x == ("__debug__" : Str)) = false := by decide)
    (he : starEach (e :: es) X.env = (false, eval e X.env) :: starEach es X.env := by rfl) (hpl : (backTo pos (starEach es X.env)).any (·.1) = false := by rfl) : PE X (.Call (.Name x p) (e :: es) [] pos) (tCallSD sp [] (WE W) t) := by
  obtain ⟨fd, F, hb, hk⟩ := c
  refine ⟨fun pins s σ H Q I h => ?_⟩
  refine wpAny_Call_Name_kw (ld_glob I hg hm ?_ hdb)
  refine PySem.W.callWith_K (h₀ := X.base) I.ok.mod.kin hk (thn (ha.run pos pins s σ H _ I h) fun us s1 ⟨vs, H1, I1, r, q⟩ => ⟨I1.kIn, ?_⟩) he hpl
  exact run_fnG (E := WE W) F hr gd hb (passAt tk σ) I1 r q
theorem pe_mtXG (gd : X.A.guards = some []) (tk : Takes X W) (cl : Cls X.K C) (hm : Meth X.K C m f) (c : CallXG X.prog X.w X.K X.mg X.base k f ps sp) (hr : Room k X.A) (he : PE X o ta) (ha : PA X (e :: es) t)
    (hst : starEach (e :: es) X.env = (false, eval e X.env) :: starEach es X.env := by rfl) (hpl : (backTo pos (starEach es X.env)).any (·.1) = false := by rfl)
    (ht : eval (.Call (.Attribute o m apos) (e :: es) [] pos) X.env = (do
      let ov ← eval o X.env
      standAt apos.atName
      let (f, first) ← holding [ov] (getMethod ov m pl)
      callWith pos f first (backTo pos (starEach (e :: es) X.env)) (backToKw pos (keywordEach [] X.env))) := by rfl) :
    PE X (.Call (.Attribute o m apos) (e :: es) [] pos) (RQ.tMethX C m sp [] (WE W) ta t) := by
  obtain ⟨fd, F, hb, hk⟩ := c
  refine ⟨fun pins s σ H Q I h => ?_⟩
  refine PySem.W.methodCall_KW (pl := pl) (thn (he.run pins s σ H _ I h) fun u s1 ⟨z, H1, I1, rz, a, dx, fs, ez, ea, l, q⟩ => ?_) ht
  subst ez
  obtain rfl : u = Value.ref a := rz
  refine getmeth_ok I1 ea cl hm l ?_
  refine PySem.W.callWith_K (first := [.ref a]) (h₀ := X.base) I.ok.mod.kin hm.kp (thn (ha.run pos pins s1 σ H1 _ I1 q) fun us s2 ⟨ws, H2, I2, r, q2⟩ => ⟨I2.kIn, ?_⟩) hst hpl
  exact run_fnG (E := WE W) (us := .ref a :: us) (vs := .ref a :: ws) F hr gd hb (passAt tk σ) I2 (.cons rfl r) q2
theorem pe_mtXG0 (gd : X.A.guards = some []) (tk : Takes X W) (cl : Cls X.K C) (hm : Meth X.K C m f) (c : CallXG X.prog X.w X.K X.mg X.base k f ps sp) (hr : Room k X.A) (he : PE X o ta)
    (ht : eval (.Call (.Attribute o m apos) [] [] pos) X.env = (do
      let ov ← eval o X.env
      standAt apos.atName
      let (f, first) ← holding [ov] (getMethod ov m pl)
      callWith pos f first (backTo pos (starEach [] X.env)) (backToKw pos (keywordEach [] X.env))) := by rfl) :
    PE X (.Call (.Attribute o m apos) [] [] pos) (RQ.tMethX C m sp [] (WE W) ta tNil) := by
  obtain ⟨fd, F, hb, hk⟩ := c
  refine ⟨fun pins s σ H Q I h => ?_⟩
  refine PySem.W.methodCall_KW (pl := pl) (thn (he.run pins s σ H _ I h) fun u s1 ⟨z, H1, I1, rz, a, dx, fs, ez, ea, l, q⟩ => ?_) ht
  subst ez
  obtain rfl : u = Value.ref a := rz
  refine getmeth_ok I1 ea cl hm l ?_
  exact PySem.W.callWith_K0 (first := [.ref a]) I1.kIn hm.kp (run_fnG (E := WE W) (us := [.ref a]) (vs := [.ref a]) F hr gd hb (passAt tk σ) I1 (.cons rfl .nil) q)
end
theorem hu24 {k : Nat} {A : Around} (hr : Room k A) : A.units + 24 < cLine := by have := hr.un; omega
/-! ### str -/
/-- str of data -/
def strD : PyData → Str
  | .str x => x
  | d => d.shown
section
variable {X : Cx}
def rStrN (n : Nat) : List V → Hp → VK → Prop := fun xs H Q => ∃ v d, xs = [v] ∧ RNd.ND H n v d ∧ d.depth ≤ 20 ∧ d.showable = true ∧ d.shown.length ≤ sizeLine ∧ Q (.str (strD d)) H
theorem call_strN {n : Nat} (gd : X.A.guards = some []) (hun : X.A.units + 24 < cLine) : CallR X (.type "str") (rStrN n) := by
  intro pins s σ H xs us Q I r h
  obtain ⟨v, d, rfl, nd, dp, sh, sz, q⟩ := h
  obtain ⟨u, rfl, rv⟩ := vals1 r
  have fin : ∀ (h' : Heap) (tk : Tok) (t : Tok), strD d = d.shown → (∀ b o, s.heap.get? b = some o → h'.get? b = some o) → EP X pins σ Q (.str d.shown t) { s with heap := h', toks := tk } := fun h' tk t e hk =>
    ⟨.str d.shown, H, I.kept hk, ⟨t, rfl⟩, by rw [← e]; exact q⟩
  cases n with
  | zero => exact nd.elim
  | succ n =>
  cases v with
  | ref a =>
    obtain rfl : u = Value.ref a := rv
    have b : RNd.Bx s.heap a d := RNd.nd_bx I.hok (RNd.nd_gd I.hok n) nd
    have e : strD d = d.shown := by cases b <;> rfl
    obtain ⟨T, idr, S⟩ := RNd.bx_shows b sh sz
    refine callType_new F.called_str (by decide) (F.typeCall_str_1 _) (F.newCall_str_1 _) (fun obj => F.args_object_init_2 obj _) F.entry_str_new
      (meets_str_new (S := fun A' R s' => A'.guards = some [] ∧ A'.units + (d.depth + 2) < cLine ∧ (∀ b o, s.heap.get? b = some o → s'.heap.get? b = some o) ∧
          ∀ h' u tk, (∀ b o, s'.heap.get? b = some o → h'.get? b = some o) → R (.ok (.ret (.str d.shown u))) { s' with heap := h', toks := tk })
        fun prog' w' A' R s' h => ?_)
      ⟨gd, by show X.A.units + 1 + (d.depth + 2) < cLine; omega, fun _ _ z => z, fun h' u tk hk => ⟨typeIs_str _ _ _, fin h' tk u e hk⟩⟩
    obtain ⟨g1, g2, g3, g4⟩ := h
    exact wpAny_strOf_slot rfl (by show A'.units + 1 + 1 < cLine; omega) ((S prog' w').typeIs s' g3) (S prog' w').slotStr (S prog' w').slotRepr ((S prog' w').call A'.in1.in1 _ s' _ g1 (by show A'.units + 1 + 1 + d.depth < cLine; omega) g3 fun h' u tk hk => ⟨_, _, rfl, g4 h' u tk hk⟩)
  | non =>
    obtain rfl : u = Value.none := rv
    rcases nd with f | ⟨a', xs, ds, e, _⟩ | ⟨a', xs, ds, e, _⟩ | ⟨a', kvs, ds, e, _⟩
    · cases f
      exact PySem.P.str_of_none (fin s.heap (s.toks + 1) s.toks rfl fun _ _ z => z)
    · cases e
    · cases e
    · cases e
  | bl b =>
    obtain rfl : u = Value.bool b := rv
    rcases nd with f | ⟨a', xs, ds, e, _⟩ | ⟨a', xs, ds, e, _⟩ | ⟨a', kvs, ds, e, _⟩
    · cases f
      have := fin s.heap (s.toks + 1) s.toks rfl fun _ _ z => z
      rw [PyData.shown] at this
      exact PySem.P.str_of_bool this
    · cases e
    · cases e
    · cases e
  | int i =>
    obtain ⟨t, rfl⟩ := rv
    rcases nd with f | ⟨a', xs, ds, e, _⟩ | ⟨a', xs, ds, e, _⟩ | ⟨a', kvs, ds, e, _⟩
    · cases f
      have := fin s.heap (s.toks + 1) s.toks rfl fun _ _ z => z
      rw [PyData.shown] at this
      exact PySem.P.str_of_int (by simpa [PyData.showable] using sh) this
    · cases e
    · cases e
    · cases e
  | str x =>
    obtain ⟨t, rfl⟩ := rv
    rcases nd with f | ⟨a', xs, ds, e, _⟩ | ⟨a', xs, ds, e, _⟩ | ⟨a', kvs, ds, e, _⟩
    · cases f
      exact PySem.P.str_of_str ⟨.str x, H, I, ⟨t, rfl⟩, q⟩
    · cases e
    · cases e
    · cases e
  | _ =>
    rcases nd with f | ⟨a', xs, ds, e, _⟩ | ⟨a', xs, ds, e, _⟩ | ⟨a', kvs, ds, e, _⟩
    · cases f
    · cases e
    · cases e
    · cases e
/-- repr(v) -/
def rReprN (n : Nat) : List V → Hp → VK → Prop := fun xs H Q => ∃ v d, xs = [v] ∧ RNd.ND H n v d ∧ d.depth ≤ 20 ∧ d.showable = true ∧ d.shown.length ≤ sizeLine ∧ Q (.str d.shown) H
theorem call_reprN {n : Nat} (gd : X.A.guards = some []) (hun : X.A.units + 24 < cLine) : CallR X (.builtin "repr") (rReprN n) := by
  intro pins s σ H xs us Q I r h
  obtain ⟨v, d, rfl, nd, dp, sh, sz, q⟩ := h
  obtain ⟨u, rfl, rv⟩ := vals1 r
  cases n with
  | zero => exact nd.elim
  | succ n =>
  by_cases hv : ∃ a, v = .ref a
  · obtain ⟨a, rfl⟩ := hv
    obtain rfl : u = Value.ref a := rv
    have b : RNd.Bx s.heap a d := RNd.nd_bx I.hok (RNd.nd_gd I.hok n) nd
    obtain ⟨T, idr, S⟩ := RNd.bx_shows b sh sz
    have S := S X.prog X.w
    exact call_repr_slot (by omega) (S.typeIs s fun _ _ z => z) S.slotRepr (S.call X.A.in1 _ s _ gd (by show X.A.units + 1 + d.depth < cLine; omega) (fun _ _ z => z) fun h' u tk hk => ⟨_, _, rfl, ⟨.str d.shown, H, I.kept hk, ⟨_, rfl⟩, q⟩⟩)
  · rcases nd with f | ⟨a', xs, ds, e, _⟩ | ⟨a', xs, ds, e, _⟩ | ⟨a', kvs, ds, e, _⟩
    · exact RGd.call_repr_dat gd (by omega) pins s σ H [v] [u] Q I r ⟨v, d, rfl, .flat f, sh, sz, q⟩
    · exact absurd ⟨a', e⟩ hv
    · exact absurd ⟨a', e⟩ hv
    · exact absurd ⟨a', e⟩ hv
end
end RGm

set_option Elab.async false
set_option linter.all false
set_option maxRecDepth 100000
set_option maxHeartbeats 4000000
/-! Defs that are called where no guard stands, whose errors have no context. -/
namespace RGn
open PySem PySem.Spec PyProof.Rows L2 RC RGd RGm
/-- as CallXG; an error that leaves has no context -/
def CallNG (P : Program) (w : World) (K : PySem.W.Frag) (mg : Str → Option Value) (base : Heap) (k : Nat) (f : Addr) (ps : List Str) (sp : Sp) : Prop :=
  ∃ fd, FnG P w K mg base (L2N.CX P w) k f fd ps sp ∧ Binds K fd ps [] ∧ PySem.W.keepIn K (.ref f) = true
section
variable {P : Program} {w : World} {K : PySem.W.Frag} {mg : Str → Option Value} {base : Heap} {x qual : Str} {f : Addr} {fd : FuncData} {k : Nat} {N ps : List Str} {sp : Sp}
theorem stands_callNG0 {st : Stmt} (F : Stands K x qual st [] f) (S : FnScope N ps (defScope st)) (size : ∀ vs H Q E, sp vs H Q E → vs.length = ps.length)
    (text : ∀ (cdv : Value) (A : Around) (outer : List Env) (s : Shared) (H : Hp) (vs : List V) (Q : VK) (E : XK), Room k (A.deeper (envOfC qual (defScope st) s.heap.objs.size f cdv)) → (A.deeper (envOfC qual (defScope st) s.heap.objs.size f cdv)).guards = some [] → sp vs H Q E →
      ∃ t, PSs (cxOf (L2N.CX P w) P w K mg base N qual (defScope st) f cdv A outer s H E) (defBody st) t ∧ t { nx := fun _ H' => Q .non H', rt := Q } (L2.start N vs) H)
    (bind : ∀ (kV doc pm : Value) (an : Option Addr) (cdv ct : Value) (us : List Value), us.length = ps.length → bindArgs (PySem.W.fnOf x qual (defArgs st) (defBody st) (defScope st) .none kV doc pm an cdv ct) ⟨us, []⟩ = pure (ps.zip us)) :
    CallNG P w K mg base (k + 1) f ps sp := by
  obtain ⟨fd, F⟩ := F
  exact ⟨fd, fnG F S size fun cdv A outer s H vs Q E hr gd h => text cdv A outer s H vs Q E hr gd h, F.bindsN bind, F.kp⟩
theorem CallNG.up {j : Nat} (c : CallNG P w K mg base j f ps sp) (h : j ≤ k) : CallNG P w K mg base k f ps sp :=
  let ⟨fd, F, r⟩ := c
  ⟨fd, FnG.mono F h, r⟩
theorem CallNG.toX (c : CallNG P w K mg base k f ps sp) : CallXG P w K mg base k f ps sp := by
  obtain ⟨fd, F, r⟩ := c
  refine ⟨fd, ⟨F.size, fun A st s H us vs Q E hr gd e0 hb r h => codeAny_mono (F.go A st s H us vs Q E hr gd e0 hb r h) fun z s' hz => ?_⟩, r⟩
  cases z with
  | error e => exact RH.cx_weak hz
  | ok fl => cases fl <;> exact hz
end
section
variable {X : Cx} {k : Nat} {f C : Addr} {ps : List Str} {sp : Sp} {x m : Str} {p pos apos : Pos} {e o : Expr} {es : List Expr} {ta : TE} {t : TA} {pl : Sem Bool} {W : WX}
theorem pe_fnNG (gd : X.A.guards = some []) (tk : L2N.Takes X W) (hm : X.mg x = some (.ref f)) (c : CallNG X.prog X.w X.K X.mg X.base k f ps sp) (hr : Room k X.A) (hg : Gl X x) (ha : PA X (e :: es) t) (hdb : (x == ("__debug__" : Str)) = false := by decide)
    (he : starEach (e :: es) X.env = (false, eval e X.env) :: starEach es X.env := by rfl) (hpl : (backTo pos (starEach es X.env)).any (·.1) = false := by rfl) : PE X (.Call (.Name x p) (e :: es) [] pos) (tCallSD sp [] (WE W) t) := by
  obtain ⟨fd, F, hb, hk⟩ := c
  refine ⟨fun pins s σ H Q I h => ?_⟩
  refine wpAny_Call_Name_kw (ld_glob I hg hm ?_ hdb)
  refine PySem.W.callWith_K (h₀ := X.base) I.ok.mod.kin hk (thn (ha.run pos pins s σ H _ I h) fun us s1 ⟨vs, H1, I1, r, q⟩ => ⟨I1.kIn, ?_⟩) he hpl
  exact run_fnG (E := WE W) F hr gd hb (L2N.passAt tk σ) I1 r q
theorem pe_mtNG (gd : X.A.guards = some []) (tk : L2N.Takes X W) (cl : Cls X.K C) (hm : Meth X.K C m f) (c : CallNG X.prog X.w X.K X.mg X.base k f ps sp) (hr : Room k X.A) (he : PE X o ta) (ha : PA X (e :: es) t)
    (hst : starEach (e :: es) X.env = (false, eval e X.env) :: starEach es X.env := by rfl) (hpl : (backTo pos (starEach es X.env)).any (·.1) = false := by rfl)
    (ht : eval (.Call (.Attribute o m apos) (e :: es) [] pos) X.env = (do
      let ov ← eval o X.env
      standAt apos.atName
      let (f, first) ← holding [ov] (getMethod ov m pl)
      callWith pos f first (backTo pos (starEach (e :: es) X.env)) (backToKw pos (keywordEach [] X.env))) := by rfl) :
    PE X (.Call (.Attribute o m apos) (e :: es) [] pos) (RQ.tMethX C m sp [] (WE W) ta t) := by
  obtain ⟨fd, F, hb, hk⟩ := c
  refine ⟨fun pins s σ H Q I h => ?_⟩
  refine PySem.W.methodCall_KW (pl := pl) (thn (he.run pins s σ H _ I h) fun u s1 ⟨z, H1, I1, rz, a, dx, fs, ez, ea, l, q⟩ => ?_) ht
  subst ez
  obtain rfl : u = Value.ref a := rz
  refine getmeth_ok I1 ea cl hm l ?_
  refine PySem.W.callWith_K (first := [.ref a]) (h₀ := X.base) I.ok.mod.kin hm.kp (thn (ha.run pos pins s1 σ H1 _ I1 q) fun us s2 ⟨ws, H2, I2, r, q2⟩ => ⟨I2.kIn, ?_⟩) hst hpl
  exact run_fnG (E := WE W) (us := .ref a :: us) (vs := .ref a :: ws) F hr gd hb (L2N.passAt tk σ) I2 (.cons rfl r) q2
theorem pe_mtNG0 (gd : X.A.guards = some []) (tk : L2N.Takes X W) (cl : Cls X.K C) (hm : Meth X.K C m f) (c : CallNG X.prog X.w X.K X.mg X.base k f ps sp) (hr : Room k X.A) (he : PE X o ta)
    (ht : eval (.Call (.Attribute o m apos) [] [] pos) X.env = (do
      let ov ← eval o X.env
      standAt apos.atName
      let (f, first) ← holding [ov] (getMethod ov m pl)
      callWith pos f first (backTo pos (starEach [] X.env)) (backToKw pos (keywordEach [] X.env))) := by rfl) :
    PE X (.Call (.Attribute o m apos) [] [] pos) (RQ.tMethX C m sp [] (WE W) ta tNil) := by
  obtain ⟨fd, F, hb, hk⟩ := c
  refine ⟨fun pins s σ H Q I h => ?_⟩
  refine PySem.W.methodCall_KW (pl := pl) (thn (he.run pins s σ H _ I h) fun u s1 ⟨z, H1, I1, rz, a, dx, fs, ez, ea, l, q⟩ => ?_) ht
  subst ez
  obtain rfl : u = Value.ref a := rz
  refine getmeth_ok I1 ea cl hm l ?_
  exact PySem.W.callWith_K0 (first := [.ref a]) I1.kIn hm.kp (run_fnG (E := WE W) (us := [.ref a]) (vs := [.ref a]) F hr gd hb (L2N.passAt tk σ) I1 (.cons rfl .nil) q)
end
end RGn

set_option Elab.async false
set_option linter.all false
set_option maxRecDepth 100000
set_option maxHeartbeats 4000000
/-! A token is out: str.replace in a for; list(text); a list's item in an op=; a dict of the top asked. -/
namespace RT
open PySem PySem.Spec PyProof.Rows L2 RC
section
variable {X : Cx} {st : Stmt} {rest body : List Stmt} {t u : TS} {e f : Expr} {te : TE} {pos : Pos}
/-- x = e -/
theorem pst_set {i : Nat} {x : Str} {px : Pos} (hN : X.N.Nodup) (hi : X.N[i]? = some x) (hx : Loc X.env.scope x) (he : PET X e te) (hs : swapsWith e (some (.Name x px)) pos.line X.env = pure false := by rfl)
    (hf : X.fn x = true ∨ X.env.scope.names.lookup x = some .local := by first | exact .inl rfl | exact .inr rfl | assumption) : PST X (.Assign [.Name x px] e pos) (tAsg te (gName i)) := by
  intro pins s σ H D h0 I h
  refine wpAny_Assign_Name (thn (he pins s σ H _ h0 I h) fun v sA ⟨y, HA, IA, rA, qA⟩ => ?_) hs
  exact store_ok IA hN hi hx rA (fun sB IB => ⟨_, HA, IB, qA⟩) hf
/-- x, y = 'a', 'b': a token is out behind it -/
theorem pss_parS {i j k1 k2 : Nat} {x y c d : Str} {px py pt pc pd pu : Pos} {kt kt2} (hc : X.calm = true) (hN : X.N.Nodup) (hi : X.N[i]? = some x) (hj : X.N[j]? = some y) (hij : i ≠ j)
    (hx : X.env.scope.names.lookup x = some .local) (hy : X.env.scope.names.lookup y = some .local) (hr : PSsT X rest u)
    (hw : swappedStores [.Tuple [.Name x px, .Name y py] kt pt] (.Tuple [.Constant (.str c) k1 pc, .Constant (.str d) k2 pd] kt2 pu) X.env = pure (some [x, y]))
    (hs : swapsWithSole [.Tuple [.Name x px, .Name y py] kt pt] (.Tuple [.Constant (.str c) k1 pc, .Constant (.str d) k2 pd] kt2 pu) pos.line X.env = pure false := by rfl) :
    PSs X (.Assign [.Tuple [.Name x px, .Name y py] kt pt] (.Tuple [.Constant (.str c) k1 pc, .Constant (.str d) k2 pd] kt2 pu) pos :: rest) (tSeq (tPar i j (tCons (tC (.str c)) (tCons (tC (.str d)) tNil))) u) := by
  refine ⟨fun pins s σ H D I h => ?_⟩
  have h : u D ((σ.set i (some (.str c))).set j (some (.str d))) H := by
    obtain ⟨v, w, e1, q⟩ := h
    cases e1
    exact q
  refine wpAny_execs_cons ?_
  rw [exec_Assign_arm]
  refine wpAny_bind (wpAny_standAt ?_)
  rw [hs]
  refine wpAny_bind (wpAny_pure ?_)
  rw [if_neg (by decide)]
  refine wpAny_bind (Tuple_ (Calls.spliced_cons (Calls.Constant_str (k := k1) (pos := pc) (Calls.spliced_cons (Calls.Constant_str (k := k2) (pos := pd) (Calls.spliced_nil ?_))))))
  have tA : 1 ≤ ({ s with toks := s.toks + 1 + 1 } : Shared).toks := by show 1 ≤ s.toks + 1 + 1; omega
  have I1 : Inv X pins σ H { s with toks := s.toks + 1 + 1 } := I.tok _
  refine wpAny_newObj_type ?_ (by show 2 ≤ sizeLine; decide)
  generalize hsA : ({ s with toks := s.toks + 1 + 1 } : Shared) = sA at I1 tA ⊢
  have I2 := I1.kept (t' := sA.toks) (h' := sA.heap.push { cls := .type "tuple", data := .seq [Value.str c s.toks, Value.str d (s.toks + 1)].toArray }) fun b o q => Heap.get?_push_of_some _ q
  rw [hw]
  refine wpAny_bind (wpAny_pure ?_)
  show wpAny (model X.prog X.w) X.A (do rule "assign.swapped-stores"; let its ← unpackItems (.ref sA.heap.objs.size) 2 none; assignInOrder [fun v => bindName X.env y v, fun v => bindName X.env x v] its.reverse; pure Flow.next) _ _ _
  refine wpAny_with_toks (n := 1) tA ?_
  refine wpAny_bind (wpAny_rule (wpAny_bind (unpackItems_tuple (items := #[Value.str c s.toks, Value.str d (s.toks + 1)]) (I.ok.hd hc) (IsTup.new sA.heap _) fun hB kB => ?_)))
  have I3 := I2.kept (h' := hB) (t' := sA.toks) fun b o q => kB b o (Nat.ne_of_lt (Heap.lt_size q)) q
  refine wpAny_bind (assignInOrder_cons (wpAny_bindName (store_ok I3 hN hj (.inl hy) (v := .str d) ⟨_, rfl⟩ (fun s2 I4 => ?_) (.inr hy))))
  refine assignInOrder_cons (wpAny_bindName (store_ok I4 hN hi (.inl hx) (v := .str c) ⟨_, rfl⟩ (fun s3 I5 => assignInOrder_nil (wpAny_pure ?_)) (.inr hx)))
  rw [List.set_comm _ _ (Ne.symm hij)] at I5
  intro h1
  exact hr pins s3 _ H D h1 I5 h
/-- x, y = 'a', 'b', a folded pair: a token is out behind it -/
theorem pss_parC {c d : Str} {k1 k2 kt2 : Nat} {pc pd pu : Pos} {tg : Expr} {g : TG} (hg : PG X tg g) (hr : PSsT X rest u)
    (hw : swappedStores [tg] (.Tuple [.Constant (.str c) k1 pc, .Constant (.str d) k2 pd] kt2 pu) X.env = pure none := by rfl)
    (hs : swapsWithSole [tg] (.Tuple [.Constant (.str c) k1 pc, .Constant (.str d) k2 pd] kt2 pu) pos.line X.env = pure false := by rfl)
    (he : (assignEach [tg] X.env).map (·.2) = [assign tg X.env] := by rfl) :
    PSs X (.Assign [tg] (.Tuple [.Constant (.str c) k1 pc, .Constant (.str d) k2 pd] kt2 pu) pos :: rest) (tSeq (tAsg (tTup (tCons (tC (.str c)) (tCons (tC (.str d)) tNil))) g) u) := by
  refine ⟨fun pins s σ H D I h => ?_⟩
  refine wpAny_execs_cons ?_
  refine wpAny_Assign_stores ?_ hs hw
  refine Tuple_ (Calls.spliced_cons (Calls.Constant_str (k := k1) (pos := pc) (Calls.spliced_cons (Calls.Constant_str (k := k2) (pos := pd) (Calls.spliced_nil ?_)))))
  have tA : 1 ≤ ({ s with toks := s.toks + 1 + 1 } : Shared).toks := by show 1 ≤ s.toks + 1 + 1; omega
  have I1 : Inv X pins σ H { s with toks := s.toks + 1 + 1 } := I.tok _
  refine wpAny_newObj_type ?_ (by show 2 ≤ sizeLine; decide)
  generalize hsA : ({ s with toks := s.toks + 1 + 1 } : Shared) = sA at I1 tA ⊢
  have h : 2 ≤ sizeLine ∧ ∀ a, H a = none → g (.ref a) σ (upd H a (.tup [.str c, .str d])) (u D) := h
  have hf : H sA.heap.objs.size = none := I1.hok.fresh (Nat.le_refl _)
  have I2 := I1.laid (t' := sA.toks) (h' := sA.heap.push { cls := .type "tuple", data := .seq [Value.str c s.toks, Value.str d (s.toks + 1)].toArray }) (a := sA.heap.objs.size) (o := .tup [.str c, .str d]) (fun b u e => Heap.get?_push_of_some _ e) (Nat.le_refl _)
    ⟨by show 2 ≤ sizeLine; decide, [Value.str c s.toks, Value.str d (s.toks + 1)], .cons ⟨_, rfl⟩ (.cons ⟨_, rfl⟩ .nil), ⟨_, Heap.get?_push_size _ rfl, rfl, _, rfl⟩⟩
  rw [he]
  refine wpAny_mono (wpAny_toks_of tA (hg.run pins _ σ _ (.ref sA.heap.objs.size) (.ref sA.heap.objs.size) _ I2 rfl (h.2 _ hf))) (fun _ s2 ⟨t2, σ2, H2, I3, q3⟩ => ?_) (fun _ _ z => z.2)
  exact hr pins s2 σ2 H2 D t2 I3 q3
/-- for, the body where a token is out -/
theorem pst_forT {tg iter : Expr} {wi : TI} {g : TG} {tb : TS} (hp : PassesOwn (model X.prog X.w) X.A X.env X.xe) (hc : X.calm = true) (hi : PI X tg iter wi) (hg : PG X tg g) (hb : PSsT X body tb)
    (hs : ∀ x, foldedSetIterable iter X.env x = pure x := by intro _; rfl) : PST X (.For tg iter body [] pos) (tFor wi g tb) := by
  intro pins s σ H D h0 I h
  refine wpAny_For (wpAny_mono (wpAny_toks_of h0 (hi.run pins s σ H _ I h)) (fun v s1 ⟨t1, h1⟩ => wpAny_mono (wpAny_toks_of t1 h1) (fun itv s2 ⟨t2, h2⟩ => ?_) fun _ _ z => z.2) fun _ _ z => z.2) hs
  obtain ⟨it, fp, tn, J, H2, e, I2, T, st2, f2, W, ⟨m0, w0⟩, turn⟩ := h2
  subst e
  have stat : ∀ {HA : Hp}, (∀ b ∈ fp, HA b = none) → ∀ b ∈ fp, FpOk X pins HA b := fun hn b hb => ⟨hn b hb, (f2 b hb).2⟩
  refine codeAny_forLoop_any (fun n sA => 1 ≤ sA.toks ∧ ∃ i σA HA, Inv X pins σA HA sA ∧ tn i sA.heap ∧ (∀ b ∈ fp, HA b = none) ∧ W i n σA HA) ?_ m0 ⟨t2, 0, σ, H2, I2, st2, fun b hb => (f2 b hb).1, w0⟩
  rintro n s3 ⟨t3, i, σ3, H3, I3, st3, fr3, w3⟩
  rcases turn i n σ3 H3 w3 with ⟨stop, qn⟩ | ⟨go, N, hN, step⟩
  · refine wpAny_passesOwn hp (thn (T.done X rfl rfl rfl hc i pins s3 σ3 H3 X.xe I3 (stat fr3) st3 stop) fun r s4 ⟨hr, I4⟩ => ?_)
    subst hr
    exact wpAny_execs_nil ⟨σ3, H3, I4, qn⟩
  · refine wpAny_passesOwn hp (wpAny_mono (wpAny_toks_of t3 (T.item X rfl rfl rfl hc i pins s3 σ3 H3 X.xe I3 (stat fr3) st3 go)) (fun r s4 ⟨t4, u4, hr, h4⟩ => ?_) fun _ _ z => z.2)
    subst hr
    refine wpAny_passesOwn hp (wpAny_mono (wpAny_toks_of t4 h4) (fun _ s5 ⟨t5, x5, H5, I5, r5, y5, st5, fr5⟩ => ?_) fun _ _ z => z.2)
    have IP := I5.pinned (stat fr5) (T.obj _ _ st5)
    refine wpAny_passesOwn hp (wpAny_mono (wpAny_toks_of t5 (hg.run _ s5 σ3 H5 x5 u4 _ IP r5 (step x5 H5 y5))) (fun _ s6 ⟨t6, σ6, H6, I6, q6⟩ => ?_) fun _ _ z => z.2)
    refine wpAny_passesOwn hp (wpAny_mono (wpAny_toks_of t6 (hb _ s6 σ6 H6 _ t6 I6 q6)) (fun fl s7 ⟨t7, q7⟩ => ?_) fun _ _ z => z.2)
    have again : ∀ {σ7 : L2.St} {H7 : Hp}, Inv X (pins ++ pinsAt fp s5.heap) σ7 H7 s7 → N σ7 H7 → ∃ m, m < n ∧ 1 ≤ s7.toks ∧ ∃ i σA HA, Inv X pins σA HA s7 ∧ tn i s7.heap ∧ (∀ b ∈ fp, HA b = none) ∧ W i m σA HA := fun {σ7 H7} I7 n7 => by
      obtain ⟨m7, lt7, w7⟩ := hN σ7 H7 n7
      refine ⟨m7, lt7, t7, i + 1, σ7, H7, I7.unpinned, T.keep _ _ _ st5 fun b hb o eb => (I7.pin (b, o) (List.mem_append_right _ (List.mem_append_right _ (mem_pinsAt hb eb)))).1, fun b hb => ?_, w7⟩
      obtain ⟨o, eb, _⟩ := T.obj _ _ st5 b hb
      exact (I7.pin (b, o) (List.mem_append_right _ (List.mem_append_right _ (mem_pinsAt hb eb)))).2.1
    cases fl with
    | ret v =>
      obtain ⟨x7, σ7, H7, I7, r7, q8⟩ := q7
      exact ⟨x7, σ7, H7, I7.unpinned, r7, q8⟩
    | next =>
      obtain ⟨σ7, H7, I7, n7⟩ := q7
      exact again I7 n7
    | cont =>
      obtain ⟨σ7, H7, I7, n7⟩ := q7
      exact again I7 n7
    | brk =>
      obtain ⟨σ7, H7, I7, q8⟩ := q7
      exact ⟨σ7, H7, I7.unpinned, q8⟩
end
section
variable {X : Cx}
/-- z not in D, D a dict of the top, z a text -/
theorem op_notInKD {D : Addr} {kvs : List (Key × V)} (k : RB.KD X.prog X.w X.K D kvs) : OpR X (compareOp .NotIn) (fun x y H Q => ∃ z : Str, x = .str z ∧ y = .ref D ∧ Q (.bl (!(valV kvs (Sum.inr z)).isSome)) H) := by
  intro pins s σ H x y v u Q I rx ry h
  obtain ⟨z, rfl, rfl, q⟩ := h
  cases ry
  obtain ⟨vs, rel, dd⟩ := k.at_
  refine wpAny_notIn_of (kV_is (k := Sum.inr z) rx) k.low (dd _ I.kIn).mapOf ?_
  rw [← (rel.val (Sum.inr z)).isSome_eq]
  exact ⟨.bl _, H, I.tok _, rfl, q⟩
theorem op_inKD {D : Addr} {kvs : List (Key × V)} (k : RB.KD X.prog X.w X.K D kvs) : OpR X (compareOp .In) (fun x y H Q => ∃ z : Str, x = .str z ∧ y = .ref D ∧ Q (.bl (valV kvs (Sum.inr z)).isSome) H) := by
  intro pins s σ H x y v u Q I rx ry h
  obtain ⟨z, rfl, rfl, q⟩ := h
  cases ry
  obtain ⟨vs, rel, dd⟩ := k.at_
  refine wpAny_in_of (kV_is (k := Sum.inr z) rx) k.low (dd _ I.kIn).mapOf ?_
  rw [← (rel.val (Sum.inr z)).isSome_eq]
  exact ⟨.bl _, H, I.tok _, rfl, q⟩
/-- list(text) -/
theorem call_listS (hc : X.calm = true) : CallR X (.type "list") (fun xs H Q => ∃ z : Str, xs = [.str z] ∧ z.length ≤ 1000000 ∧ ∀ p, H p = none → Q (.ref p) (upd H p (.lst (z.cps.toList.map fun c => .str ⟨#[c]⟩)))) := by
  intro pins s σ H xs us Q I r q
  obtain ⟨z, ez, hz, q⟩ := q
  subst ez
  obtain ⟨u, eu, rx⟩ := vals1 r
  subst eu
  obtain ⟨t, et⟩ := rx
  subst et
  have z1 : z.cps.size ≤ sizeLine := by rw [sizeLine_eq]; exact Nat.le_trans hz (by decide)
  refine call_list_str (I.ok.hd hc) z t (fun h' tk acc c keep new items => ?_) z1
  have rel : Vals (z.cps.toList.map fun c => V.str ⟨#[c]⟩) acc.toList := by
    obtain ⟨hsz, hat⟩ := items
    refine vals_of_at (by rw [List.length_map, Array.length_toList, Array.length_toList]; exact hsz.symm) fun i v u hv hu => ?_
    rw [List.getElem?_map] at hv
    obtain ⟨c', hc', rfl⟩ := Option.map_eq_some_iff.mp hv
    obtain ⟨c2, u2, hc2, rfl⟩ := hat i u (by rw [← Array.getElem?_toList]; exact hu)
    rw [← Array.getElem?_toList, hc'] at hc2
    cases hc2
    exact ⟨u2, rfl⟩
  refine ⟨.ref s.heap.objs.size, _, I.laid (t' := tk) (o := .lst (z.cps.toList.map fun c => .str ⟨#[c]⟩)) keep (Nat.le_refl _) ?_, rfl, q _ (I.hok.fresh (Nat.le_refl _))⟩
  exact ⟨by rw [List.length_map, Array.length_toList]; exact z1, acc.toList, c, rel, by rw [Array.toArray_toList]; exact new⟩
/-- l[i], by values -/
theorem get_list : PGet X (rIxL X.K) := by
  intro pins s σ H o i ov iv Q I ro ri h
  obtain ⟨p, xs, n, z, rfl, rfl, hq, he, q⟩ := h
  cases ro
  obtain ⟨t, rfl⟩ := ri
  obtain ⟨its, r, pl, hz⟩ := I.list hq
  obtain ⟨j, h1, h2, h3, h4, h5⟩ := atI_get he
  obtain ⟨w, ew, rw'⟩ := r.get h2
  have hl := r.length
  have hn := line63
  by_cases h0 : 0 ≤ n
  · have hj : n.toNat = j := by
      rw [seqIndex_of h0 h5] at h1
      exact Option.some.inj h1
    exact wpAny_getItem_list pl.isList h0 (by omega) (by rw [hj]; simpa using ew) ⟨z, H, I, rw', q⟩
  · have hj : (n + (its.toArray.size : Int)).toNat = j := by
      rw [seqIndex_neg (by omega) h4] at h1
      rw [List.size_toArray, ← hl]
      exact Option.some.inj h1
    exact wpAny_getItem_list_neg pl.isList (by omega) (by rw [List.size_toArray] <;> omega) (by omega) (by rw [hj]; simpa using ew) ⟨z, H, I, rw', q⟩
end
section
variable {P : Program} {w : World} {K : PySem.W.Frag} {mg : Str → Option Value} {base : Heap} {x qual : Str} {f : Addr} {k : Nat} {N ps : List Str} {sp : Sp}
/-- a def with parameters and no cells: a token is out when its body begins -/
theorem call0T {st : Stmt} (F : Stands K x qual st [] f) (S : FnScope N ps (defScope st)) (hnc : ∀ y ∈ (defScope st).names, y.2 ≠ .cell) (hps : 1 ≤ ps.length) (len : ∀ vs H Q E, sp vs H Q E → vs.length = ps.length)
    (hbody : ∀ (cdv : Value) (A : Around) (outer : List Env) (s : Shared) (H : Hp) (vs : List V) (Q : VK) (E : XK), Room k (A.deeper (envOfC qual (defScope st) s.heap.objs.size f cdv)) → sp vs H Q E →
      ∃ t, PSsT (cxOf CX0 P w K mg base N qual (defScope st) f cdv A outer s H E) (defBody st) t ∧ t { nx := fun _ H' => Q .non H', rt := Q } (L2.start N vs) H)
    (h0 : ∀ (kV doc pm : Value) (an : Option Addr) (cdv ct : Value) (us : List Value), us.length = ps.length → bindArgs (PySem.W.fnOf x qual (defArgs st) (defBody st) (defScope st) .none kV doc pm an cdv ct) ⟨us, []⟩ = pure (ps.zip us)) :
    Callable P w K mg base (k + 1) f ps [] sp := by
  obtain ⟨fd, F⟩ := F
  have ok : FnOk P w K mg base CX0 (k + 1) f fd ps sp := by
    obtain ⟨oc, od, dV, kV, doc, pm, an, cdv, ct, osl, rfl, lk, hcd, _, _⟩ := F.ex
    exact fn_ofT lk hcd S hnc hps len fun A outer s H vs Q E hr hsp => hbody cdv A outer s H vs Q E hr hsp
  exact ⟨fd, [], ok, .nil, F.bindsN h0, F.kp⟩
end
end RT

set_option Elab.async false
set_option linter.all false
set_option maxRecDepth 100000
set_option maxHeartbeats 4000000
/-! A dict of the top, subscripted by a text. -/
namespace RKd
open PySem PySem.Spec PyProof.Rows L2 RC
section
variable {X : Cx}
def rKd (D : Addr) (kvs : List (Key × V)) : R2 := fun x y H Q => ∃ (z : Str) (v : V), x = .ref D ∧ y = .str z ∧ valV kvs (Sum.inr z) = some v ∧ Q v H
/-- D[z] -/
theorem pe_kd {o i : Expr} {pos : Pos} {td ty : TE} {D : Addr} {kvs : List (Key × V)} (k : RB.KD X.prog X.w X.K D kvs) (ho : PE X o td) (hi : PE X i ty) (hs : NoSl i) : PE X (.Subscript o i pos) (tOp (rKd D kvs) td ty) := by
  refine ⟨fun pins s σ H Q I h => ?_⟩
  refine subD_of PySem.F.slot_dict_getitem.lookup hs (thn (ho.run pins s σ H _ I h) fun u s1 ⟨x, H1, I1, rx, q1⟩ => thn (hi.run pins s1 σ H1 _ I1 q1) fun iv s2 ⟨y, H2, I2, ry, z, v, ex, ey, e, q2⟩ => ?_)
  subst ex
  subst ey
  obtain rfl : u = Value.ref D := rx
  obtain ⟨vs, rel, dd⟩ := k.at_
  have d2 := dd _ I2.kIn
  refine ⟨d2.typeIs, ?_⟩
  obtain ⟨w', hw, rw'⟩ := RelO.some_of (v := v) (o := valueAt vs (Sum.inr z)) (by rw [← e]; exact rel.val (Sum.inr z))
  exact wpAny_getItem_of (kV_is (k := Sum.inr z) ry) d2.mapOf hw ⟨v, H2, I2.tok _, rw', q2⟩
end
end RKd

set_option Elab.async false
set_option linter.all false
set_option maxRecDepth 100000
set_option maxHeartbeats 4000000
/-! Further rules: a list and an empty one. -/
namespace RY
open PySem PySem.Spec PyProof.Rows PySem.SeqAt L2
open RD
def rEqE (K : PySem.W.Frag) : R2 := fun x y H Q => ∃ (a b : Addr) (xs : List V), x = .ref a ∧ y = .ref b ∧ SqL K H a xs ∧ SqL K H b [] ∧ Q (.bl (xs.isEmpty)) H
def rNeE (K : PySem.W.Frag) : R2 := fun x y H Q => ∃ (a b : Addr) (xs : List V), x = .ref a ∧ y = .ref b ∧ SqL K H a xs ∧ SqL K H b [] ∧ Q (.bl (!xs.isEmpty)) H
section
variable {X : Cx}
theorem vals_nil {us : List Value} (h : Vals [] us) : us = [] := by cases h; rfl
theorem vals_cons {x : V} {xs : List V} {us : List Value} (h : Vals (x :: xs) us) : (us.toArray.size != (([] : List Value)).toArray.size) = true := by cases h; simp
theorem op_eqE (hu : X.A.units < cLine) : OpR X (compareOp .Eq) (rEqE X.K) := by
  intro pins s σ H x y v u Q I rx ry h
  obtain ⟨a, b, xs, rfl, rfl, ha, hb, q⟩ := h
  cases rx
  cases ry
  obtain ⟨its, rv, hl, _⟩ := I.list ha
  obtain ⟨its2, rv2, hl2, _⟩ := I.list hb
  obtain rfl := vals_nil rv2
  cases xs with
  | nil =>
    obtain rfl := vals_nil rv
    refine eq_listAt (e := fun _ => true) hl.isList hl2.isList rfl hu (fun j h1 h2 => EqAt.same _) ?_
    rw [all_true]
    exact fin_bl I q rfl
  | cons x xs => exact eq_list_lengthsAt hl.isList hl2.isList (vals_cons rv) hu (fin_bl I q rfl)
theorem op_neE (hu : X.A.units < cLine) : OpR X (compareOp .NotEq) (rNeE X.K) := by
  intro pins s σ H x y v u Q I rx ry h
  obtain ⟨a, b, xs, rfl, rfl, ha, hb, q⟩ := h
  cases rx
  cases ry
  obtain ⟨its, rv, hl, _⟩ := I.list ha
  obtain ⟨its2, rv2, hl2, _⟩ := I.list hb
  obtain rfl := vals_nil rv2
  cases xs with
  | nil =>
    obtain rfl := vals_nil rv
    refine RcNeAt.lists (e := fun _ => true) hl.isList hl2.isList rfl hu (fun j h1 h2 => EqAt.same _) X.prog X.w X.xe _ ?_
    rw [all_true]
    exact fin_bl I q rfl
  | cons x xs => exact RcNeAt.lists_lengths hl.isList hl2.isList (vals_cons rv) hu X.prog X.w X.xe _ (fin_bl I q rfl)

def flatW : V → Bool
  | .int _ => true
  | .bl _ => true
  | .str _ => true
  | .non => true
  | .ref _ => true
  | _ => false
/-- two lists of the same plain values -/
def rEqV (K : PySem.W.Frag) : R2 := fun x y H Q => ∃ (a b : Addr) (xs : List V), x = .ref a ∧ y = .ref b ∧ SqL K H a xs ∧ SqL K H b xs ∧ xs.all flatW = true ∧ Q (.bl true) H
def rNeV (K : PySem.W.Frag) : R2 := fun x y H Q => ∃ (a b : Addr) (xs : List V), x = .ref a ∧ y = .ref b ∧ SqL K H a xs ∧ SqL K H b xs ∧ xs.all flatW = true ∧ Q (.bl false) H
theorem eq_same {A : Around} {s : Shared} {x : V} {u u' : Value} (h : RelV x u) (h' : RelV x u') (hf : flatW x = true) : EqAt A s u u' true := by
  cases x with
  | int i =>
    obtain ⟨t, rfl⟩ := h
    obtain ⟨t', rfl⟩ := h'
    have e := EqAt.int_int (A := A) (s := s) i t i t'
    rw [beq_self_eq_true] at e; exact e
  | str i =>
    obtain ⟨t, rfl⟩ := h
    obtain ⟨t', rfl⟩ := h'
    have e := EqAt.str_str (A := A) (s := s) i t i t'
    rw [beq_self_eq_true] at e; exact e
  | bl b => cases h; cases h'; exact EqAt.same _
  | non => cases h; cases h'; exact EqAt.same _
  | ref a => cases h; cases h'; exact EqAt.same _
  | _ => cases hf
theorem eq_all {A : Around} {s : Shared} : ∀ {xs : List V} {us us' : List Value}, Vals xs us → Vals xs us' → xs.all flatW = true → us.length = us'.length ∧ ∀ (j : Nat) (h1 : j < us.length) (h2 : j < us'.length), EqAt A s us[j] us'[j] true
  | [], _, _, .nil, .nil, _ => ⟨rfl, fun j h1 _ => absurd h1 (Nat.not_lt_zero _)⟩
  | x :: xs, _, _, .cons h t, .cons h' t', hf => by
    rw [List.all_cons, Bool.and_eq_true] at hf
    have ih := eq_all (A := A) (s := s) t t' hf.2
    refine ⟨congrArg (· + 1) ih.1, fun j h1 h2 => ?_⟩
    cases j with
    | zero => exact eq_same h h' hf.1
    | succ j => exact ih.2 j (Nat.lt_of_succ_lt_succ h1) (Nat.lt_of_succ_lt_succ h2)
theorem all_tt (n : Nat) : (List.range n).all (fun _ => true) = true := by simp
theorem op_eqV (hu : X.A.units < cLine) : OpR X (compareOp .Eq) (rEqV X.K) := by
  intro pins s σ H x y v u Q I rx ry h
  obtain ⟨a, b, xs, rfl, rfl, ha, hb, hf, q⟩ := h
  cases rx
  cases ry
  obtain ⟨its, rv, hl, _⟩ := I.list ha
  obtain ⟨its2, rv2, hl2, _⟩ := I.list hb
  have e := eq_all (A := X.A.in1) (s := s) rv rv2 hf
  refine eq_listAt (e := fun _ => true) hl.isList hl2.isList (by simpa using e.1) hu (fun j h1 h2 => by simpa using e.2 j (by simpa using h1) (by simpa using h2)) ?_
  rw [all_tt]
  exact fin_bl I q rfl
theorem op_neV (hu : X.A.units < cLine) : OpR X (compareOp .NotEq) (rNeV X.K) := by
  intro pins s σ H x y v u Q I rx ry h
  obtain ⟨a, b, xs, rfl, rfl, ha, hb, hf, q⟩ := h
  cases rx
  cases ry
  obtain ⟨its, rv, hl, _⟩ := I.list ha
  obtain ⟨its2, rv2, hl2, _⟩ := I.list hb
  have e := eq_all (A := X.A.in1) (s := s) rv rv2 hf
  refine RcNeAt.lists (e := fun _ => true) hl.isList hl2.isList (by simpa using e.1) hu (fun j h1 h2 => by simpa using e.2 j (by simpa using h1) (by simpa using h2)) X.prog X.w X.xe _ ?_
  rw [all_tt]
  exact fin_bl I q rfl
end
end RY

set_option Elab.async false
set_option linter.all false
set_option maxRecDepth 100000
set_option maxHeartbeats 4000000
/-! == and != of two things of the same shape: lists and tuples in one another. -/
namespace RQE
open PySem PySem.Spec PyProof.Rows PySem.SeqAt L2
def SmR (K : PySem.W.Frag) (H : Hp) (E : V → V → Prop) (x y : V) : Prop :=
  (∃ a b xs ys, x = .ref a ∧ y = .ref b ∧ SqL K H a xs ∧ SqL K H b ys ∧ Paired E xs ys) ∨ (∃ a b xs ys, x = .ref a ∧ y = .ref b ∧ SqT K H a xs ∧ SqT K H b ys ∧ Paired E xs ys)
def SmV (K : PySem.W.Frag) (H : Hp) : Nat → V → V → Prop
  | 0 => fun x y => x = y ∧ RY.flatW x = true
  | n + 1 => fun x y => (x = y ∧ RY.flatW x = true) ∨ SmR K H (SmV K H n) x y
theorem SmV.flat {K : PySem.W.Frag} {H : Hp} {n : Nat} {x : V} (h : RY.flatW x = true) : SmV K H n x x := by
  cases n with
  | zero => exact ⟨rfl, h⟩
  | succ n => exact .inl ⟨rfl, h⟩
theorem paired_flat {K : PySem.W.Frag} {H : Hp} {n : Nat} : ∀ {xs : List V}, xs.all RY.flatW = true → Paired (SmV K H n) xs xs
  | [], _ => .nil
  | x :: xs, h => by
    rw [List.all_cons, Bool.and_eq_true] at h
    exact .cons (SmV.flat h.1) (paired_flat h.2)
theorem paired_map {α : Type} {E : V → V → Prop} {f g : α → V} : ∀ {xs : List α}, (∀ x ∈ xs, E (f x) (g x)) → Paired E (xs.map f) (xs.map g)
  | [], _ => .nil
  | x :: xs, h => .cons (h x List.mem_cons_self) (paired_map fun y hy => h y (List.mem_cons_of_mem _ hy))
theorem paired_at {E : V → V → Prop} : ∀ {xs ys : List V}, xs.length = ys.length → (∀ (i : Nat) (x y : V), xs[i]? = some x → ys[i]? = some y → E x y) → Paired E xs ys
  | [], [], _, _ => .nil
  | [], _ :: _, h, _ => by simp at h
  | _ :: _, [], h, _ => by simp at h
  | x :: xs, y :: ys, hl, h => .cons (h 0 x y rfl rfl) (paired_at (by simpa using hl) fun i a b h1 h2 => h (i + 1) a b (by simpa using h1) (by simpa using h2))
section
variable {X : Cx} {pins : List (Addr × Obj)} {σ : L2.St} {H : Hp} {s : Shared}
theorem its_run {A : Around} {F : V → V → Prop} (ih : ∀ x y v u, F x y → RelV x v → RelV y u → EqAt A s v u true) {xs ys : List V} (hp : Paired F xs ys) :
    ∀ {us ws : List Value}, Vals xs us → Vals ys ws → ∀ j (h1 : j < us.length) (h2 : j < ws.length), EqAt A s us[j] ws[j] true := by
  induction hp with
  | nil =>
    intro us ws r1 r2 j h1 h2
    cases r1
    exact absurd h1 (Nat.not_lt_zero j)
  | cons h _ k =>
    intro us ws r1 r2 j h1 h2
    cases r1 with
    | cons a1 b1 =>
      cases r2 with
      | cons a2 b2 =>
        cases j with
        | zero => exact ih _ _ _ _ h a1 a2
        | succ j => exact k b1 b2 j (Nat.lt_of_succ_lt_succ h1) (Nat.lt_of_succ_lt_succ h2)
theorem smR_run (I : Inv X pins σ H s) {A : Around} {F : V → V → Prop} (hu : A.units < cLine) (ih : ∀ x y v u, F x y → RelV x v → RelV y u → EqAt A.in1 s v u true) {x y : V} {v u : Value} (h : SmR X.K H F x y) (rx : RelV x v) (ry : RelV y u) : RcAt A s v u true ∧ RcNeAt A s v u false := by
  rcases h with ⟨a, b, xs, ys, rfl, rfl, ha, hb, hp⟩ | ⟨a, b, xs, ys, rfl, rfl, ha, hb, hp⟩
  · cases (show v = Value.ref a from rx)
    cases (show u = Value.ref b from ry)
    obtain ⟨us, r1, p1, _⟩ := I.list ha
    obtain ⟨ws, r2, p2, _⟩ := I.list hb
    have hsz : us.toArray.size = ws.toArray.size := by
      rw [List.size_toArray, List.size_toArray, ← r1.length, ← r2.length]
      exact Paired.length hp
    have ee : ∀ j (h1 : j < us.toArray.size) (h2 : j < ws.toArray.size), EqAt A.in1 s us.toArray[j] ws.toArray[j] ((fun _ => true) j) := fun j h1 h2 => by
      have k := its_run ih hp r1 r2 j (by simpa using h1) (by simpa using h2)
      simpa using k
    have h1 := RcAt.lists (e := fun _ => true) p1.isList p2.isList hsz hu ee
    have h2 := RcNeAt.lists (e := fun _ => true) p1.isList p2.isList hsz hu ee
    rw [RY.all_tt] at h1 h2
    exact ⟨h1, h2⟩
  · cases (show v = Value.ref a from rx)
    cases (show u = Value.ref b from ry)
    obtain ⟨us, r1, p1, _⟩ := I.tuple ha
    obtain ⟨ws, r2, p2, _⟩ := I.tuple hb
    have hsz : (us.toArray.size == ws.toArray.size) = true := by
      rw [List.size_toArray, List.size_toArray, ← r1.length, ← r2.length]
      exact beq_iff_eq.mpr (Paired.length hp)
    have ee : ∀ j (h1 : j < us.toArray.size) (h2 : j < ws.toArray.size), EqAt A.in1 s us.toArray[j] ws.toArray[j] ((fun _ => true) j) := fun j h1 h2 => by
      have k := its_run ih hp r1 r2 j (by simpa using h1) (by simpa using h2)
      simpa using k
    have h1 := RcAt.tuples (e := fun _ => true) p1 p2 hu ee
    have h2 := RcNeAt.tuples (e := fun _ => true) p1 p2 hu ee
    rw [RY.all_tt, hsz] at h1 h2
    exact ⟨h1, h2⟩
theorem smV_run (I : Inv X pins σ H s) : ∀ (n : Nat) (A : Around), A.units + n < cLine → ∀ (x y : V) (v u : Value), SmV X.K H n x y → RelV x v → RelV y u → EqAt A s v u true
  | 0, _, _, x, y, v, u, h, rx, ry => by
    obtain ⟨rfl, f⟩ := h
    exact RY.eq_same rx ry f
  | n + 1, A, hu, x, y, v, u, h, rx, ry => by
    rcases h with ⟨rfl, f⟩ | h
    · exact RY.eq_same rx ry f
    · have step := (smR_run I (A := A) (by omega) (smV_run I n A.in1 (by show A.units + 1 + n < cLine; omega)) h rx ry).1
      obtain ⟨a, b, rfl, rfl⟩ : ∃ a b, x = .ref a ∧ y = .ref b := by
        rcases h with ⟨a, b, _, _, e1, e2, _⟩ | ⟨a, b, _, _, e1, e2, _⟩ <;> exact ⟨a, b, e1, e2⟩
      cases (show v = Value.ref a from rx)
      cases (show u = Value.ref b from ry)
      by_cases e : a = b
      · subst e; exact EqAt.same _
      · exact EqAt.of_refs e step
end
def rEqS (K : PySem.W.Frag) : R2 := fun x y H Q => ∃ n, n ≤ 60 ∧ SmR K H (SmV K H n) x y ∧ Q (.bl true) H
def rNeS (K : PySem.W.Frag) : R2 := fun x y H Q => ∃ n, n ≤ 60 ∧ SmR K H (SmV K H n) x y ∧ Q (.bl false) H
section
variable {X : Cx}
theorem op_eqS (hu : X.A.units + 64 < cLine) : OpR X (compareOp .Eq) (rEqS X.K) := by
  intro pins s σ H x y v u Q I rx ry h
  obtain ⟨n, hn, h, q⟩ := h
  exact (smR_run I (A := X.A) (by omega) (smV_run I n X.A.in1 (by show X.A.units + 1 + n < cLine; omega)) h rx ry).1 X.prog X.w _ _ ⟨.bl true, H, I, rfl, q⟩
theorem op_neS (hu : X.A.units + 64 < cLine) : OpR X (compareOp .NotEq) (rNeS X.K) := by
  intro pins s σ H x y v u Q I rx ry h
  obtain ⟨n, hn, h, q⟩ := h
  exact (smR_run I (A := X.A) (by omega) (smV_run I n X.A.in1 (by show X.A.units + 1 + n < cLine; omega)) h rx ry).2 X.prog X.w _ _ ⟨.bl false, H, I, rfl, q⟩
end
end RQE

set_option Elab.async false
set_option linter.all false
set_option maxRecDepth 100000
set_option maxHeartbeats 4000000
/-! Formats with dollars, over lists of signs. -/
namespace RP
abbrev S := List Nat
def letters : S := [97,98,99,100,101,102,103,104,105,106,107,108,109,110,111,112,113,114,115,116,117,118,119,120,121,122,65,66,67,68,69,70,71,72,73,74,75,76,77,78,79,80,81,82,83,84,85,86,87,88,89,90,95]
def digits : S := [48,49,50,51,52,53,54,55,56,57]
def letB (c : Nat) : Bool := decide (c ∈ letters)
def digB (c : Nat) : Bool := decide (c ∈ digits)
def nameB (c : Nat) : Bool := letB c || digB c
/-- the length of the longest name that begins here -/
def nmLen : S → Nat
  | [] => 0
  | c :: r => if letB c then 1 + (r.takeWhile nameB).length else 0
theorem nm_cons (a : Nat) (r : S) : nmLen (a :: r) = if letB a = true then 1 + (r.takeWhile nameB).length else 0 := rfl
def contB (l : S) (k : Nat) : Bool := match l[k]? with
  | none => false
  | some c => letB c || (decide (0 < k) && digB c)
theorem tw_at {p : Nat → Bool} : ∀ (l : S) (k : Nat), k < (l.takeWhile p).length → ∃ c, l[k]? = some c ∧ p c = true
  | [], k, h => by cases h
  | a :: r, k, h => by
    rw [List.takeWhile_cons] at h
    cases e : p a with
    | false => rw [e] at h; cases h
    | true =>
      rw [e] at h
      cases k with
      | zero => exact ⟨a, rfl, e⟩
      | succ k => exact tw_at r k (Nat.lt_of_succ_lt_succ h)
theorem tw_end {p : Nat → Bool} : ∀ (l : S) (c : Nat), l[(l.takeWhile p).length]? = some c → p c = false
  | [], c, h => by cases h
  | a :: r, c, h => by
    rw [List.takeWhile_cons] at h
    cases e : p a with
    | false => rw [e] at h; cases h; exact e
    | true => rw [e] at h; exact tw_end r c h
theorem cont_lt {l : S} {k : Nat} (h : k < nmLen l) : contB l k = true := by
  cases l with
  | nil => cases h
  | cons a r =>
    rw [nm_cons] at h
    cases e : letB a with
    | false => rw [e] at h; cases h
    | true =>
      rw [e, if_pos rfl] at h
      cases k with
      | zero => show (letB a || _) = true; rw [e]; rfl
      | succ k =>
        obtain ⟨c, h1, h2⟩ := tw_at (p := nameB) r k (by omega)
        unfold contB
        rw [List.getElem?_cons_succ, h1]
        show (letB c || (decide (0 < k + 1) && digB c)) = true
        rw [decide_eq_true (Nat.succ_pos k), Bool.true_and]
        exact h2
theorem cont_end (l : S) : contB l (nmLen l) = false := by
  cases l with
  | nil => rfl
  | cons a r =>
    cases e : letB a with
    | false =>
      have z : nmLen (a :: r) = 0 := by rw [nm_cons, e]; rfl
      rw [z]
      show (letB a || (false && digB a)) = false
      rw [e]; rfl
    | true =>
      have z : nmLen (a :: r) = (r.takeWhile nameB).length + 1 := by rw [nm_cons, e, if_pos rfl, Nat.add_comm]
      rw [z]
      unfold contB
      rw [List.getElem?_cons_succ]
      cases h : r[(r.takeWhile nameB).length]? with
      | none => rfl
      | some c =>
        have q := tw_end (p := nameB) r c h
        show (letB c || (decide (0 < _ + 1) && digB c)) = false
        rw [decide_eq_true (Nat.succ_pos _), Bool.true_and]
        exact q
theorem tw_le {p : Nat → Bool} : ∀ l : S, (l.takeWhile p).length ≤ l.length
  | [] => Nat.le_refl _
  | a :: r => by
    rw [List.takeWhile_cons]
    split
    · exact Nat.succ_le_succ (tw_le r)
    · exact Nat.zero_le _
theorem nm_le (l : S) : nmLen l ≤ l.length := by
  cases l with
  | nil => exact Nat.le_refl _
  | cons a r =>
    rw [nm_cons]
    have := tw_le (p := nameB) r
    rw [List.length_cons]
    split <;> omega
/-- behind a dollar sign: the name, and how many signs the field has -/
def fieldD : S → Option (S × Nat)
  | 123 :: r => if nmLen r = 0 then none else if (r.drop (nmLen r)).head? = some 125 then some (r.take (nmLen r), nmLen r + 2) else none
  | l => if nmLen l = 0 then none else some (l.take (nmLen l), nmLen l)
abbrev Pt := Nat ⊕ S
inductive PD : S → Option (List Pt) → Prop
  | nil : PD [] (some [])
  | dd {r : S} {o : Option (List Pt)} : PD r o → PD (36 :: 36 :: r) (o.map (Sum.inl 36 :: ·))
  | fld {l n : S} {k : Nat} {o : Option (List Pt)} : l.head? ≠ some 36 → fieldD l = some (n, k) → PD (l.drop k) o → PD (36 :: l) (o.map (Sum.inr n :: ·))
  | bad {l : S} : l.head? ≠ some 36 → fieldD l = none → PD (36 :: l) none
  | ch {c : Nat} {r : S} {o : Option (List Pt)} : c ≠ 36 → PD r o → PD (c :: r) (o.map (Sum.inl c :: ·))
/-! ### how formats are written -/
def esc : S → S
  | [] => []
  | c :: r => if c = 36 then 36 :: 36 :: esc r else c :: esc r
abbrev Fm := S ⊕ S
/-- a name of letters, digits and _, the first one no digit -/
def nmOk (n : S) : Bool := match n with
  | [] => false
  | c :: r => letB c && r.all nameB
inductive Rnd : List Fm → S → Prop
  | nil : Rnd [] []
  | text {t s : S} {ps : List Fm} : Rnd ps s → Rnd (.inl t :: ps) (esc t ++ s)
  | bare {n s : S} {ps : List Fm} : nmOk n = true → (∀ c, s.head? = some c → nameB c = false) → Rnd ps s → Rnd (.inr n :: ps) (36 :: (n ++ s))
  | brace {n s : S} {ps : List Fm} : nmOk n = true → Rnd ps s → Rnd (.inr n :: ps) (36 :: 123 :: (n ++ 125 :: s))
def flat : List Fm → List Pt
  | [] => []
  | .inl t :: r => t.map Sum.inl ++ flat r
  | .inr n :: r => .inr n :: flat r
theorem nm_of {n s : S} (h : nmOk n = true) (e : ∀ c, s.head? = some c → nameB c = false) : nmLen (n ++ s) = n.length := by
  cases n with
  | nil => cases h
  | cons a r =>
    obtain ⟨h1, h2⟩ := Bool.and_eq_true_iff.mp h
    show (if letB a then 1 + ((r ++ s).takeWhile nameB).length else 0) = r.length + 1
    rw [if_pos h1]
    have z : ((r ++ s).takeWhile nameB).length = r.length := by
      clear h h1
      induction r with
      | nil =>
        cases s with
        | nil => rfl
        | cons c s => show (List.takeWhile nameB (c :: s)).length = 0; rw [List.takeWhile_cons, e c rfl]; rfl
      | cons b r ih =>
        obtain ⟨h3, h4⟩ := Bool.and_eq_true_iff.mp (show (nameB b && r.all nameB) = true from h2)
        show (List.takeWhile nameB (b :: (r ++ s))).length = r.length + 1
        rw [List.takeWhile_cons, h3]
        exact congrArg Nat.succ (ih h4)
    rw [z, Nat.add_comm]
theorem nm_of_tw {n s : S} (h : nmOk n = true) : nmLen (n ++ s) = n.length + (s.takeWhile nameB).length := by
  cases n with
  | nil => cases h
  | cons a r =>
    obtain ⟨h1, h2⟩ := Bool.and_eq_true_iff.mp h
    show (if letB a then 1 + ((r ++ s).takeWhile nameB).length else 0) = r.length + 1 + _
    rw [if_pos h1]
    have z : ((r ++ s).takeWhile nameB).length = r.length + (s.takeWhile nameB).length := by
      clear h h1
      induction r with
      | nil => exact (Nat.zero_add _).symm
      | cons b r ih =>
        obtain ⟨h3, h4⟩ := Bool.and_eq_true_iff.mp (show (nameB b && r.all nameB) = true from h2)
        show (List.takeWhile nameB (b :: (r ++ s))).length = r.length + 1 + _
        rw [List.takeWhile_cons, h3]
        have := ih h4
        show ((r ++ s).takeWhile nameB).length + 1 = _
        omega
    omega
theorem let_ne {c : Nat} (h : letB c = true) : c ≠ 36 ∧ c ≠ 123 := by
  constructor
  · intro z; rw [z] at h; revert h; decide
  · intro z; rw [z] at h; revert h; decide
theorem ok_head {n s : S} (h : nmOk n = true) : (∃ c r, n ++ s = c :: r ∧ letB c = true) := by
  cases n with
  | nil => cases h
  | cons a r => exact ⟨a, r ++ s, rfl, (Bool.and_eq_true_iff.mp h).1⟩
theorem field_bare {l : S} (h : l.head? ≠ some 123) : fieldD l = if nmLen l = 0 then none else some (l.take (nmLen l), nmLen l) := by
  unfold fieldD
  split
  · exact absurd rfl h
  · rfl
theorem pd_text {o : Option (List Pt)} {s : S} (h : PD s o) : ∀ t : S, PD (esc t ++ s) (o.map ((t.map Sum.inl) ++ ·))
  | [] => by
    have e : o.map (([] : List Pt) ++ ·) = o := by cases o <;> rfl
    show PD s (o.map (([] : List Pt) ++ ·))
    rw [e]; exact h
  | c :: t => by
    have ih := pd_text h t
    have e : o.map (((c :: t).map Sum.inl : List Pt) ++ ·) = (o.map ((t.map Sum.inl : List Pt) ++ ·)).map (Sum.inl c :: ·) := by cases o <;> rfl
    rw [e]
    unfold esc
    split
    · rename_i z; subst z; exact .dd ih
    · rename_i z; exact .ch z ih
theorem pd_bare {o : Option (List Pt)} {n s : S} (hn : nmOk n = true) (k : PD (s.dropWhile nameB) o) : PD (36 :: (n ++ s)) (o.map (Sum.inr (n ++ s.takeWhile nameB) :: ·)) := by
  obtain ⟨c, r, e, hc⟩ := ok_head (s := s) hn
  have l1 := nm_of_tw (s := s) hn
  have hd : (s.takeWhile nameB) ++ s.dropWhile nameB = s := List.takeWhile_append_dropWhile
  have sp : n ++ s = (n ++ s.takeWhile nameB) ++ s.dropWhile nameB := by rw [List.append_assoc, hd]
  have ln : n.length + (s.takeWhile nameB).length = (n ++ s.takeWhile nameB).length := (List.length_append ..).symm
  have t1 : (n ++ s).take (n.length + (s.takeWhile nameB).length) = n ++ s.takeWhile nameB := by rw [ln, sp, List.take_left]
  have d1 : (n ++ s).drop (n.length + (s.takeWhile nameB).length) = s.dropWhile nameB := by rw [ln, sp, List.drop_left]
  have pos : nmLen (n ++ s) ≠ 0 := by
    rw [l1]
    cases n with
    | nil => cases hn
    | cons a n => rw [List.length_cons]; omega
  refine .fld (k := nmLen (n ++ s)) (by rw [e]; intro z; exact (let_ne hc).1 (Option.some.inj z)) ?_ (by rw [l1, d1]; exact k)
  rw [field_bare (by rw [e]; intro z; exact (let_ne hc).2 (Option.some.inj z)), if_neg pos, l1, t1]
theorem pd_brace {o : Option (List Pt)} {n s : S} (hn : nmOk n = true) (k : PD s o) : PD (36 :: 123 :: (n ++ 125 :: s)) (o.map (Sum.inr n :: ·)) := by
  have l1 := nm_of (n := n) (s := 125 :: s) hn (fun c e => by cases e; decide)
  have pos : nmLen (n ++ 125 :: s) ≠ 0 := by
    rw [l1]
    cases n with
    | nil => cases hn
    | cons a n => rw [List.length_cons]; omega
  refine .fld (k := n.length + 2) (by intro z; cases z) ?_ ?_
  · show (if nmLen (n ++ 125 :: s) = 0 then none else if ((n ++ 125 :: s).drop (nmLen (n ++ 125 :: s))).head? = some 125 then some ((n ++ 125 :: s).take (nmLen (n ++ 125 :: s)), nmLen (n ++ 125 :: s) + 2) else none) = _
    rw [if_neg pos, l1, List.drop_left, if_pos (show (125 :: s).head? = some 125 from rfl), List.take_left]
  · have e : (123 :: (n ++ 125 :: s)).drop (n.length + 2) = s := by
      show (n ++ 125 :: s).drop (n.length + 1) = s
      rw [show n ++ 125 :: s = (n ++ [125]) ++ s by simp, show n.length + 1 = (n ++ [125]).length by simp, List.drop_left]
    rw [e]; exact k
/-- what is written is read again -/
theorem rnd_pd : ∀ {ps : List Fm} {s : S}, Rnd ps s → PD s (some (flat ps))
  | _, _, .nil => .nil
  | _, _, .text (t := t) h => pd_text (rnd_pd h) t
  | _, _, .bare (n := n) (s := s) hn e h => by
    have z : s.takeWhile nameB = [] := by
      cases s with
      | nil => rfl
      | cons c s => rw [List.takeWhile_cons, e c rfl]; rfl
    have z2 : s.dropWhile nameB = s := by
      cases s with
      | nil => rfl
      | cons c s => rw [List.dropWhile_cons, e c rfl]; rfl
    have := pd_bare (o := some _) (s := s) hn (by rw [z2]; exact rnd_pd h)
    rw [z, List.append_nil] at this
    exact this
  | _, _, .brace hn h => pd_brace (o := some _) hn (rnd_pd h)
/-- what is broken behind what is written is broken -/
theorem rnd_bad {X : S} (h1 : PD X none) (h2 : PD (X.dropWhile nameB) none) : ∀ {ps : List Fm} {s : S}, Rnd ps s → PD (s ++ X) none
  | _, _, .nil => h1
  | _, _, .text (t := t) h => by rw [List.append_assoc]; exact pd_text (rnd_bad h1 h2 h) t
  | _, _, .bare (n := n) (s := s) hn e h => by
    rw [List.cons_append, List.append_assoc]
    cases s with
    | nil => exact pd_bare (o := none) hn (by rw [List.nil_append]; exact h2)
    | cons c s =>
      have z : (c :: s ++ X).dropWhile nameB = c :: s ++ X := by rw [List.cons_append, List.dropWhile_cons, e c rfl]; rfl
      exact pd_bare (o := none) hn (by rw [z]; exact rnd_bad h1 h2 h)
  | _, _, .brace (n := n) (s := s) hn h => by
    have e : (36 :: 123 :: (n ++ 125 :: s)) ++ X = 36 :: 123 :: (n ++ 125 :: (s ++ X)) := by simp
    rw [e]
    exact pd_brace (o := none) hn (rnd_bad h1 h2 h)
/-- without its first signs, as far as they are of names, it is still written -/
theorem rnd_drop : ∀ {ps : List Fm} {s : S}, Rnd ps s → ∃ qs, Rnd qs (s.dropWhile nameB)
  | _, _, .nil => ⟨[], .nil⟩
  | _, _, .bare (n := n) (s := s) hn e h => ⟨_, by
    have z : (36 :: (n ++ s)).dropWhile nameB = 36 :: (n ++ s) := by rw [List.dropWhile_cons, show nameB 36 = false from by decide]; rfl
    rw [z]; exact .bare hn e h⟩
  | _, _, .brace (n := n) (s := s) hn h => ⟨_, by
    have z : (36 :: 123 :: (n ++ 125 :: s)).dropWhile nameB = 36 :: 123 :: (n ++ 125 :: s) := by rw [List.dropWhile_cons, show nameB 36 = false from by decide]; rfl
    rw [z]; exact .brace hn h⟩
  | _, _, .text (t := t) (s := s) (ps := ps) h => by
    induction t with
    | nil => exact rnd_drop h
    | cons c t ih =>
      cases e : nameB c with
      | true =>
        have nc : c ≠ 36 := fun z => by rw [z] at e; revert e; decide
        have z : (esc (c :: t) ++ s).dropWhile nameB = (esc t ++ s).dropWhile nameB := by
          have q : esc (c :: t) = c :: esc t := by show (if c = 36 then _ else _) = _; rw [if_neg nc]
          rw [q, List.cons_append, List.dropWhile_cons, e, if_pos rfl]
        rw [z]; exact ih
      | false =>
        refine ⟨.inl (c :: t) :: ps, ?_⟩
        have z : (esc (c :: t) ++ s).dropWhile nameB = esc (c :: t) ++ s := by
          by_cases d : c = 36
          · subst d
            show (36 :: 36 :: (esc t ++ s)).dropWhile nameB = _
            rw [List.dropWhile_cons, e]; simp [esc]
          · have q : esc (c :: t) = c :: esc t := by show (if c = 36 then _ else _) = _; rw [if_neg d]
            rw [q, List.cons_append, List.dropWhile_cons, e]; rfl
        rw [z]; exact .text h
theorem drop_app {b tail : S} (h : ∀ c, tail.head? = some c → nameB c = false) : (b ++ tail).dropWhile nameB = b.dropWhile nameB ++ tail := by
  induction b with
  | nil =>
    cases tail with
    | nil => rfl
    | cons c t => show (c :: t).dropWhile nameB = _; rw [List.dropWhile_cons, h c rfl]; rfl
  | cons a b ih =>
    rw [List.cons_append, List.dropWhile_cons, List.dropWhile_cons]
    cases nameB a with
    | true => exact ih
    | false => rfl
/-- ahead, behind, something broken at the end that begins with a dollar -/
theorem bad_end {as bs : List Fm} {a b r : S} (ha : Rnd as a) (hb : Rnd bs b) (h : PD (36 :: r) none) : PD (a ++ (b ++ 36 :: r)) none := by
  have h36 : ∀ c, (36 :: r).head? = some c → nameB c = false := fun c e => by cases e; decide
  have hd : (36 :: r).dropWhile nameB = 36 :: r := by rw [List.dropWhile_cons, show nameB 36 = false from by decide]; rfl
  have h2 : PD ((36 :: r).dropWhile nameB) none := by rw [hd]; exact h
  refine rnd_bad (rnd_bad h h2 hb) ?_ ha
  rw [drop_app h36]
  obtain ⟨qs, hq⟩ := rnd_drop hb
  exact rnd_bad h h2 hq
/-- ahead, something broken that begins with a dollar, anything -/
theorem bad_mid {as : List Fm} {a r : S} (ha : Rnd as a) (h : PD (36 :: r) none) : PD (a ++ 36 :: r) none := by
  refine rnd_bad h ?_ ha
  rw [List.dropWhile_cons, show nameB 36 = false from by decide]; exact h
end RP

set_option Elab.async false
set_option linter.all false
set_option maxRecDepth 100000
/-! str.replace of a dollar by two, over lists of signs. -/
namespace RU
open PySem PySem.Spec PyProof.Rows L2 SeqAt
theorem rep_esc (t : List Nat) : Txt.replace ⟨t.toArray⟩ (Str.ofString "$") (Str.ofString "$$") = ⟨(RP.esc t).toArray⟩ := by
  have e := PySem.StrLaws.replace_list (x := ⟨t.toArray⟩) (y := Str.ofString "$") (z := Str.ofString "$$") (by decide +kernel)
  have e1 : (Str.ofString "$").cps.toList = [36] := by decide +kernel
  have e2 : (Str.ofString "$$").cps.toList = [36, 36] := by decide +kernel
  rw [e1, e2] at e
  have e3 : ∀ l : List Nat, PySem.StrLaws.replL [36] [36, 36] l = RP.esc l := fun l => by
    induction l with
    | nil => exact PySem.StrLaws.replL_nil
    | cons c r ih =>
      unfold RP.esc
      by_cases h : c = 36
      · subst h
        rw [if_pos rfl, PySem.StrLaws.replL_hit (by decide) rfl]
        show 36 :: 36 :: PySem.StrLaws.replL [36] [36, 36] r = _
        rw [ih]
      · rw [if_neg h, PySem.StrLaws.replL_miss (y := [36]) (fun z => h (List.cons.inj (show [c] = [36] from z)).1), ih]
  have e4 : (Txt.replace (⟨t.toArray⟩) (Str.ofString "$") (Str.ofString "$$")).cps.toList = RP.esc t := e.trans (e3 t)
  rw [← e4]
def rNeVT (K : PySem.W.Frag) : R2 := fun x y H Q => ∃ (a b : Addr) (xs : List V), x = .ref a ∧ y = .ref b ∧ SqT K H a xs ∧ SqT K H b xs ∧ xs.all RY.flatW = true ∧ Q (.bl false) H
/-- two tuples of the same flat items -/
theorem op_neVT {X : Cx} (hu : X.A.units < cLine) : OpR X (compareOp .NotEq) (rNeVT X.K) := by
  intro pins s σ H x y v u Q I rx ry h
  obtain ⟨a, b, xs, rfl, rfl, ta, tb, hf, q⟩ := h
  obtain rfl : v = Value.ref a := rx
  obtain rfl : u = Value.ref b := ry
  obtain ⟨i1, r1, p1, _⟩ := I.tuple ta
  obtain ⟨i2, r2, p2, _⟩ := I.tuple tb
  obtain ⟨el, ee⟩ := RY.eq_all (A := X.A.in1) (s := s) r1 r2 hf
  have es : (i1.toArray.size == i2.toArray.size) = true := by simp [el]
  refine RcNeAt.tuples (e := fun _ => true) p1 p2 hu (fun j h1 h2 => by simpa using ee j (by simpa using h1) (by simpa using h2)) X.prog X.w X.xe _ ?_
  rw [RY.all_tt, es]
  exact fin_bl I q rfl
end RU

set_option Elab.async false
set_option linter.all false
set_option maxRecDepth 100000
set_option maxHeartbeats 4000000
/-! a tuple and the empty one. -/
namespace RTe
open PySem PySem.Spec PyProof.Rows PySem.SeqAt L2
def rEqTE (K : PySem.W.Frag) : R2 := fun x y H Q => ∃ (a b : Addr) (xs : List V), x = .ref a ∧ y = .ref b ∧ SqT K H a xs ∧ SqT K H b [] ∧ Q (.bl xs.isEmpty) H
def rNeTE (K : PySem.W.Frag) : R2 := fun x y H Q => ∃ (a b : Addr) (xs : List V), x = .ref a ∧ y = .ref b ∧ SqT K H a xs ∧ SqT K H b [] ∧ Q (.bl (!xs.isEmpty)) H
section
variable {X : Cx}
theorem op_eqTE (hu : X.A.units < cLine) : OpR X (compareOp .Eq) (rEqTE X.K) := by
  intro pins s σ H x y v u Q I rx ry h
  obtain ⟨a, b, xs, rfl, rfl, ta, tb, q⟩ := h
  obtain rfl : v = Value.ref a := rx
  obtain rfl : u = Value.ref b := ry
  obtain ⟨i1, r1, p1, _⟩ := I.tuple ta
  obtain ⟨i2, r2, p2, _⟩ := I.tuple tb
  obtain rfl := RY.vals_nil r2
  refine RcAt.tuples (e := fun _ => true) p1 p2 hu (fun j h1 h2 => absurd h2 (by simp)) X.prog X.w X.xe _ ?_
  refine fin_bl I q ?_
  rw [RY.all_tt]
  cases r1 <;> simp
theorem op_neTE (hu : X.A.units < cLine) : OpR X (compareOp .NotEq) (rNeTE X.K) := by
  intro pins s σ H x y v u Q I rx ry h
  obtain ⟨a, b, xs, rfl, rfl, ta, tb, q⟩ := h
  obtain rfl : v = Value.ref a := rx
  obtain rfl : u = Value.ref b := ry
  obtain ⟨i1, r1, p1, _⟩ := I.tuple ta
  obtain ⟨i2, r2, p2, _⟩ := I.tuple tb
  obtain rfl := RY.vals_nil r2
  refine RcNeAt.tuples (e := fun _ => true) p1 p2 hu (fun j h1 h2 => absurd h2 (by simp)) X.prog X.w X.xe _ ?_
  refine fin_bl I q ?_
  rw [RY.all_tt]
  cases r1 <;> simp
end
end RTe

set_option Elab.async false
set_option linter.all false
set_option maxRecDepth 100000
set_option maxHeartbeats 4000000
/-! What changes: all but some places stay; what is apart from these places. -/
namespace RC
open PySem PySem.Spec PyProof.Rows L2
theorem yes_if {σ : L2.St} {H : Hp} {A B : Hp → Prop} (h : A H) : tYes σ H (fun b H3 => if b = true then A H3 else B H3) := by
  show if true = true then A H else B H
  rw [if_pos rfl]; exact h
theorem seq_of {a b : TS} {D : Ends} {σ : L2.St} {H : Hp} (Mid : L2.St → Hp → Prop) (hA : ∀ b' : TS, (∀ σ' H', Mid σ' H' → b' D σ' H') → tSeq a b' D σ H) (hB : ∀ σ' H', Mid σ' H' → b D σ' H') : tSeq a b D σ H := hA b hB
theorem free_same {H H' : Hp} {a : Addr} (s : Same H H') (h : H' a = none) : H a = none := by
  cases e : H a with
  | none => rfl
  | some o => rw [s _ _ e] at h; cases h
theorem cxK2 {CX : CXT} {P : Program} {w : World} {K : PySem.W.Frag} {mg : Str → Option Value} {base : Heap} {N : List Str} {qual : Str} {scope : Scope} {f : Addr} {cd : Value} {A : Around} {outer : List Env} {sh : Shared} {H : Hp} {E : XK} :
    (cxOf CX P w K mg base N qual scope f cd A outer sh H E).K = K := rfl
theorem cxK3 {CX : CXT} {P : Program} {w : World} {K : PySem.W.Frag} {mg : Str → Option Value} {base : Heap} {N : List Str} {qual : Str} {scope : Scope} {f : Addr} {cd : Value} {A : Around} {outer : List Env} {sh : Shared} {H : Hp} {E : XK} {p : Addr × Obj} :
    (L2H.cxH CX P w K mg base N qual scope f cd A outer sh H E p).K = K := rfl
theorem hu_hot {A : Around} {k : Nat} {h : Option Value} (hr : Room k A) : (A.mark h).units + 1 < cLine := (show A.units + 1 < cLine from hu_of hr)
/-- all that stands outside of ms is as it was -/
def Chg (ms : List Addr) (H H' : Hp) : Prop := ∀ b o, b ∉ ms → H b = some o → H' b = some o
section
variable {ms ns : List Addr} {H H' H'' G : Hp} {a b p : Addr} {o o' : HO}
theorem Chg.refl : Chg ms H H := fun _ _ _ e => e
theorem Chg.of (s : Same H H') : Chg ms H H' := fun b o _ e => s b o e
theorem Chg.trans (c : Chg ms H H') (d : Chg ms H' H'') : Chg ms H H'' := fun b o n e => d b o n (c b o n e)
theorem Chg.mono (c : Chg ms H H') (h : ∀ b ∈ ms, b ∈ ns) : Chg ns H H' := fun b o n e => c b o (fun z => n (h b z)) e
theorem Chg.put (h : a ∈ ms) : Chg ms H (upd H a o) := fun b u n e => by rw [upd_ne (fun z => n (by rw [z]; exact h))]; exact e
theorem Chg.sameR (c : Chg ms H H') (s : Same H' H'') : Chg ms H H'' := fun b o n e => s b o (c b o n e)
theorem Chg.sameL (s : Same H H') (c : Chg ms H' H'') : Chg ms H H'' := fun b o n e => c b o n (s b o e)
theorem Chg.new (c : Chg ms H H') (h : H a = none) : Chg ms H (upd H' a o) := fun b u n e => by rw [upd_ne (ne_of_none e h)]; exact c b u n e
theorem Chg.set (c : Chg ms H H') (h : a ∈ ms) : Chg ms H (upd H' a o) := c.trans (Chg.put h)
theorem nin1 (h : b ≠ a) : b ∉ [a] := fun z => h (List.mem_singleton.mp z)
theorem nin2 {c : Addr} (h : b ≠ a) (k : b ≠ c) : b ∉ [a, c] := fun z => (List.mem_cons.mp z).elim h fun z => k (List.mem_singleton.mp z)
/-- what an apart heap holds stays -/
theorem Chg.apart (c : Chg ms H H') (s : Same G H) (out : ∀ m ∈ ms, G m = none) : Same G H' := fun b o e => c b o (fun z => by rw [out b z] at e; cases e) (s b o e)
/-- the heap without some places -/
noncomputable def rst (S : Addr → Prop) (H : Hp) : Hp := open Classical in fun b => if S b then none else H b
variable {S S' : Addr → Prop}
theorem rst_same : Same (rst S H) H := fun b o e => by
  unfold rst at e
  split at e
  · cases e
  · exact e
theorem rst_at (h : H b = some o) (n : ¬ S b) : rst S H b = some o := by unfold rst; rw [if_neg n]; exact h
theorem rst_none (h : S b) : rst S H b = none := by unfold rst; rw [if_pos h]
theorem rst_next (c : ∀ b o, ¬ S b → H b = some o → H' b = some o) (h : ∀ b, S' b → S b ∨ H b = none) : Same (rst S H) (rst S' H') := fun b o e => by
  have e2 := rst_same _ _ e
  have n : ¬ S b := fun z => by rw [rst_none z] at e; cases e
  refine rst_at (c b o n e2) fun z => ?_
  rcases h b z with k | k
  · exact n k
  · rw [k] at e2; cases e2
end
end RC

set_option Elab.async false
set_option linter.all false
set_option maxRecDepth 100000
set_option maxHeartbeats 4000000
/-! Further rules: two lists of the same objects are equal; a text times an int. -/
namespace RX
open PySem PySem.Spec PyProof.Rows PySem.SeqAt L2
open RD
/-- two lists of objects that are the same, or of unlike lengths -/
def rEqLL (K : PySem.W.Frag) : R2 := fun x y H Q => ∃ (a b : Addr) (as bs : List Addr), x = .ref a ∧ y = .ref b ∧ SqL K H a (as.map V.ref) ∧ SqL K H b (bs.map V.ref) ∧ (as = bs ∨ as.length ≠ bs.length) ∧ Q (.bl (decide (as = bs))) H
def rNeLL (K : PySem.W.Frag) : R2 := fun x y H Q => ∃ (a b : Addr) (as bs : List Addr), x = .ref a ∧ y = .ref b ∧ SqL K H a (as.map V.ref) ∧ SqL K H b (bs.map V.ref) ∧ (as = bs ∨ as.length ≠ bs.length) ∧ Q (.bl (!decide (as = bs))) H
section
variable {X : Cx}
theorem size_ne {as bs : List Addr} (h : as.length ≠ bs.length) : ((as.map Value.ref).toArray.size != (bs.map Value.ref).toArray.size) = true := by simpa using h
theorem op_eqLL (hu : X.A.units < cLine) : OpR X (compareOp .Eq) (rEqLL X.K) := by
  intro pins s σ H x y v u Q I rx ry h
  obtain ⟨a, b, as, bs, rfl, rfl, ha, hb, c, q⟩ := h
  cases rx
  cases ry
  obtain ⟨its, rv, hl, _⟩ := I.list ha
  obtain ⟨its2, rv2, hl2, _⟩ := I.list hb
  obtain rfl := vals_refs rv
  obtain rfl := vals_refs rv2
  rcases c with rfl | c
  · refine eq_listAt (e := fun _ => true) hl.isList hl2.isList rfl hu (fun j h1 h2 => EqAt.same _) ?_
    rw [all_true]
    rw [decide_eq_true rfl] at q
    exact fin_bl I q rfl
  · rw [decide_eq_false (fun z => c (by rw [z]))] at q
    exact eq_list_lengthsAt hl.isList hl2.isList (size_ne c) hu (fin_bl I q rfl)
theorem op_neLL (hu : X.A.units < cLine) : OpR X (compareOp .NotEq) (rNeLL X.K) := by
  intro pins s σ H x y v u Q I rx ry h
  obtain ⟨a, b, as, bs, rfl, rfl, ha, hb, c, q⟩ := h
  cases rx
  cases ry
  obtain ⟨its, rv, hl, _⟩ := I.list ha
  obtain ⟨its2, rv2, hl2, _⟩ := I.list hb
  obtain rfl := vals_refs rv
  obtain rfl := vals_refs rv2
  rcases c with rfl | c
  · refine RcNeAt.lists (e := fun _ => true) hl.isList hl2.isList rfl hu (fun j h1 h2 => EqAt.same _) X.prog X.w X.xe _ ?_
    rw [all_true]
    rw [decide_eq_true rfl] at q
    exact fin_bl I q rfl
  · rw [decide_eq_false (fun z => c (by rw [z]))] at q
    exact RcNeAt.lists_lengths hl.isList hl2.isList (size_ne c) hu X.prog X.w X.xe _ (fin_bl I q rfl)
end
end RX

set_option Elab.async false
set_option linter.all false
set_option maxRecDepth 100000
set_option maxHeartbeats 4000000
/-! How long the text of a number is. -/
namespace RN
open PySem PySem.Spec PyProof.Rows L2
theorem log2_div (n : Nat) (h : 10 ≤ n) : (n / 10).log2 + 1 ≤ n.log2 := by
  have h1 : n / 10 ≤ n / 2 := by omega
  have h2 : n / 10 ≠ 0 := by omega
  have h3 : n ≠ 0 := by omega
  have h4 := Nat.log2_self_le h2
  have h5 : 2 ^ ((n / 10).log2 + 1) ≤ n := by rw [Nat.pow_succ]; omega
  exact (Nat.le_log2 h3).mpr h5
theorem len_numL (n : Nat) : (TL.numL n).length ≤ n.log2 + 1 := by
  induction n using Nat.strongRecOn with
  | ind n ih =>
    by_cases h : n < 10
    · rw [TL.numL_lt h]; simp
    · have h : 10 ≤ n := by omega
      rw [TL.numL_step h, List.length_append]
      have := ih (n / 10) (by omega)
      have := log2_div n h
      simp only [List.length_singleton]
      omega
theorem len_toString (i : Int) : (Str.ofString (toString i)).length ≤ i.natAbs.log2 + 2 := by
  cases i with
  | ofNat n =>
    have e := TL.tl_num n
    rw [TL.len_tl]
    show (TL.tl (Str.ofString (toString ((n : Nat) : Int)))).length ≤ _
    rw [e]
    have := len_numL n
    show _ ≤ n.log2 + 2
    omega
  | negSucc n =>
    have e := TL.tl_num (n + 1)
    have e2 : toString (Int.negSucc n) = "-" ++ toString (((n + 1 : Nat)) : Int) := rfl
    rw [TL.len_tl, e2]
    have e3 : TL.tl (Str.ofString ("-" ++ toString (((n + 1 : Nat)) : Int))) = 45 :: TL.tl (Str.ofString (toString (((n + 1 : Nat)) : Int))) := by
      show (Str.ofString _).cps.toList = 45 :: (Str.ofString _).cps.toList
      rw [signs_ofString, signs_ofString, String.toList_append, List.map_append]; rfl
    rw [e3, e, List.length_cons]
    have := len_numL (n + 1)
    show _ ≤ (n + 1).log2 + 2
    omega
end RN

set_option Elab.async false
set_option linter.all false
set_option maxRecDepth 100000
set_option maxHeartbeats 4000000
/-! Calls of methods and classes by keywords alone. -/
namespace RK
open PySem PySem.Spec PyProof.Rows L2 RC
/-- the def at f may be called with n values and the keywords ks -/
def CallKw (P : Program) (w : World) (K : PySem.W.Frag) (mg : Str → Option Value) (base : Heap) (k : Nat) (f : Addr) (ps : List Str) (n : Nat) (ks : List Str) (gV : List V → List V → List V) (sp : Sp) : Prop :=
  ∃ (fd : FuncData) (g : List Value → List Value → List Value), FnOk P w K mg base CX0 k f fd ps sp ∧ KBn K fd ps n ks g gV ∧ PySem.W.keepIn K (.ref f) = true
section
variable {X : Cx} {k : Nat} {f C : Addr} {ps ks : List Str} {sp : Sp} {gV : List V → List V → List V} {x m : Str} {p pos apos : Pos} {o : Expr} {kws : List Keyword} {ta : TE} {tk : TA} {pl : Sem Bool}
/-- o.m(k = v, ..) -/
def tMethK (C : Addr) (m : Str) (n : Nat) (sp : Sp) (gV : List V → List V → List V) (ta : TE) (tk : TA) : TE := fun σ H Q => ta σ H fun x H1 => ∃ a dx fs, x = .ref a ∧ H1 a = some (.ins C dx fs) ∧ fs.lookup m = none ∧
  tk σ H1 fun zs H2 => zs.length = n ∧ sp (gV [x] zs) H2 Q E0
theorem pe_mtK (cl : Cls X.K C) (hm : Meth X.K C m f) (c : CallKw X.prog X.w X.K X.mg X.base k f ps 1 ks gV sp) (hr : Room k X.A) (he : PE X o ta) (hkw : PK X kws tk)
    (hall : (backToKw pos (keywordEach kws X.env)).all (·.1.isSome) = true := by rfl) (hks : (backToKw pos (keywordEach kws X.env)).filterMap (·.1) = ks := by rfl)
    (hpl : ((backTo pos (starEach [] X.env)).any (·.1) || (backToKw pos (keywordEach kws X.env)).any (·.1.isNone)) = false := by rfl)
    (ht : eval (.Call (.Attribute o m apos) [] kws pos) X.env = (do
      let ov ← eval o X.env
      standAt apos.atName
      let (f, first) ← holding [ov] (getMethod ov m pl)
      callWith pos f first (backTo pos (starEach [] X.env)) (backToKw pos (keywordEach kws X.env))) := by rfl) :
    PE X (.Call (.Attribute o m apos) [] kws pos) (tMethK C m ks.length sp gV ta tk) := by
  obtain ⟨fd, g, F, hb, hk⟩ := c
  refine ⟨fun pins s σ H Q I h => ?_⟩
  refine PySem.W.methodCall_KW (pl := pl) (thn (he.run pins s σ H _ I h) fun u s1 ⟨z, H1, I1, rz, a, dx, fs, ez, ea, l, q⟩ => ?_) ht
  subst ez
  obtain rfl : u = Value.ref a := rz
  refine getmeth_ok I1 ea cl hm l ?_
  refine PySem.W.callWith_KW0 (first := [.ref a]) (h₀ := X.base) I.ok.mod.kin hm.kp hall (thn (hkw.run pos pins s1 σ H1 _ I1 q) fun ws s2 ⟨zs, H2, I2, r, l2, q2⟩ => ⟨I2.kIn, ?_⟩) hpl
  rw [hks]
  exact run_fnN (us := [.ref a]) (vs := [.ref a]) F hr hb pass0 I2 (.cons rfl .nil) r rfl l2 q2
/-- C(k = v, ..) -/
def tMakeK (C : Addr) (n : Nat) (sp : Sp) (gV : List V → List V → List V) (tk : TA) : TE := fun σ H Q => tk σ H fun zs H2 => zs.length = n ∧
  ∀ x dx, H2 x = none → H2 dx = none → dx ≠ x → sp (gV [.ref x] zs) (upd (upd H2 dx (.own x)) x (.ins C dx [])) (fun v H3 => v = .non ∧ Q (.ref x) H3) E0
theorem pe_mkK (M : Mk X.K C f) (hm : X.mg x = some (.ref C)) (c : CallKw X.prog X.w X.K X.mg X.base k f ps 1 ks gV sp) (hr : Room (k + 1) X.A) (hg : Gl X x) (hkw : PK X kws tk)
    (hall : (backToKw pos (keywordEach kws X.env)).all (·.1.isSome) = true := by rfl) (hks : (backToKw pos (keywordEach kws X.env)).filterMap (·.1) = ks := by rfl)
    (hdb : (x == ("__debug__" : Str)) = false := by decide)
    (hpl : ((backTo pos (starEach [] X.env)).any (·.1) || (backToKw pos (keywordEach kws X.env)).any (·.1.isNone)) = false := by rfl) :
    PE X (.Call (.Name x p) [] kws pos) (tMakeK C ks.length sp gV tk) := by
  obtain ⟨fd, g, F, hb, hk⟩ := c
  refine ⟨fun pins s σ H Q I h => ?_⟩
  refine wpAny_Call_Name_kw (ld_glob I hg hm ?_ hdb)
  refine PySem.W.callWith_KW0 (first := []) (h₀ := X.base) I.ok.mod.kin M.kp hall (thn (hkw.run pos pins s σ H _ I h) fun ws s2 ⟨zs, H2, I2, r, l2, q2⟩ => ⟨I2.kIn, ?_⟩) hpl
  rw [hks]
  exact run_makeN (n := 0) (us := []) (vs := []) M F hr hb pass0 I2 .nil r rfl l2 q2
end
section
variable {P : Program} {w : World} {K : PySem.W.Frag} {mg : Str → Option Value} {base : Heap} {x qual : Str} {dvs : List V} {f : Addr} {k n : Nat} {N ps ks : List Str} {sp : Sp}
/-- a def without defaults -/
theorem stands_kw0 {st : Stmt} (g : {α : Type} → List α → List α → List α) (F : Stands K x qual st [] f) (S : FnScope N ps (defScope st)) (len : ∀ vs H Q E, sp vs H Q E → vs.length = ps.length)
    (hbody : ∀ (cdv : Value) (A : Around) (outer : List Env) (s : Shared) (H : Hp) (vs : List V) (Q : VK) (E : XK), Room k (A.deeper (envOfC qual (defScope st) s.heap.objs.size f cdv)) → sp vs H Q E →
      ∃ t, PSs (cxOf CX0 P w K mg base N qual (defScope st) f cdv A outer s H E).nox (defBody st) t ∧ t { nx := fun _ H' => Q .non H', rt := Q } (start N vs) H)
    (hrel : ∀ {vs zs : List V} {us ws : List Value}, Vals vs us → Vals zs ws → Vals (g vs zs) (g us ws))
    (h0 : ∀ (kV doc pm : Value) (an : Option Addr) (cdv ct : Value) (us ws : List Value), us.length = n → ws.length = ks.length → bindArgs (PySem.W.fnOf x qual (defArgs st) (defBody st) (defScope st) .none kV doc pm an cdv ct) ⟨us, ks.zip ws⟩ = pure (ps.zip (g us ws))) :
    CallKw P w K mg base (k + 1) f ps n ks g sp := by
  obtain ⟨fd, F⟩ := F
  have ok : FnOk P w K mg base CX0 (k + 1) f fd ps sp := F.ok S len fun cdv A outer s H vs Q E hr hsp => by
    obtain ⟨t, h, q⟩ := hbody cdv A outer s H vs Q E hr hsp
    exact ⟨t, h.nox, q⟩
  refine ⟨fd, g, ok, ⟨?_, fun r1 r2 => hrel r1 r2⟩, F.kp⟩
  obtain ⟨oc, od, dV, kV, doc, pm, an, cdv, ct, osl, rfl, lk, hcd, hD, hK⟩ := F.ex
  rcases hD with ⟨_, rfl⟩ | ⟨e, _⟩
  · exact fun s us ws _ l1 l2 => .of_eq (h0 kV doc pm an cdv ct us ws l1 l2)
  · exact absurd rfl e
/-- a def with defaults -/
theorem stands_kwD {st : Stmt} (g : {α : Type} → List α → List α → List α → List α) (hd : dvs ≠ []) (F : Stands K x qual st dvs f) (S : FnScope N ps (defScope st)) (len : ∀ vs H Q E, sp vs H Q E → vs.length = ps.length)
    (hbody : ∀ (cdv : Value) (A : Around) (outer : List Env) (s : Shared) (H : Hp) (vs : List V) (Q : VK) (E : XK), Room k (A.deeper (envOfC qual (defScope st) s.heap.objs.size f cdv)) → sp vs H Q E →
      ∃ t, PSs (cxOf CX0 P w K mg base N qual (defScope st) f cdv A outer s H E).nox (defBody st) t ∧ t { nx := fun _ H' => Q .non H', rt := Q } (start N vs) H)
    (hrel : ∀ {vs ds zs : List V} {us its ws : List Value}, Vals vs us → Vals ds its → Vals zs ws → Vals (g vs ds zs) (g us its ws))
    (h : ∀ (T : Addr) (kV doc pm : Value) (an : Option Addr) (cdv ct : Value) (us its ws : List Value), us.length = n → its.length = dvs.length → ws.length = ks.length →
      ∃ k, bindArgs (PySem.W.fnOf x qual (defArgs st) (defBody st) (defScope st) (.ref T) kV doc pm an cdv ct) ⟨us, ks.zip ws⟩ = seqItems? (.ref T) >>= k ∧ k (some its.toArray) = pure (ps.zip (g us its ws))) :
    CallKw P w K mg base (k + 1) f ps n ks (fun vs zs => g vs dvs zs) sp := by
  obtain ⟨fd, F⟩ := F
  have ok : FnOk P w K mg base CX0 (k + 1) f fd ps sp := F.ok S len fun cdv A outer s H vs Q E hr hsp => by
    obtain ⟨t, h, q⟩ := hbody cdv A outer s H vs Q E hr hsp
    exact ⟨t, h.nox, q⟩
  obtain ⟨its, hb⟩ := F.kbindsD n ks g hd hrel h
  exact ⟨fd, _, ok, hb, F.kp⟩
theorem CallKw.up {j : Nat} {gV : List V → List V → List V} (c : CallKw P w K mg base j f ps n ks gV sp) (h : j ≤ k) : CallKw P w K mg base k f ps n ks gV sp :=
  let ⟨fd, g, F, r⟩ := c
  ⟨fd, g, F.mono h, r⟩
end
end RK

set_option Elab.async false
set_option linter.all false
set_option maxRecDepth 100000
set_option maxHeartbeats 4000000
/-! None as a key: d.get(x, z) where x may be None. -/
namespace RZN
open PySem PySem.Spec PyProof.Rows L2 RC
section
variable {X : Cx} {pins : List (Addr × Obj)} {σ : L2.St} {H : Hp} {s : Shared} {a : Addr} {kvs : List (Key × V)} {A : Around} {E : Value → Shared → Prop} {r : Value}
theorem none_get2 {Q : Value → Shared → Prop} (I : Inv X pins σ H s) (e : Rd H a (.dK kvs)) (h : ∀ s', Inv X pins σ H s' → Q r s') :
    wpAny (model X.prog X.w) A (call (.builtin "dict.get") [.ref a, .none, r]) Q E s := by
  obtain ⟨_, hd, vs, rel, dd⟩ := dk_rd I.hok e
  obtain ⟨g, mp, g0⟩ := none_map dd
  refine call_meetsIn PySem.F.slot_dict_get dd.typeIs PySem.F.entry_dict_get (PySem.F.args_dict_get_3 _ _ _) (meets_dict_get_default (noneKind X.prog X.w) a (show (noneKind X.prog X.w).is none .none = true from rfl) hd r) ⟨g, mp, ?_⟩
  rw [g0]
  exact h _ (I.tok _)
end
def tDGetN2 (td ty tx : TE) : TE := fun σ H Q => td σ H fun x H1 => ∃ a, x = .ref a ∧ IsD H1 a ∧ ty σ H1 fun y H2 => tx σ H2 fun z H3 => (∃ o, DGet H3 a y o ∧ Q (o.getD z) H3) ∨ ∃ kvs, y = .non ∧ Rd H3 a (.dK kvs) ∧ Q z H3
section
variable {X : Cx} {o e f : Expr} {td ty tx : TE} {apos cpos : Pos}
theorem pe_dgetN2 (hu : X.A.units + 1 < cLine) (ho : PE X o td) (he : PE X e ty) (hf : PE X f tx) (m : M2 X o "get" apos e f cpos) : PE X (.Call (.Attribute o "get" apos) [e, f] [] cpos) (tDGetN2 td ty tx) := by
  refine ⟨fun pins s σ H Q I h => ?_⟩
  refine wpAny_Call_method m.base m.few m.line PySem.F.plainAttrs_dict PySem.F.slot_dict_get PySem.F.type_dict_get (thn (ho.run pins s σ H _ I h) fun du sA ⟨x, HA, IA, rx, a, ex, isd, qA⟩ => ?_)
  subst ex
  obtain rfl : du = Value.ref a := rx
  obtain ⟨k1, k2, _⟩ := isD_at IA isd
  refine ⟨k1, k2, ?_⟩
  rw [m.trees]
  refine Calls.callWith_builtin rfl (Calls.evalArgs_plain (Calls.spliced_cons (thn (he.run pins sA σ HA _ IA qA) fun ku sB ⟨y, HB, IB, ry, qB⟩ =>
    Calls.spliced_cons (thn (hf.run pins sB σ HB _ IB qB) fun zu sC ⟨z, HC, IC, rz, qC⟩ => Calls.spliced_nil ?_))))
  rcases qC with ⟨ov, g, q⟩ | ⟨kvs, ey, g, q⟩
  · exact d_get2 hu IC g ry rz fun w' sD ID rw' => ⟨_, HC, ID, rw', q⟩
  · subst ey
    obtain rfl : ku = Value.none := ry
    exact none_get2 IC g fun sD ID => ⟨z, HC, ID, rz, q⟩
end
end RZN

set_option Elab.async false
set_option linter.all false
set_option maxRecDepth 100000
set_option maxHeartbeats 4000000
/-! a, b = a list of that length. -/
namespace RUl
open PySem PySem.Spec PyProof.Rows L2
section
variable {prog : Program} {w : World} {A : Around} {E : Value → Shared → Prop}
theorem pullL {it l : Addr} {us : Array Value} (ne : l ≠ it) (m : Nat) : ∀ (j : Nat) (st : Shared) (R : List Value → Shared → Prop), st.heap.IsListIter it l j → st.heap.IsList l us → j + m ≤ us.size →
    (∀ g, g.IsListIter it l (j + m) → Heap.SameBut it st.heap g → R ((us.toList.drop j).take m) { st with heap := g }) → wpAny (model prog w) A (draw (.ref it) m) R E st := by
  induction m with
  | zero =>
    intro j st R hi hl hle q
    show wpAny _ _ (pure []) _ _ _
    refine wpAny_pure ?_
    have := q st.heap hi (Heap.SameBut.refl ..)
    simpa using this
  | succ m ih =>
    intro j st R hi hl hle q
    have lt : j < us.size := by omega
    show wpAny _ _ (pyNext (.ref it) >>= _) _ _ _
    refine wpAny_bind (wpAny_pyNext_list_item hi hl (x := us[j]) (by simp [lt]) fun g1 i1 b1 => ?_)
    refine wpAny_bind (wpAny_holding (ih (j + 1) _ _ i1 (hl.extBut b1.extBut ne) (by omega) fun g2 i2 b2 => wpAny_pure ?_))
    have ed : us.toList.drop j = us[j] :: us.toList.drop (j + 1) := by simp [List.drop_eq_getElem_cons, lt]
    have z := q g2 (by rw [show j + (m + 1) = j + 1 + m by omega]; exact i2) (b1.trans b2)
    rwa [ed, List.take_succ_cons] at z
theorem unpL {l : Addr} {us : Array Value} {st : Shared} {R : List Value → Shared → Prop} (calm : A.handled = none) (hl : st.heap.IsList l us)
    (q : ∀ g, Heap.ExtBut st.heap.objs.size st.heap g → R us.toList { st with heap := g }) : wpAny (model prog w) A (unpackItems (.ref l) us.size none) R E st := by
  have ne : l ≠ st.heap.objs.size := by
    obtain ⟨o, ho, _⟩ := hl
    exact Nat.ne_of_lt (Heap.lt_size ho)
  unfold unpackItems
  refine wpAny_bind ?_
  unfold notIterableAtAll
  refine wpAny_bind (wpAny_specialOf hl.typeIs slot_list_iter.lookup (wpAny_pure ?_))
  simp only [Bool.false_eq_true, if_false]
  refine wpAny_bind (wpAny_holding (wpAny_pyIter_list hl ?_))
  refine wpAny_bind (wpAny_holding (pullL ne us.size 0 _ _ ⟨_, Heap.get?_push_size _ rfl, rfl, rfl⟩ (hl.push _) (by omega) fun g1 i1 b1 => ?_))
  rw [List.drop_zero, List.take_of_length_le (show us.toList.length ≤ us.size by simp), if_neg (by simp)]
  refine wpAny_bind (wpAny_holding (wpAny_pyNext_list_end calm i1 ((hl.push _).extBut b1.extBut ne) (by simp) fun g2 e2 => ?_))
  simp only [Option.isSome_none, Bool.false_eq_true, if_false]
  exact wpAny_pure (q g2 fun b o hb e => e2 b o hb (b1.extBut b o hb (Heap.get?_push_of_some _ e)))
end
/-- (a, b, ..) = a list of that length -/
def gUnL (K : PySem.W.Frag) (n : Nat) (t : TGs) : TG := fun v σ H Q => ∃ a xs, v = .ref a ∧ SqL K H a xs ∧ xs.length = n ∧ t xs σ H Q
theorem pg_unL {X : Cx} {K : PySem.W.Frag} {es : List Expr} {k n : Nat} {pos : Pos} {t : TGs} (hc : X.calm = true) (h : PGs X es t) (hn : (assignEach es X.env).length = n := by rfl) (hst : (assignEach es X.env).findIdx? (·.1) = none := by rfl) (z : X.K = K := by rfl) :
    PG X (.Tuple es k pos) (gUnL K n t) := by
  subst z
  refine ⟨fun pins s σ H v u Q I r q => ?_⟩
  obtain ⟨l, xs, rfl, hq, hlen, q⟩ := q
  obtain rfl : u = Value.ref l := r
  obtain ⟨us, rv, pl, _⟩ := I.list hq
  have e : (assignEach es X.env).length = us.toArray.size := by rw [hn, List.size_toArray, ← rv.length]; exact hlen.symm
  rw [assign_Tuple]
  refine wpAny_bind (wpAny_standAt ?_)
  unfold unpack
  rw [e, hst]
  refine wpAny_bind (wpAny_holding (unpL (I.ok.hd hc) pl.isList fun g hx => ?_))
  exact h.run pins _ σ H xs _ Q (I.kept (t' := s.toks) fun b o eb => hx b o (Nat.ne_of_lt (Heap.lt_size eb)) eb) (by simpa using rv) q
/-- a for's list, in a comprehension's block -/
theorem pi_listK {X : Cx} {K : PySem.W.Frag} {tg l : Expr} {tl : TE} (hl : PE X l tl) (z : X.K = K := by rfl) : PI X tg l (iList K tl) := z ▸ pi_list hl
end RUl

set_option Elab.async false
set_option linter.all false
set_option maxRecDepth 100000
set_option maxHeartbeats 4000000
/-! A model M of what stands at the places ad: what is changed at one model leaves the others. -/
namespace RR
open PySem PySem.Spec PyProof.Rows L2 RC
section
variable {R S : Type} {M M' M'' : R → Option HO} {N N' : S → Option HO} {ad ad' ad'' : R → Addr} {bd bd' : S → Addr} {H H' H'' : Hp} {b p s l : Addr} {o o0 o1 : HO}
structure Rep (M : R → Option HO) (ad : R → Addr) (H : Hp) : Prop where
  at_ : ∀ r o, M r = some o → H (ad r) = some o
  inj : ∀ r r' o o', M r = some o → M r' = some o' → ad r = ad r' → r = r'
def Out (M : R → Option HO) (ad : R → Addr) (b : Addr) : Prop := ∀ r u, M r = some u → ad r ≠ b
structure Mv {R S : Type} (M : R → Option HO) (ad : R → Addr) (H : Hp) (M' : S → Option HO) (ad' : S → Addr) (H' : Hp) : Prop where
  keep : ∀ b o, Out M ad b → H b = some o → H' b = some o
  img : ∀ r u, M' r = some u → (∃ r' u', M r' = some u' ∧ ad r' = ad' r) ∨ H (ad' r) = none
theorem Rep.out (h : Rep M ad H) (hp : H p = none) : Out M ad p := fun r u e z => by rw [← z, h.at_ _ _ e] at hp; cases hp
theorem Mv.refl (H : Hp) : Mv M ad H M ad H := ⟨fun _ _ _ e => e, fun r u e => .inl ⟨r, u, e, rfl⟩⟩
theorem Mv.out {R S : Type} {M : R → Option HO} {ad : R → Addr} {M' : S → Option HO} {ad' : S → Addr} (m : Mv M ad H M' ad' H') (h : Out M ad b) (e : H b = some o) : Out M' ad' b := fun r u er z => by
  rcases m.img r u er with ⟨r', u', e', z'⟩ | hn
  · exact h r' u' e' (z'.trans z)
  · rw [z, e] at hn; cases hn
theorem Mv.trans {R S U : Type} {M : R → Option HO} {ad : R → Addr} {M' : S → Option HO} {ad' : S → Addr} {M'' : U → Option HO} {ad'' : U → Addr} (a : Mv M ad H M' ad' H') (c : Mv M' ad' H' M'' ad'' H'') : Mv M ad H M'' ad'' H'' where
  keep := fun b o h e => c.keep b o (a.out h e) (a.keep b o h e)
  img := fun r u e => by
    rcases c.img r u e with ⟨r', u', e', z⟩ | hn
    · rcases a.img r' u' e' with ⟨r2, u2, e2, z2⟩ | h
      · exact .inl ⟨r2, u2, e2, z2.trans z⟩
      · exact .inr (by rw [← z]; exact h)
    · cases hH : H (ad'' r) with
      | none => exact .inr rfl
      | some o =>
        by_cases ho : Out M ad (ad'' r)
        · rw [a.keep _ _ ho hH] at hn; cases hn
        · refine .inl ?_
          apply Classical.byContradiction
          intro z
          exact ho fun r' u' e' q => z ⟨r', u', e', q⟩
theorem Rep.same (h : Rep M ad H) (e : Same H H') : Rep M ad H' := ⟨fun r o q => e _ _ (h.at_ r o q), h.inj⟩
theorem Mv.same (e : Same H H') : Mv M ad H M ad H' := ⟨fun b o _ q => e b o q, fun r u q => .inl ⟨r, u, q, rfl⟩⟩
theorem Mv.sameR {R S : Type} {M : R → Option HO} {ad : R → Addr} {M' : S → Option HO} {ad' : S → Addr} (a : Mv M ad H M' ad' H') (e : Same H' H'') : Mv M ad H M' ad' H'' := a.trans (Mv.same e)
theorem Mv.sameL {R S : Type} {M : R → Option HO} {ad : R → Addr} {M' : S → Option HO} {ad' : S → Addr} (a : Mv M ad H' M' ad' H'') (e : Same H H') : Mv M ad H M' ad' H'' := (Mv.same e).trans a
def Dj (M : R → Option HO) (ad : R → Addr) (N : S → Option HO) (bd : S → Addr) : Prop := ∀ r u, N r = some u → Out M ad (bd r)
theorem Dj.symm (d : Dj M ad N bd) : Dj N bd M ad := fun r u e r' u' e' z => d r' u' e' r u e z.symm
theorem Mv.rep {R S U : Type} {M : R → Option HO} {ad : R → Addr} {M' : S → Option HO} {ad' : S → Addr} {N : U → Option HO} {bd : U → Addr} (a : Mv M ad H M' ad' H') (d : Dj M ad N bd) (n : Rep N bd H) : Rep N bd H' := ⟨fun r o q => a.keep _ _ (d r o q) (n.at_ r o q), n.inj⟩
theorem Mv.dj {R S U : Type} {M : R → Option HO} {ad : R → Addr} {M' : S → Option HO} {ad' : S → Addr} {N : U → Option HO} {bd : U → Addr} (a : Mv M ad H M' ad' H') (d : Dj M ad N bd) (n : Rep N bd H) : Dj M' ad' N bd := fun r u q => a.out (d r u q) (n.at_ r u q)
theorem Rep.set (h : Rep M ad H) (r : R) (h0 : M r = some o0) (h1 : M' r = some o) (h2 : ∀ r', r' ≠ r → M' r' = M r') : Rep M' ad (upd H (ad r) o) ∧ Mv M ad H M' ad (upd H (ad r) o) := by
  have k : ∀ r' u, M' r' = some u → ∃ u', M r' = some u' := fun r' u e => by
    by_cases c : r' = r
    · rw [c]; exact ⟨_, h0⟩
    · rw [h2 r' c] at e; exact ⟨_, e⟩
  refine ⟨⟨fun r' u e => ?_, fun r1 r2 u1 u2 e1 e2 z => ?_⟩, fun b u hb e => ?_, fun r' u e => ?_⟩
  · by_cases c : r' = r
    · rw [c, upd_same]; rw [c, h1] at e; exact e
    · rw [h2 r' c] at e
      rw [upd_ne (fun z => c (h.inj _ _ _ _ e h0 z))]; exact h.at_ _ _ e
  · obtain ⟨v1, q1⟩ := k _ _ e1
    obtain ⟨v2, q2⟩ := k _ _ e2
    exact h.inj _ _ _ _ q1 q2 z
  · rw [upd_ne (fun z => hb r _ h0 z.symm)]; exact e
  · obtain ⟨u', q⟩ := k _ _ e
    exact .inl ⟨r', u', q, rfl⟩
theorem Rep.new (h : Rep M ad H) (hp : H p = none) (r : R) (h1 : M' r = some o) (h2 : ∀ r', r' ≠ r → M' r' = M r') (a1 : ad' r = p) (a2 : ∀ r', r' ≠ r → ad' r' = ad r') : Rep M' ad' (upd H p o) ∧ Mv M ad H M' ad' (upd H p o) := by
  refine ⟨⟨fun r' u e => ?_, fun r1 r2 u1 u2 e1 e2 z => ?_⟩, fun b u hb e => ?_, fun r' u e => ?_⟩
  · by_cases c : r' = r
    · rw [c, a1, upd_same]; rw [c, h1] at e; exact e
    · rw [h2 r' c] at e
      have g := h.at_ _ _ e
      rw [a2 r' c, upd_ne (fun z => by rw [z, hp] at g; cases g)]; exact g
  · by_cases c1 : r1 = r
    · by_cases c2 : r2 = r
      · rw [c1, c2]
      · rw [h2 r2 c2] at e2
        have g := h.at_ _ _ e2
        rw [c1, a1, a2 r2 c2] at z
        rw [← z, hp] at g; cases g
    · by_cases c2 : r2 = r
      · rw [h2 r1 c1] at e1
        have g := h.at_ _ _ e1
        rw [c2, a1, a2 r1 c1] at z
        rw [z, hp] at g; cases g
      · rw [h2 r1 c1] at e1
        rw [h2 r2 c2] at e2
        rw [a2 r1 c1, a2 r2 c2] at z
        exact h.inj _ _ _ _ e1 e2 z
  · rw [upd_ne (fun z => by rw [z, hp] at e; cases e)]; exact e
  · by_cases c : r' = r
    · rw [c, a1]; exact .inr hp
    · rw [h2 r' c] at e
      exact .inl ⟨r', u, e, (a2 r' c).symm⟩
/-- a new thing at one place, and a place that tells of it -/
theorem Rep.newset (h : Rep M ad H) (hp : H p = none) (r r0 : R) (hr : r0 ≠ r) (h0 : M r0 = some o0) (h1 : M' r = some o) (h3 : M' r0 = some o1) (h2 : ∀ r', r' ≠ r → r' ≠ r0 → M' r' = M r') (a1 : ad' r = p) (a2 : ∀ r', r' ≠ r → ad' r' = ad r') :
    Rep M' ad' (upd (upd H p o) (ad r0) o1) ∧ Mv M ad H M' ad' (upd (upd H p o) (ad r0) o1) := by
  classical
  obtain ⟨g1, g2⟩ := h.new (M' := fun r' => if r' = r then some o else M r') hp r (if_pos rfl) (fun r' c => if_neg c) a1 a2
  have e0 : (fun r' => if r' = r then some o else M r') r0 = some o0 := (if_neg hr).trans h0
  obtain ⟨g3, g4⟩ := g1.set (M' := M') r0 e0 h3 (fun r' c => by
    by_cases d : r' = r
    · rw [d, h1]; exact (if_pos rfl).symm
    · rw [h2 r' d c]; exact (if_neg d).symm)
  rw [a2 r0 hr] at g3 g4
  exact ⟨g3, g2.trans g4⟩
theorem Rep.old (h : Rep M ad H) (e : Old s l H H') (hs : Out M ad s) (hl : Out M ad l) : Rep M ad H' := ⟨fun r o q => e _ _ (fun z => hs r o q z) (fun z => hl r o q z) (h.at_ r o q), h.inj⟩
theorem Stm.mv {R S : Type} {M : R → Option HO} {ad : R → Addr} {M' : S → Option HO} {ad' : S → Addr} {n : Nat} (st : Stm H s l n) (a : Mv M ad H M' ad' H') (hs : Out M ad s) (hl : Out M ad l) : Stm H' s l n := by
  obtain ⟨ne, ns, x, c, d, g1, g2, g3⟩ := st
  exact ⟨ne, ns, x, c, d, a.keep _ _ hs g1, a.keep _ _ hl g2, g3⟩
end
end RR

set_option Elab.async false
set_option linter.all false
set_option maxRecDepth 100000
set_option maxHeartbeats 4000000
/-! A world: a stream of draws and several models apart from one another; what is done at one leaves the others. -/
namespace RS
open PySem PySem.Spec PyProof.Rows L2 RC RR
structure Comp where
  R : Type
  M : R → Option HO
  ad : R → Addr
def cell (p : Addr) (o : HO) : Comp := ⟨Unit, fun _ => some o, fun _ => p⟩
abbrev Comp.rep (c : Comp) (H : Hp) : Prop := Rep c.M c.ad H
abbrev Comp.out (c : Comp) (b : Addr) : Prop := Out c.M c.ad b
abbrev Comp.dj (a b : Comp) : Prop := Dj a.M a.ad b.M b.ad
abbrev CMv (c : Comp) (H : Hp) (c' : Comp) (H' : Hp) : Prop := Mv c.M c.ad H c'.M c'.ad H'
structure Wd (H : Hp) (s l : Addr) (n : Nat) (cs : List Comp) : Prop where
  stm : Stm H s l n
  rep : ∀ c ∈ cs, c.rep H
  pw : cs.Pairwise Comp.dj
  os : ∀ c ∈ cs, c.out s ∧ c.out l
section
variable {H H' : Hp} {s l p b : Addr} {n k : Nat} {cs ds : List Comp} {c c' d e f g : Comp} {o o' : HO}
theorem Wd.same (W : Wd H s l n cs) (e : Same H H') : Wd H' s l n cs := ⟨W.stm.same e, fun c h => (W.rep c h).same e, W.pw, W.os⟩
theorem Wd.old (W : Wd H s l n cs) (e : Old s l H H') (st : Stm H' s l k) : Wd H' s l k cs := ⟨st, fun c h => (W.rep c h).old e (W.os c h).1 (W.os c h).2, W.pw, W.os⟩
theorem Wd.mono (W : Wd H s l n cs) (h : n ≤ k) : Wd H s l k cs := ⟨W.stm.mono h, W.rep, W.pw, W.os⟩
theorem Wd.perm (W : Wd H s l n cs) (h : ds.Perm cs) : Wd H s l n ds :=
  ⟨W.stm, fun c hc => W.rep c (h.mem_iff.mp hc), (h.pairwise_iff (fun {a b} hab => Dj.symm hab)).mpr W.pw, fun c hc => W.os c (h.mem_iff.mp hc)⟩
theorem Wd.hd (W : Wd H s l n (c :: cs)) : c.rep H := W.rep c List.mem_cons_self
theorem Wd.tl (W : Wd H s l n (c :: cs)) : Wd H s l n cs := ⟨W.stm, fun d h => W.rep d (List.mem_cons_of_mem _ h), (List.pairwise_cons.mp W.pw).2, fun d h => W.os d (List.mem_cons_of_mem _ h)⟩
theorem Wd.mv (W : Wd H s l n (c :: cs)) (R : c'.rep H') (m : CMv c H c' H') : Wd H' s l n (c' :: cs) := by
  have hp := List.pairwise_cons.mp W.pw
  have hs := W.os c List.mem_cons_self
  obtain ⟨ne, ns, x, cc, dd, g1, g2, g3⟩ := id W.stm
  refine ⟨Stm.mv W.stm m hs.1 hs.2, fun d hd => ?_, List.pairwise_cons.mpr ⟨fun d hd => ?_, hp.2⟩, fun d hd => ?_⟩
  · rcases List.mem_cons.mp hd with rfl | hd
    · exact R
    · exact m.rep (hp.1 d hd) (W.rep d (List.mem_cons_of_mem _ hd))
  · exact m.dj (hp.1 d hd) (W.rep d (List.mem_cons_of_mem _ hd))
  · rcases List.mem_cons.mp hd with rfl | hd
    · exact ⟨m.out hs.1 g1, m.out hs.2 g2⟩
    · exact W.os d (List.mem_cons_of_mem _ hd)
theorem cell_rep (h : H p = some o) : (cell p o).rep H := ⟨fun _ u e => by cases e; exact h, fun _ _ _ _ _ _ _ => rfl⟩
theorem cell_out (h : b ≠ p) : (cell p o).out b := fun _ _ _ z => h z.symm
theorem Wd.new (W : Wd H s l n cs) (hp : H p = none) : Wd (upd H p o) s l n (cell p o :: cs) := by
  have W' := W.same (same_new hp o)
  obtain ⟨ne, ns, x, cc, dd, g1, g2, g3⟩ := W.stm
  refine ⟨W'.stm, fun d hd => ?_, List.pairwise_cons.mpr ⟨fun d hd => ?_, W'.pw⟩, fun d hd => ?_⟩
  · rcases List.mem_cons.mp hd with rfl | hd
    · exact cell_rep upd_same
    · exact W'.rep d hd
  · intro r u er _ _ _ z
    have z : p = d.ad r := z
    exact (W.rep d hd).out hp r u er z.symm
  · rcases List.mem_cons.mp hd with rfl | hd
    · exact ⟨cell_out (fun z => (by rw [← z, g1] at hp; cases hp)), cell_out (fun z => (by rw [← z, g2] at hp; cases hp))⟩
    · exact W'.os d hd
/-- what was laid since -/
theorem Wd.fresh (W : Wd H s l n cs) (e : Same H H') (hp : H p = none) (h : H' p = some o) : Wd H' s l n (cell p o :: cs) := by
  have W' := W.same e
  obtain ⟨ne, ns, x, cc, dd, g1, g2, g3⟩ := W.stm
  refine ⟨W'.stm, fun d hd => ?_, List.pairwise_cons.mpr ⟨fun d hd => ?_, W'.pw⟩, fun d hd => ?_⟩
  · rcases List.mem_cons.mp hd with rfl | hd
    · exact cell_rep h
    · exact W'.rep d hd
  · intro r u er _ _ _ z
    have z : p = d.ad r := z
    exact (W.rep d hd).out hp r u er z.symm
  · rcases List.mem_cons.mp hd with rfl | hd
    · exact ⟨cell_out (fun z => (by rw [← z, g1] at hp; cases hp)), cell_out (fun z => (by rw [← z, g2] at hp; cases hp))⟩
    · exact W'.os d hd
/-- a model was laid since, at places that were free -/
theorem Wd.add (W : Wd H s l n cs) (e : Same H H') (R : c.rep H') (hf : ∀ r u, c.M r = some u → H (c.ad r) = none) : Wd H' s l n (c :: cs) := by
  have W' := W.same e
  obtain ⟨ne, ns, x, cc, dd, g1, g2, g3⟩ := W.stm
  refine ⟨W'.stm, fun d hd => ?_, List.pairwise_cons.mpr ⟨fun d hd => ?_, W'.pw⟩, fun d hd => ?_⟩
  · rcases List.mem_cons.mp hd with rfl | hd
    · exact R
    · exact W'.rep d hd
  · intro r u er r' u' er' z
    have h := (W.rep d hd).at_ r u er
    rw [← z, hf r' u' er'] at h; cases h
  · rcases List.mem_cons.mp hd with rfl | hd
    · exact ⟨fun r u er z => (by rw [← z, hf r u er] at g1; cases g1), fun r u er z => (by rw [← z, hf r u er] at g2; cases g2)⟩
    · exact W'.os d hd
theorem Wd.c0 (W : Wd H s l n (cell p o :: cs)) : H p = some o := W.hd.at_ () o rfl
theorem cell_mv : CMv (cell p o) H (cell p o') (upd H p o') := ⟨fun b u hb e => (upd_ne (show b ≠ p from fun z => hb () o rfl z.symm)).trans e, fun _ _ _ => .inl ⟨(), _, rfl, rfl⟩⟩
theorem Wd.set (W : Wd H s l n (cell p o :: cs)) : Wd (upd H p o') s l n (cell p o' :: cs) := W.mv (cell_rep upd_same) cell_mv
theorem Wd.up1 (W : Wd H s l n (c :: d :: cs)) : Wd H s l n (d :: c :: cs) := W.perm (.swap _ _ _)
theorem Wd.up2 (W : Wd H s l n (c :: d :: e :: cs)) : Wd H s l n (e :: c :: d :: cs) := W.perm ((List.Perm.swap _ _ _).trans (.cons _ (.swap _ _ _)))
theorem Wd.dn2 (W : Wd H s l n (e :: c :: d :: cs)) : Wd H s l n (c :: d :: e :: cs) := W.perm (((List.Perm.swap _ _ _).trans (.cons _ (.swap _ _ _))).symm)
theorem Wd.up3 (W : Wd H s l n (c :: d :: e :: f :: cs)) : Wd H s l n (f :: c :: d :: e :: cs) := W.perm ((List.Perm.swap _ _ _).trans (.cons _ ((List.Perm.swap _ _ _).trans (.cons _ (.swap _ _ _)))))
theorem Wd.dn3 (W : Wd H s l n (f :: c :: d :: e :: cs)) : Wd H s l n (c :: d :: e :: f :: cs) := W.perm (((List.Perm.swap _ _ _).trans (.cons _ ((List.Perm.swap _ _ _).trans (.cons _ (.swap _ _ _))))).symm)
theorem Wd.up4 (W : Wd H s l n (c :: d :: e :: f :: g :: cs)) : Wd H s l n (g :: c :: d :: e :: f :: cs) := W.perm ((List.Perm.swap _ _ _).trans (.cons _ ((List.Perm.swap _ _ _).trans (.cons _ ((List.Perm.swap _ _ _).trans (.cons _ (.swap _ _ _)))))))
theorem Wd.dn4 (W : Wd H s l n (g :: c :: d :: e :: f :: cs)) : Wd H s l n (c :: d :: e :: f :: g :: cs) := W.perm (((List.Perm.swap _ _ _).trans (.cons _ ((List.Perm.swap _ _ _).trans (.cons _ ((List.Perm.swap _ _ _).trans (.cons _ (.swap _ _ _))))))).symm)
theorem Wd.sw1 (W : Wd H s l n (c :: d :: e :: cs)) : Wd H s l n (c :: e :: d :: cs) := W.perm (.cons _ (.swap _ _ _))
theorem Wd.dj (W : Wd H s l n (c :: d :: cs)) : c.dj d := (List.pairwise_cons.mp W.pw).1 d List.mem_cons_self
theorem Wd.stmNe (W : Wd H s l n (cell p o :: cs)) : p ≠ s ∧ p ≠ l := ⟨fun z => (W.os _ List.mem_cons_self).1 () o rfl z, fun z => (W.os _ List.mem_cons_self).2 () o rfl z⟩
/-- a place outside of a model -/
theorem rep_out {R : Type} {M : R → Option HO} {ad : R → Addr} (h : Rep M ad H) (ho : Out M ad b) : Rep M ad (upd H b o) := ⟨fun r u e => by rw [upd_ne (ho r u e)]; exact h.at_ r u e, h.inj⟩
end
theorem mv_put {R S : Type} {M : R → Option HO} {M' : S → Option HO} {ad : R → Addr} {ad' : S → Addr} {H H' : Hp} {p : Addr} {o : HO} (a : Mv M ad H M' ad' H') (hp : H p = none) : Mv M ad H M' ad' (upd H' p o) :=
  ⟨fun b u hb e => by rw [upd_ne (ne_of_none e hp)]; exact a.keep b u hb e, a.img⟩
/-- a model becomes another one: what is new lies at places that were free -/
theorem rep_extS {R S : Type} {M : R → Option HO} {M' : S → Option HO} {ad : R → Addr} {ad' : S → Addr} {H H' : Hp} (φ : S → R) (φi : ∀ r r', φ r = φ r' → r = r') (N : List S) (h : Rep M ad H) (at' : ∀ r o, M' r = some o → H' (ad' r) = some o)
    (cls : ∀ r o, M' r = some o → ((∃ o', M (φ r) = some o') ∧ ad' r = ad (φ r)) ∨ (r ∈ N ∧ H (ad' r) = none)) (nj : ∀ r ∈ N, ∀ r' ∈ N, ad' r = ad' r' → r = r') (keep : ∀ b o, Out M ad b → H b = some o → H' b = some o) : Rep M' ad' H' ∧ Mv M ad H M' ad' H' := by
  refine ⟨⟨at', fun r r' o o' e e' z => ?_⟩, keep, fun r u e => ?_⟩
  · rcases cls r o e with ⟨⟨u, g⟩, a⟩ | ⟨n, a⟩
    · rcases cls r' o' e' with ⟨⟨u', g'⟩, a'⟩ | ⟨n', a'⟩
      · rw [a, a'] at z; exact φi _ _ (h.inj _ _ _ _ g g' z)
      · rw [← z, a, h.at_ _ _ g] at a'; cases a'
    · rcases cls r' o' e' with ⟨⟨u', g'⟩, a'⟩ | ⟨n', a'⟩
      · rw [z, a', h.at_ _ _ g'] at a; cases a
      · exact nj r n r' n' z
  · rcases cls r u e with ⟨⟨u', g⟩, a⟩ | ⟨n, a⟩
    · exact .inl ⟨φ r, u', g, a.symm⟩
    · exact .inr a
theorem rep_ext {R : Type} {M M' : R → Option HO} {ad ad' : R → Addr} {H H' : Hp} (N : List R) (h : Rep M ad H) (at' : ∀ r o, M' r = some o → H' (ad' r) = some o)
    (cls : ∀ r o, M' r = some o → ((∃ o', M r = some o') ∧ ad' r = ad r) ∨ (r ∈ N ∧ H (ad' r) = none)) (nj : ∀ r ∈ N, ∀ r' ∈ N, ad' r = ad' r' → r = r') (keep : ∀ b o, Out M ad b → H b = some o → H' b = some o) : Rep M' ad' H' ∧ Mv M ad H M' ad' H' :=
  rep_extS id (fun _ _ z => z) N h at' cls nj keep
/-- two models as one -/
def Comp.sum (c d : Comp) : Comp := ⟨Sum c.R d.R, Sum.elim c.M d.M, Sum.elim c.ad d.ad⟩
theorem rep_sum {c d : Comp} {H : Hp} (hc : c.rep H) (hd : d.rep H) (dj : c.dj d) : (c.sum d).rep H := by
  refine ⟨fun r o e => ?_, fun r r' o o' e e' z => ?_⟩
  · cases r with
    | inl r => exact hc.at_ r o e
    | inr r => exact hd.at_ r o e
  · cases r with
    | inl r =>
      cases r' with
      | inl r' => exact congrArg Sum.inl (hc.inj _ _ _ _ e e' z)
      | inr r' => exact absurd z (dj r' o' e' r o e)
    | inr r =>
      cases r' with
      | inl r' => exact absurd z.symm (dj r o e r' o' e')
      | inr r' => exact congrArg Sum.inr (hd.inj _ _ _ _ e e' z)
theorem sum_out {c d : Comp} {b : Addr} (h : c.out b) (k : d.out b) : (c.sum d).out b := fun r u e => by
  cases r with
  | inl r => exact h r u e
  | inr r => exact k r u e
theorem Wd.join {H : Hp} {s l : Addr} {n : Nat} {c d : Comp} {cs : List Comp} (W : Wd H s l n (c :: d :: cs)) : Wd H s l n (c.sum d :: cs) := by
  have h1 := List.pairwise_cons.mp W.pw
  have h2 := List.pairwise_cons.mp h1.2
  refine ⟨W.stm, fun e he => ?_, List.pairwise_cons.mpr ⟨fun e he => ?_, h2.2⟩, fun e he => ?_⟩
  · rcases List.mem_cons.mp he with rfl | he
    · exact rep_sum W.hd W.tl.hd W.dj
    · exact W.rep e (List.mem_cons_of_mem _ (List.mem_cons_of_mem _ he))
  · intro r u er
    exact sum_out (h1.1 e (List.mem_cons_of_mem _ he) r u er) (h2.1 e he r u er)
  · rcases List.mem_cons.mp he with rfl | he
    · have a := W.os c List.mem_cons_self
      have b := W.os d (List.mem_cons_of_mem _ List.mem_cons_self)
      exact ⟨sum_out a.1 b.1, sum_out a.2 b.2⟩
    · exact W.os e (List.mem_cons_of_mem _ (List.mem_cons_of_mem _ he))
/-- a model out of a list of what lies where -/
theorem rep_list {R : Type} {M : R → Option HO} {ad : R → Addr} {H0 H : Hp} (L : List (R × Addr × HO)) (hM : ∀ r o, M r = some o → (r, ad r, o) ∈ L) (nd : (L.map (·.2.1)).Nodup) (hh : ∀ x ∈ L, H0 x.2.1 = none ∧ H x.2.1 = some x.2.2) :
    Rep M ad H ∧ ∀ r u, M r = some u → H0 (ad r) = none := by
  refine ⟨⟨fun r o e => (hh _ (hM r o e)).2, fun r r' o o' e e' z => ?_⟩, fun r u e => (hh _ (hM r u e)).1⟩
  obtain ⟨i, hi⟩ := List.getElem?_of_mem (hM r o e)
  obtain ⟨j, hj⟩ := List.getElem?_of_mem (hM r' o' e')
  have n1 : (L.map (·.2.1))[i]? = some (ad r) := by rw [List.getElem?_map, hi]; rfl
  have n2 : (L.map (·.2.1))[j]? = some (ad r) := by rw [List.getElem?_map, hj, z]; rfl
  have l := (List.getElem?_eq_some_iff.mp n1).1
  have ij := (List.getElem?_inj l nd).mp (n1.trans n2.symm)
  rw [ij, hj] at hi
  exact (congrArg Prod.fst (Option.some.inj hi)).symm
end RS

set_option Elab.async false
set_option linter.all false
set_option maxRecDepth 100000
set_option linter.all false
set_option maxRecDepth 100000
set_option maxHeartbeats 4000000
/-! Worlds of single cells: cells laid, cells set, a model gathered out of cells. -/
namespace RS
open PySem PySem.Spec PyProof.Rows L2 RC RR
section
variable {H H' : Hp} {s l p m q b : Addr} {n k : Nat} {cs xs ys : List Comp} {c : Comp} {o o' o1 o1' o2 : HO}
abbrev cl (x : Addr × HO) : Comp := cell x.1 x.2
theorem cell_dj (h : p ≠ q) : (cell p o).dj (cell q o1) := fun _ _ _ _ _ _ z => h z
theorem Wd.addL (W : Wd H s l n cs) (e : Same H H') : ∀ L : List (Addr × HO), (L.map (·.1)).Nodup → (∀ x ∈ L, H x.1 = none ∧ H' x.1 = some x.2) → Wd H' s l n (L.map cl ++ cs)
  | [], _, _ => W.same e
  | x :: L, nd, h => by
    obtain ⟨n1, n2⟩ := List.nodup_cons.mp nd
    have W' := Wd.addL W e L n2 fun y hy => h y (List.mem_cons_of_mem _ hy)
    obtain ⟨h1, h2⟩ := h x List.mem_cons_self
    obtain ⟨ne, ns, y, cc, dd, g1, g2, g3⟩ := W.stm
    refine ⟨W'.stm, fun d hd => ?_, List.pairwise_cons.mpr ⟨fun d hd => ?_, W'.pw⟩, fun d hd => ?_⟩
    · rcases List.mem_cons.mp hd with rfl | hd
      · exact cell_rep h2
      · exact W'.rep d hd
    · rcases List.mem_append.mp hd with hd | hd
      · obtain ⟨y, hy, rfl⟩ := List.mem_map.mp hd
        exact cell_dj fun z => n1 (by show x.1 ∈ _; rw [z]; exact List.mem_map_of_mem hy)
      · intro r u er _ _ _ z
        have z : x.1 = d.ad r := z
        exact (W.rep d hd).out h1 r u er z.symm
    · rcases List.mem_cons.mp hd with rfl | hd
      · exact ⟨cell_out (fun z => (by rw [← z, g1] at h1; cases h1)), cell_out (fun z => (by rw [← z, g2] at h1; cases h1))⟩
      · exact W'.os d hd
theorem Wd.mid (W : Wd H s l n (xs ++ c :: ys)) : Wd H s l n (c :: (xs ++ ys)) := W.perm List.perm_middle.symm
theorem Wd.unmid (W : Wd H s l n (c :: (xs ++ ys))) : Wd H s l n (xs ++ c :: ys) := W.perm List.perm_middle
theorem Wd.at_ (W : Wd H s l n (xs ++ cell p o :: ys)) : H p = some o := W.mid.c0
theorem Wd.setM (W : Wd H s l n (xs ++ cell p o :: ys)) : Wd (upd H p o') s l n (xs ++ cell p o' :: ys) := Wd.unmid (Wd.set W.mid)
theorem Wd.neM (W : Wd H s l n (cell p o :: (xs ++ cell m o1 :: ys))) : p ≠ m := fun z => by
  have h := (List.pairwise_cons.mp W.pw).1 (cell m o1) (by simp)
  exact h () o1 rfl () o rfl z
/-- a call that writes the cells p and m and lays q -/
theorem Wd.hand (W : Wd H s l n (cell p o :: (xs ++ cell m o1 :: ys))) (kp : ∀ b u, b ≠ p → b ≠ m → H b = some u → H' b = some u) (hq : H q = none) (hp : H' p = some o') (hm : H' m = some o1') (hq' : H' q = some o2) : Wd H' s l n (cell q o2 :: cell p o' :: (xs ++ cell m o1' :: ys)) := by
  have npm : p ≠ m := W.neM
  have W1 : Wd (upd H p o') s l n (cell p o' :: (xs ++ cell m o1 :: ys)) := W.set
  have W2 : Wd (upd (upd H p o') m o1') s l n ((cell p o' :: xs) ++ cell m o1' :: ys) := Wd.setM (xs := cell p o' :: xs) W1
  have hp0 : H p = some o := W.c0
  have hm0 : H m = some o1 := Wd.at_ (xs := cell p o :: xs) W
  have nqp : q ≠ p := fun z => by rw [z, hp0] at hq; cases hq
  have nqm : q ≠ m := fun z => by rw [z, hm0] at hq; cases hq
  refine Wd.fresh W2 (fun b u e => ?_) (by rw [upd_ne nqm, upd_ne nqp]; exact hq) hq'
  by_cases c1 : b = m
  · subst c1; rw [upd_same] at e; cases e; exact hm
  · rw [upd_ne c1] at e
    by_cases c2 : b = p
    · subst c2; rw [upd_same] at e; cases e; exact hp
    · rw [upd_ne c2] at e; exact kp b u c2 c1 e
/-- a model out of cells -/
theorem Wd.gather {R : Type} {M : R → Option HO} {ad : R → Addr} (L : List (R × Addr × HO)) (W : Wd H s l n (L.map (fun x => cell x.2.1 x.2.2) ++ cs)) (hM : ∀ r o, M r = some o → (r, ad r, o) ∈ L) : Wd H s l n (⟨R, M, ad⟩ :: cs) := by
  have mem : ∀ x ∈ L, cell x.2.1 x.2.2 ∈ L.map (fun x => cell x.2.1 x.2.2) ++ cs := fun x hx => List.mem_append_left _ (List.mem_map_of_mem hx)
  have pw := List.pairwise_append.mp W.pw
  have nd : (L.map (·.2.1)).Nodup := by
    have h1 := List.pairwise_map.mp pw.1
    refine List.pairwise_map.mpr (h1.imp fun {a b} h z => ?_)
    exact h () b.2.2 rfl () a.2.2 rfl z
  have hh : ∀ x ∈ L, (fun _ : Addr => (none : Option HO)) x.2.1 = none ∧ H x.2.1 = some x.2.2 := fun x hx => ⟨rfl, (W.rep _ (mem x hx)).at_ () _ rfl⟩
  have rp := (RS.rep_list (H0 := fun _ => none) L hM nd hh).1
  refine ⟨W.stm, fun d hd => ?_, List.pairwise_cons.mpr ⟨fun d hd => ?_, pw.2.1⟩, fun d hd => ?_⟩
  · rcases List.mem_cons.mp hd with rfl | hd
    · exact rp
    · exact W.rep d (List.mem_append_right _ hd)
  · intro r u er r' u' er' z
    exact pw.2.2 _ (List.mem_map_of_mem (hM r' u' er')) d hd r u er () u' rfl z
  · rcases List.mem_cons.mp hd with rfl | hd
    · exact ⟨fun r u er z => (W.os _ (mem _ (hM r u er))).1 () u rfl z, fun r u er z => (W.os _ (mem _ (hM r u er))).2 () u rfl z⟩
    · exact W.os d (List.mem_append_right _ hd)
theorem pw_at {ds : List Comp} (pw : ds.Pairwise Comp.dj) {i j : Nat} {a b : Comp} (hij : i ≠ j) (ha : ds[i]? = some a) (hb : ds[j]? = some b) : a.dj b := by
  obtain ⟨li, rfl⟩ := List.getElem?_eq_some_iff.mp ha
  obtain ⟨lj, rfl⟩ := List.getElem?_eq_some_iff.mp hb
  rcases Nat.lt_or_ge i j with h | h
  · exact List.pairwise_iff_getElem.mp pw i j li lj h
  · exact Dj.symm (List.pairwise_iff_getElem.mp pw j i lj li (by omega))
/-- some of the models, in another order -/
theorem Wd.pickL (is : List Nat) {ds : List Comp} (W : Wd H s l n (ds ++ cs)) (nd : is.Nodup) : Wd H s l n (is.filterMap (fun i => ds[i]?) ++ cs) := by
  have pw := List.pairwise_append.mp W.pw
  have mem : ∀ c ∈ is.filterMap (fun i => ds[i]?), c ∈ ds := fun c hc => by
    obtain ⟨i, _, hi⟩ := List.mem_filterMap.mp hc
    exact List.mem_of_getElem? hi
  have mm : ∀ c ∈ is.filterMap (fun i => ds[i]?) ++ cs, c ∈ ds ++ cs := fun c hc => by
    rcases List.mem_append.mp hc with h | h
    · exact List.mem_append_left _ (mem c h)
    · exact List.mem_append_right _ h
  refine ⟨W.stm, fun c hc => W.rep c (mm c hc), List.pairwise_append.mpr ⟨?_, pw.2.1, fun a ha b hb => pw.2.2 a (mem a ha) b hb⟩, fun c hc => W.os c (mm c hc)⟩
  refine List.pairwise_filterMap.mpr (nd.imp fun {i j} hij a ha b hb => ?_)
  exact pw_at pw.1 hij ha hb
end
end RS

set_option Elab.async false
set_option linter.all false
set_option maxRecDepth 100000
set_option maxHeartbeats 4000000
/-! What never changes, as one component of a world. -/
namespace RS
open PySem PySem.Spec PyProof.Rows L2 RC RR
def cG (G : Hp) : Comp := ⟨Addr, G, id⟩
section
variable {G H H' : Hp} {s l p : Addr} {n k : Nat} {cs ds : List Comp} {c d : Comp} {o u : HO}
theorem Wd.st (W : Wd H s l n cs) (m : cG G ∈ cs) : Same G H := fun b u e => (W.rep _ m).at_ b u e
theorem Wd.g0 (W : Wd H s l n (cG G :: cs)) : Same G H := W.st List.mem_cons_self
theorem Wd.g1 (W : Wd H s l n (c :: cG G :: cs)) : Same G H := W.st (by simp)
theorem Wd.g2 (W : Wd H s l n (c :: d :: cG G :: cs)) : Same G H := W.st (by simp)
/-- a cell that will not change any more -/
theorem Wd.take (W : Wd H s l n (cG G :: cell p o :: cs)) : Wd H s l n (cG (upd G p o) :: cs) ∧ G p = none := by
  have h1 := List.pairwise_cons.mp W.pw
  have h2 := List.pairwise_cons.mp h1.2
  have key : ∀ (r : Addr) (u : HO), upd G p o r = some u → (r = p ∧ u = o) ∨ (r ≠ p ∧ G r = some u) := fun r u e => by
    by_cases z : r = p
    · subst z; rw [upd_same] at e; exact .inl ⟨rfl, (Option.some.inj e).symm⟩
    · rw [upd_ne z] at e; exact .inr ⟨z, e⟩
  refine ⟨⟨W.stm, fun e he => ?_, List.pairwise_cons.mpr ⟨fun e he => ?_, h2.2⟩, fun e he => ?_⟩, ?_⟩
  · rcases List.mem_cons.mp he with he | he
    · rw [he]
      refine ⟨fun r u e => ?_, fun _ _ _ _ _ _ z => z⟩
      rcases key r u e with ⟨e1, e2⟩ | ⟨_, e⟩
      · rw [e2]
        show H r = _
        rw [e1]; exact W.tl.c0
      · exact W.g0 r u e
    · exact W.rep e (List.mem_cons_of_mem _ (List.mem_cons_of_mem _ he))
  · intro r u er r' u' er' z
    rcases key r' u' er' with ⟨e1, e2⟩ | ⟨_, e'⟩
    · exact h2.1 e he r u er () _ rfl (e1.symm.trans z)
    · exact h1.1 e (List.mem_cons_of_mem _ he) r u er r' u' e' z
  · rcases List.mem_cons.mp he with he | he
    · rw [he]
      have a := W.os _ List.mem_cons_self
      have b := W.os _ (List.mem_cons_of_mem _ List.mem_cons_self)
      refine ⟨fun r u e z => ?_, fun r u e z => ?_⟩
      · rcases key r u e with ⟨e1, e2⟩ | ⟨_, e⟩
        · exact b.1 () _ rfl (e1.symm.trans z)
        · exact a.1 r u e z
      · rcases key r u e with ⟨e1, e2⟩ | ⟨_, e⟩
        · exact b.2 () _ rfl (e1.symm.trans z)
        · exact a.2 r u e z
    · exact W.os e (List.mem_cons_of_mem _ (List.mem_cons_of_mem _ he))
  · cases e : G p with
    | none => rfl
    | some u => exact absurd rfl (h1.1 (cell p o) List.mem_cons_self () o rfl p u e)
/-- a new thing that will not change -/
theorem Wd.lay (W : Wd H s l n (cG G :: cs)) (hp : H p = none) : Wd (upd H p o) s l n (cG (upd G p o) :: cs) ∧ Same G (upd G p o) := by
  have h := (Wd.up1 (W.new (o := o) hp)).take
  exact ⟨h.1, RC.same_new h.2 o⟩
/-- .. what was laid since -/
theorem Wd.layS (W : Wd H s l n (cG G :: cs)) (e : Same H H') (hp : H p = none) (h : H' p = some o) : Wd H' s l n (cG (upd G p o) :: cs) ∧ Same G (upd G p o) := by
  have h := (Wd.up1 (W.fresh e hp h)).take
  exact ⟨h.1, RC.same_new h.2 o⟩
theorem Wd.g0' (W : Wd H s l n cs) : Wd H s l n (cG (fun _ => none) :: cs) :=
  ⟨W.stm, fun e he => by
    rcases List.mem_cons.mp he with rfl | he
    · exact ⟨fun r u e => (nomatch e), fun _ _ _ _ e => (nomatch e)⟩
    · exact W.rep e he, List.pairwise_cons.mpr ⟨fun e he r u er r' u' er' => (nomatch er'), W.pw⟩, fun e he => by
    rcases List.mem_cons.mp he with rfl | he
    · exact ⟨fun r u e => (nomatch e), fun r u e => (nomatch e)⟩
    · exact W.os e he⟩
end
end RS

set_option Elab.async false
set_option linter.all false
set_option maxRecDepth 100000
set_option maxHeartbeats 4000000
/-! Formats in braces, over lists of signs. -/
namespace RO
open RP (S nmLen digB letB nameB digits letters)
def alB (c : Nat) : Bool := decide (c ∈ ([60, 62, 94] : S))
def wdB (l : S) : Bool := (decide (0 < l.length) && decide (l.length < 3)) && (decide (l.head? ≠ some 48) && l.all digB)
/-- fill, align, width as they stand -/
def cut3 : S → S × S × S
  | c :: d :: r => if alB d then ([c], [d], r) else if alB c then ([32], [c], d :: r) else ([32], [], c :: d :: r)
  | [c] => if alB c then ([32], [c], []) else ([32], [], [c])
  | [] => ([32], [], [])
def okB (f a w : S) : Bool := !(decide (f = [123]) || decide (f = [125])) && !(decide (w = []) && decide (a = [])) && (decide (w = []) || wdB w)
def specB (l : S) : Option (S × S × S) := if okB (cut3 l).1 (cut3 l).2.1 (cut3 l).2.2 then some (cut3 l) else none
/-- the conversion, and what is behind it -/
def conv (l : S) : S × S := if l.take 2 = [33, 114] ∨ l.take 2 = [33, 115] then ((l.drop 1).take 1, l.drop 2) else ([], l)
abbrev Fd := S × S × S × S × S
def fieldB (b : S) : Option Fd :=
  if nmLen b = 0 then none else
  match (conv (b.drop (nmLen b))).2 with
  | [] => some (b.take (nmLen b), (conv (b.drop (nmLen b))).1, [32], [], [])
  | c :: r => if c = 58 then (specB r).map fun q => (b.take (nmLen b), (conv (b.drop (nmLen b))).1, q) else none
abbrev Pt := Nat ⊕ Fd
inductive PB : S → Option (List Pt) → Prop
  | nil : PB [] (some [])
  | two {c : Nat} {r : S} {o : Option (List Pt)} : c = 123 ∨ c = 125 → PB r o → PB (c :: c :: r) (o.map (Sum.inl c :: ·))
  | ch {c : Nat} {r : S} {o : Option (List Pt)} : c ≠ 123 → c ≠ 125 → PB r o → PB (c :: r) (o.map (Sum.inl c :: ·))
  | close {r : S} : r.head? ≠ some 125 → PB (125 :: r) none
  | lost {r : S} : r.head? ≠ some 123 → 125 ∉ r → PB (123 :: r) none
  | bad {b r : S} : (b ++ 125 :: r).head? ≠ some 123 → 125 ∉ b → fieldB b = none → PB (123 :: (b ++ 125 :: r)) none
  | fld {b r : S} {f : Fd} {o : Option (List Pt)} : (b ++ 125 :: r).head? ≠ some 123 → 125 ∉ b → fieldB b = some f → PB r o → PB (123 :: (b ++ 125 :: r)) (o.map (Sum.inr f :: ·))
theorem split : ∀ r : S, 125 ∈ r → ∃ b t, r = b ++ 125 :: t ∧ 125 ∉ b
  | [], h => nomatch h
  | c :: r, h => by
    by_cases e : c = 125
    · subst e; exact ⟨[], r, rfl, fun h => nomatch h⟩
    · rcases List.mem_cons.mp h with h | h
      · exact absurd h.symm e
      · obtain ⟨b, t, rfl, hb⟩ := split r h
        refine ⟨c :: b, t, rfl, fun h => ?_⟩
        rcases List.mem_cons.mp h with h | h
        · exact e h.symm
        · exact hb h
theorem total : ∀ (n : Nat) (s : S), s.length ≤ n → ∃ o, PB s o
  | _, [], _ => ⟨_, .nil⟩
  | 0, _ :: _, h => absurd h (Nat.not_succ_le_zero _)
  | n + 1, c :: r, h => by
    have hr : r.length ≤ n := Nat.le_of_succ_le_succ h
    by_cases e1 : c = 123
    · subst e1
      by_cases e : r.head? = some 123
      · cases r with
        | nil => cases e
        | cons d r =>
          cases e
          obtain ⟨o, ho⟩ := total n r (Nat.le_of_succ_le hr)
          exact ⟨_, .two (.inl rfl) ho⟩
      · by_cases m : 125 ∈ r
        · obtain ⟨b, t, rfl, hb⟩ := split r m
          cases f : fieldB b with
          | none => exact ⟨_, .bad e hb f⟩
          | some f' =>
            obtain ⟨o, ho⟩ := total n t (by rw [List.length_append, List.length_cons] at hr; omega)
            exact ⟨_, .fld e hb f ho⟩
        · exact ⟨_, .lost e m⟩
    · by_cases e2 : c = 125
      · subst e2
        by_cases e : r.head? = some 125
        · cases r with
          | nil => cases e
          | cons d r =>
            cases e
            obtain ⟨o, ho⟩ := total n r (Nat.le_of_succ_le hr)
            exact ⟨_, .two (.inr rfl) ho⟩
        · exact ⟨_, .close e⟩
      · obtain ⟨o, ho⟩ := total n r hr
        exact ⟨_, .ch e1 e2 ho⟩
/-- how many braces -/
def brB (c : Nat) : Bool := decide (c = 123 ∨ c = 125)
def cnt (s : S) : Nat := s.countP brB
theorem cnt_app (a b : S) : cnt (a ++ b) = cnt a + cnt b := List.countP_append ..
theorem cnt_zero {s : S} (h : ∀ c ∈ s, c ≠ 123 ∧ c ≠ 125) : cnt s = 0 := by
  unfold cnt
  rw [List.countP_eq_zero]
  intro c hc
  obtain ⟨h1, h2⟩ := h c hc
  unfold brB
  simp [h1, h2]
theorem name_no {c : Nat} (h : nameB c = true) : c ≠ 123 ∧ c ≠ 125 := by
  constructor <;> intro z <;> rw [z] at h <;> revert h <;> decide
theorem dig_no {c : Nat} (h : digB c = true) : c ≠ 123 ∧ c ≠ 125 := by
  constructor <;> intro z <;> rw [z] at h <;> revert h <;> decide
theorem al_no {c : Nat} (h : alB c = true) : c ≠ 123 ∧ c ≠ 125 := by
  constructor <;> intro z <;> rw [z] at h <;> revert h <;> decide
theorem tw_mem {p : Nat → Bool} {c : Nat} : ∀ l : S, c ∈ l.takeWhile p → p c = true
  | [], h => nomatch h
  | a :: r, h => by
    rw [List.takeWhile_cons] at h
    cases e : p a with
    | false => rw [e] at h; cases h
    | true =>
      rw [e] at h
      rcases List.mem_cons.mp h with h | h
      · subst h; exact e
      · exact tw_mem r h
theorem nm_no : ∀ b : S, ∀ c ∈ b.take (nmLen b), c ≠ 123 ∧ c ≠ 125
  | [], _, h => nomatch h
  | a :: r, c, h => by
    rw [RP.nm_cons] at h
    split at h
    · rename_i ha
      rw [show 1 + (r.takeWhile nameB).length = (r.takeWhile nameB).length + 1 by omega, List.take_succ_cons] at h
      rcases List.mem_cons.mp h with h | h
      · subst h; exact name_no (by show (letB c || _) = true; rw [ha]; rfl)
      · refine name_no ?_
        have e : r.take (r.takeWhile nameB).length = r.takeWhile nameB := by
          have hd : r.takeWhile nameB ++ r.dropWhile nameB = r := List.takeWhile_append_dropWhile
          conv => lhs; rw [← hd]
          rw [show (List.takeWhile nameB (List.takeWhile nameB r ++ List.dropWhile nameB r)).length = (List.takeWhile nameB r).length by rw [hd], List.take_left]
        rw [e] at h
        exact tw_mem r h
    · cases h
theorem cut_two (c d : Nat) (r : S) : cut3 (c :: d :: r) = if alB d = true then ([c], [d], r) else if alB c = true then ([32], [c], d :: r) else ([32], [], c :: d :: r) := rfl
theorem cut_one (c : Nat) : cut3 [c] = if alB c = true then ([32], [c], []) else ([32], [], [c]) := rfl
theorem spec_no {l : S} {q : S × S × S} (h : specB l = some q) : ∀ c ∈ l, c ≠ 123 ∧ c ≠ 125 := by
  unfold specB at h
  split at h
  · rename_i hk
    unfold okB at hk
    rw [Bool.and_eq_true, Bool.and_eq_true] at hk
    obtain ⟨⟨h1, _⟩, h3⟩ := hk
    have wno : ∀ w : S, (decide (w = []) || wdB w) = true → ∀ c ∈ w, c ≠ 123 ∧ c ≠ 125 := fun w hw c hc => by
      rcases Bool.or_eq_true_iff.mp hw with z | z
      · rw [of_decide_eq_true z] at hc; cases hc
      · unfold wdB at z
        rw [Bool.and_eq_true] at z
        exact dig_no (List.all_eq_true.mp (Bool.and_eq_true_iff.mp z.2).2 c hc)
    have fno : ∀ c : Nat, (!(decide (([c] : S) = [123]) || decide (([c] : S) = [125]))) = true → c ≠ 123 ∧ c ≠ 125 := fun c hc => by
      constructor <;> intro z <;> rw [z] at hc <;> revert hc <;> decide
    intro c hc
    match l, h1, h3, hc with
    | [], _, _, hc => cases hc
    | [a], h1, h3, hc =>
      obtain rfl := List.mem_singleton.mp hc
      rw [cut_one] at h3
      by_cases ha : alB c = true
      · exact al_no ha
      · rw [if_neg ha] at h3
        exact wno _ h3 _ List.mem_cons_self
    | a :: d :: r, h1, h3, hc =>
      rw [cut_two] at h1 h3
      by_cases hd : alB d = true
      · rw [if_pos hd] at h1 h3
        rcases List.mem_cons.mp hc with rfl | hc
        · exact fno _ h1
        rcases List.mem_cons.mp hc with rfl | hc
        · exact al_no hd
        · exact wno _ h3 _ hc
      · rw [if_neg hd] at h1 h3
        by_cases ha : alB a = true
        · rw [if_pos ha] at h1 h3
          rcases List.mem_cons.mp hc with rfl | hc
          · exact al_no ha
          · exact wno _ h3 _ hc
        · rw [if_neg ha] at h1 h3
          exact wno _ h3 _ hc
  · cases h
theorem conv_no {l r : S} (h : (conv l).2 = r) (hr : ∀ c ∈ r, c ≠ 123 ∧ c ≠ 125) : ∀ c ∈ l, c ≠ 123 ∧ c ≠ 125 := by
  unfold conv at h
  by_cases k : l.take 2 = [33, 114] ∨ l.take 2 = [33, 115]
  · rw [if_pos k] at h
    intro c hc
    rw [← List.take_append_drop 2 l, List.mem_append] at hc
    rcases hc with hc | hc
    · rcases k with k | k
      · rw [k] at hc
        rcases List.mem_cons.mp hc with rfl | hc
        · decide
        · obtain rfl := List.mem_singleton.mp hc; decide
      · rw [k] at hc
        rcases List.mem_cons.mp hc with rfl | hc
        · decide
        · obtain rfl := List.mem_singleton.mp hc; decide
    · exact hr c (h ▸ hc)
  · rw [if_neg k] at h
    subst h; exact hr
theorem field_no {b : S} {f : Fd} (h : fieldB b = some f) : ∀ c ∈ b, c ≠ 123 ∧ c ≠ 125 := by
  unfold fieldB at h
  split at h
  · cases h
  · have tail : ∀ c ∈ b.drop (nmLen b), c ≠ 123 ∧ c ≠ 125 := by
      split at h
      · rename_i e
        exact conv_no e fun c hc => nomatch hc
      · rename_i c r e
        by_cases k : c = 58
        · rw [if_pos k] at h
          cases q : specB r with
          | none => rw [q] at h; cases h
          | some q' =>
            refine conv_no e fun x hx => ?_
            rcases List.mem_cons.mp hx with rfl | hx
            · subst k; decide
            · exact spec_no q x hx
        · rw [if_neg k] at h; cases h
    intro c hc
    rw [← List.take_append_drop (nmLen b) b, List.mem_append] at hc
    rcases hc with hc | hc
    · exact nm_no b c hc
    · exact tail c hc
/-- a right format holds an even number of braces -/
theorem even : ∀ {s : S} {o : Option (List Pt)}, PB s o → o ≠ none → cnt s % 2 = 0
  | _, _, .nil, _ => rfl
  | _, _, .two (c := c) (r := r) (o := o) hc h, k => by
    have ih := even h (fun z => k (by rw [z]; rfl))
    have e : cnt (c :: c :: r) = cnt r + 2 := by
      unfold cnt
      rw [List.countP_cons, List.countP_cons, if_pos (show brB c = true from decide_eq_true hc)]
    rw [e]; omega
  | _, _, .ch (c := c) (r := r) h1 h2 h, k => by
    have ih := even h (fun z => k (by rw [z]; rfl))
    have e : cnt (c :: r) = cnt r := by
      unfold cnt
      rw [List.countP_cons, if_neg (show ¬ brB c = true from fun z => (of_decide_eq_true z).elim h1 h2)]; rfl
    rw [e]; exact ih
  | _, _, .close _, k => absurd rfl k
  | _, _, .lost _ _, k => absurd rfl k
  | _, _, .bad _ _ _, k => absurd rfl k
  | _, _, .fld (b := b) (r := r) _ _ hf h, k => by
    have ih := even h (fun z => k (by rw [z]; rfl))
    have e : cnt (123 :: (b ++ 125 :: r)) = cnt r + 2 := by
      show cnt ([123] ++ (b ++ ([125] ++ r))) = _
      rw [cnt_app, cnt_app, cnt_app, cnt_zero (field_no hf)]
      show 1 + (0 + (1 + cnt r)) = _
      omega
    rw [e]; omega
/-- an odd number: broken -/
theorem odd_none {s : S} (h : cnt s % 2 = 1) : PB s none := by
  obtain ⟨o, ho⟩ := total s.length s (Nat.le_refl _)
  cases o with
  | none => exact ho
  | some ps => have := even ho (fun z => nomatch z); omega
/-- a piece: read as these parts whatever follows -/
def Pc (p : S) (fs : List Pt) : Prop := ∀ (X : S) (o : Option (List Pt)), PB X o → PB (p ++ X) (o.map (fs ++ ·))
theorem Pc.nil : Pc [] [] := fun X o h => by
  have e : o.map (([] : List Pt) ++ ·) = o := by cases o <;> rfl
  rw [e]; exact h
theorem Pc.app {p q : S} {fs gs : List Pt} (h : Pc p fs) (k : Pc q gs) : Pc (p ++ q) (fs ++ gs) := fun X o hX => by
  have e : o.map ((fs ++ gs) ++ ·) = (o.map (gs ++ ·)).map (fs ++ ·) := by cases o <;> simp
  rw [e, List.append_assoc]
  exact h _ _ (k _ _ hX)
theorem Pc.right {p : S} {fs : List Pt} (h : Pc p fs) : PB p (some fs) := by
  have := h [] _ .nil
  rw [List.append_nil] at this
  rw [show some fs = (some ([] : List Pt)).map (fs ++ ·) by simp]
  exact this
theorem Pc.wrong {p X : S} {fs : List Pt} (h : Pc p fs) (k : PB X none) : PB (p ++ X) none := h X none k
def escB : S → S
  | [] => []
  | c :: r => if c = 123 ∨ c = 125 then c :: c :: escB r else c :: escB r
theorem Pc.text : ∀ t : S, Pc (escB t) (t.map Sum.inl)
  | [] => Pc.nil
  | c :: t => fun X o h => by
    have ih := Pc.text t X o h
    have e : o.map ((c :: t).map Sum.inl ++ ·) = (o.map ((t.map Sum.inl : List Pt) ++ ·)).map (Sum.inl c :: ·) := by cases o <;> rfl
    rw [e]
    unfold escB
    by_cases k : c = 123 ∨ c = 125
    · rw [if_pos k]; exact .two k ih
    · rw [if_neg k]; exact .ch (fun z => k (.inl z)) (fun z => k (.inr z)) ih
theorem Pc.field {b : S} {f : Fd} (h : fieldB b = some f) : Pc (123 :: (b ++ [125])) [Sum.inr f] := fun X o hX => by
  have no := field_no h
  have e : 123 :: (b ++ [125]) ++ X = 123 :: (b ++ 125 :: X) := by simp
  rw [e]
  refine .fld (fun z => ?_) (fun z => (no _ z).2 rfl) h hX
  cases b with
  | nil => cases z
  | cons c b => exact (no c List.mem_cons_self).1 (Option.some.inj z)
theorem field_bad {b : S} (h : fieldB b = none) (h1 : 125 ∉ b) (h2 : b.head? ≠ some 123) (X : S) : PB (123 :: (b ++ 125 :: X)) none := by
  refine .bad (fun z => ?_) h1 h
  cases b with
  | nil => cases z
  | cons c b => exact h2 z
end RO

set_option Elab.async false
set_option linter.all false
set_option maxRecDepth 100000
set_option maxHeartbeats 4000000
/-! The number of a width. -/
namespace RV
open RP (digits digB)
theorem one : ∀ a ∈ digits, (PySem.intText? ⟨#[a]⟩).isSome = true := by decide +kernel
theorem two : ∀ a ∈ digits, ∀ b ∈ digits, (PySem.intText? ⟨#[a, b]⟩).isSome = true := by decide +kernel
theorem width_int : ∀ {l : List Nat}, RO.wdB l = true → ∃ n, PySem.intText? ⟨l.toArray⟩ = some n
  | [], h => by cases h
  | [a], h => by
    obtain ⟨_, h2⟩ := Bool.and_eq_true_iff.mp h
    have h3 := List.all_eq_true.mp (Bool.and_eq_true_iff.mp h2).2
    exact Option.isSome_iff_exists.mp (one a (of_decide_eq_true (h3 a List.mem_cons_self)))
  | [a, b], h => by
    obtain ⟨_, h2⟩ := Bool.and_eq_true_iff.mp h
    have h3 := List.all_eq_true.mp (Bool.and_eq_true_iff.mp h2).2
    exact Option.isSome_iff_exists.mp (two a (of_decide_eq_true (h3 a List.mem_cons_self)) b (of_decide_eq_true (h3 b (List.mem_cons_of_mem _ List.mem_cons_self))))
  | _ :: _ :: _ :: r, h => by
    obtain ⟨h1, _⟩ := Bool.and_eq_true_iff.mp h
    have h3 := of_decide_eq_true (Bool.and_eq_true_iff.mp h1).2
    simp only [List.length_cons] at h3
    omega
end RV

set_option Elab.async false
set_option linter.all false
set_option maxRecDepth 100000
set_option maxHeartbeats 4000000
/-! Formats in braces: what is drawn and written, over lists of signs. -/
namespace RJ
open RO
open RP (S)
def spcB (fl al w : S) : S := (if fl = [32] then [] else fl) ++ al ++ w
def bodyB (k sg fl al w : S) : S := k ++ (if sg = [] then [] else 33 :: sg) ++ (if spcB fl al w = [] then [] else 58 :: spcB fl al w)
def keysS : List S := [[97], [109, 101, 115, 115, 97, 103, 101], [95, 57]]
def signsS : List S := [[], [114], [115]]
def alignsS : List S := [[60], [62], [94]]
def fillsS : List S := [[42], [60], [62], [94], [58], [33], [48], [53], [36], [120], [10], [39]]
def faS : List (S × S) := ([32], []) :: (([32] :: fillsS).map fun f => alignsS.map fun a => (f, a)).flatten
def widS : List (Int × S) := [(0, []), (1, [49]), (5, [53]), (9, [57]), (10, [49, 48]), (12, [49, 50]), (30, [51, 48]), (99, [57, 57])]
theorem all_ok : (keysS.all fun k => signsS.all fun g => faS.all fun p => widS.all fun w => (fieldB (bodyB k g p.1 p.2 w.2)).isSome && decide ((bodyB k g p.1 p.2 w.2).length ≤ 16)) = true := by decide +kernel
theorem body_ok {k g f a ws : S} {w : Int} (h1 : k ∈ keysS) (h2 : g ∈ signsS) (h3 : (f, a) ∈ faS) (h4 : (w, ws) ∈ widS) : (∃ d, fieldB (bodyB k g f a ws) = some d) ∧ (bodyB k g f a ws).length ≤ 16 := by
  have h := List.all_eq_true.mp (List.all_eq_true.mp (List.all_eq_true.mp (List.all_eq_true.mp all_ok k h1) g h2) (f, a) h3) (w, ws) h4
  obtain ⟨z1, z2⟩ := Bool.and_eq_true_iff.mp h
  exact ⟨Option.isSome_iff_exists.mp z1, of_decide_eq_true z2⟩
/-- a written part -/
def PcOk (p : S) : Prop := (∃ fs, Pc p fs) ∧ p.length ≤ 20
theorem field_ok {k g f a ws : S} {w : Int} (h1 : k ∈ keysS) (h2 : g ∈ signsS) (h3 : (f, a) ∈ faS) (h4 : (w, ws) ∈ widS) : PcOk (123 :: (bodyB k g f a ws ++ [125])) := by
  obtain ⟨⟨d, hd⟩, hl⟩ := body_ok h1 h2 h3 h4
  exact ⟨⟨_, Pc.field hd⟩, by rw [List.length_cons, List.length_append, List.length_singleton]; omega⟩
theorem escB_len : ∀ t : S, (escB t).length ≤ 2 * t.length
  | [] => Nat.le_refl _
  | c :: t => by
    have := escB_len t
    unfold escB
    split
    · rw [List.length_cons, List.length_cons, List.length_cons]; omega
    · rw [List.length_cons, List.length_cons]; omega
theorem text_ok {t : S} (h : t.length ≤ 4) : PcOk (escB t) := ⟨⟨_, Pc.text t⟩, Nat.le_trans (escB_len t) (by omega)⟩
theorem pc_flat : ∀ ps : List S, (∀ p ∈ ps, PcOk p) → (∃ fs, Pc ps.flatten fs) ∧ ps.flatten.length ≤ 20 * ps.length
  | [], _ => ⟨⟨_, Pc.nil⟩, Nat.zero_le _⟩
  | p :: r, h => by
    obtain ⟨⟨f1, h1⟩, l1⟩ := h p List.mem_cons_self
    obtain ⟨⟨f2, h2⟩, l2⟩ := pc_flat r fun q hq => h q (List.mem_cons_of_mem _ hq)
    refine ⟨⟨f1 ++ f2, ?_⟩, ?_⟩
    · rw [List.flatten_cons]; exact h1.app h2
    · rw [List.flatten_cons, List.length_append, List.length_cons]; omega
theorem pc_even {p : S} {fs : List Pt} (h : Pc p fs) : cnt p % 2 = 0 := even h.right (fun z => nomatch z)
/-- one brace between two right pieces -/
theorem brace_none {a b : S} {fa fb : List Pt} {c : Nat} (ha : Pc a fa) (hb : Pc b fb) (hc : c = 123 ∨ c = 125) : PB (a ++ (c :: b)) none := by
  refine odd_none ?_
  have e : cnt (a ++ (c :: b)) = cnt a + (1 + cnt b) := by
    rw [cnt_app, show c :: b = [c] ++ b from rfl, cnt_app]
    rcases hc with rfl | rfl <;> rfl
  have h1 := pc_even ha
  have h2 := pc_even hb
  rw [e]; omega
/-- one brace anywhere in a right format -/
theorem spot_none {r : S} {fs : List Pt} (h : Pc r fs) (k : Nat) {c : Nat} (hc : c = 123 ∨ c = 125) : PB (r.take k ++ (c :: r.drop k)) none := by
  refine odd_none ?_
  have e : cnt (r.take k ++ (c :: r.drop k)) = cnt (r.take k) + (1 + cnt (r.drop k)) := by
    rw [cnt_app, show c :: r.drop k = [c] ++ r.drop k from rfl, cnt_app]
    rcases hc with rfl | rfl <;> rfl
  have e2 : cnt r = cnt (r.take k) + cnt (r.drop k) := by
    conv => lhs; rw [← List.take_append_drop k r]
    rw [cnt_app]
  have h1 := pc_even h
  rw [e]; omega
/-- what is no part, wherever it stands: a field that is none, or one brace -/
def wrongB (p : S) : Bool :=
  match p with
  | 123 :: r => (decide (125 ∈ r) && decide (fieldB (r.takeWhile fun c => decide (c ≠ 125)) = none) && decide ((r.takeWhile fun c => decide (c ≠ 125)).head? ≠ some 123)) || decide (r = [])
  | c :: r => decide (c = 125) && decide (r = [])
  | [] => false
theorem take_split : ∀ r : S, 125 ∈ r → ∃ t, r = (r.takeWhile fun c => decide (c ≠ 125)) ++ 125 :: t ∧ 125 ∉ (r.takeWhile fun c => decide (c ≠ 125))
  | [], h => nomatch h
  | c :: r, h => by
    by_cases e : c = 125
    · subst e
      exact ⟨r, rfl, fun h => nomatch h⟩
    · rcases List.mem_cons.mp h with h | h
      · exact absurd h.symm e
      · obtain ⟨t, h1, h2⟩ := take_split r h
        have et : ((c :: r).takeWhile fun c => decide (c ≠ 125)) = c :: (r.takeWhile fun c => decide (c ≠ 125)) := by
          rw [List.takeWhile_cons, if_pos (decide_eq_true e)]
        rw [et]
        refine ⟨t, by rw [List.cons_append, ← h1], fun h => ?_⟩
        rcases List.mem_cons.mp h with h | h
        · exact e h.symm
        · exact h2 h
theorem wrong_none {a b p : S} {fa fb : List Pt} (ha : Pc a fa) (hb : Pc b fb) (h : wrongB p = true) : PB (a ++ (p ++ b)) none := by
  unfold wrongB at h
  split at h
  · rename_i r
    rcases Bool.or_eq_true_iff.mp h with h | h
    · obtain ⟨h12, h3⟩ := Bool.and_eq_true_iff.mp h
      obtain ⟨h1, h2⟩ := Bool.and_eq_true_iff.mp h12
      obtain ⟨t, e1, e2⟩ := take_split r (of_decide_eq_true h1)
      refine ha.wrong ?_
      have e3 : (123 :: r) ++ b = 123 :: ((r.takeWhile fun c => decide (c ≠ 125)) ++ 125 :: (t ++ b)) := by
        conv => lhs; rw [e1]
        simp
      rw [e3]
      exact field_bad (of_decide_eq_true h2) e2 (of_decide_eq_true h3) _
    · rw [of_decide_eq_true h]
      exact brace_none ha hb (.inl rfl)
  · rename_i c r _
    obtain ⟨h1, h2⟩ := Bool.and_eq_true_iff.mp h
    rw [of_decide_eq_true h1, of_decide_eq_true h2]
    exact brace_none ha hb (.inr rfl)
  · cases h
/-- an end that breaks -/
theorem end_none {a p : S} {fa : List Pt} (ha : Pc a fa) (h : cnt p % 2 = 1 ∨ p = [123, 125]) : PB (a ++ p) none := by
  rcases h with h | rfl
  · refine odd_none ?_
    have h1 := pc_even ha
    rw [cnt_app]; omega
  · refine ha.wrong ?_
    exact field_bad (b := []) rfl (fun z => nomatch z) (fun z => nomatch z) []
theorem rep_escB (t : S) : PySem.Txt.replace (PySem.Txt.replace ⟨t.toArray⟩ (PySem.Str.ofString "{") (PySem.Str.ofString "{{")) (PySem.Str.ofString "}") (PySem.Str.ofString "}}") = ⟨(escB t).toArray⟩ := by
  have e := PySem.StrLaws.replace_list (x := ⟨t.toArray⟩) (y := PySem.Str.ofString "{") (z := PySem.Str.ofString "{{") (by decide +kernel)
  have e2 := PySem.StrLaws.replace_list (x := PySem.Txt.replace ⟨t.toArray⟩ (PySem.Str.ofString "{") (PySem.Str.ofString "{{")) (y := PySem.Str.ofString "}") (z := PySem.Str.ofString "}}") (by decide +kernel)
  have a1 : (PySem.Str.ofString "{").cps.toList = [123] := by decide +kernel
  have a2 : (PySem.Str.ofString "{{").cps.toList = [123, 123] := by decide +kernel
  have a3 : (PySem.Str.ofString "}").cps.toList = [125] := by decide +kernel
  have a4 : (PySem.Str.ofString "}}").cps.toList = [125, 125] := by decide +kernel
  rw [a1, a2] at e
  rw [a3, a4, e] at e2
  have miss : ∀ (y z : S) (c d : Nat) (r : S), y = [d] → c ≠ d → PySem.StrLaws.replL y z (c :: r) = c :: PySem.StrLaws.replL y z r := fun y z c d r hy h => by
    subst hy
    exact PySem.StrLaws.replL_miss (y := [d]) (fun w => h (List.cons.inj (show [c] = [d] from w)).1)
  have e3 : ∀ l : S, PySem.StrLaws.replL [125] [125, 125] (PySem.StrLaws.replL [123] [123, 123] l) = escB l := fun l => by
    induction l with
    | nil => rw [PySem.StrLaws.replL_nil, PySem.StrLaws.replL_nil]; rfl
    | cons c r ih =>
      unfold escB
      by_cases h : c = 123
      · subst h
        rw [if_pos (.inl rfl), PySem.StrLaws.replL_hit (by decide) rfl]
        show PySem.StrLaws.replL [125] [125, 125] (123 :: 123 :: PySem.StrLaws.replL [123] [123, 123] r) = _
        rw [miss [125] _ 123 125 _ rfl (by decide), miss [125] _ 123 125 _ rfl (by decide), ih]
      · rw [miss [123] _ c 123 _ rfl h]
        by_cases h2 : c = 125
        · subst h2
          rw [if_pos (.inr rfl), PySem.StrLaws.replL_hit (by decide) rfl]
          show 125 :: 125 :: PySem.StrLaws.replL [125] [125, 125] (PySem.StrLaws.replL [123] [123, 123] r) = _
          rw [ih]
        · rw [if_neg (fun z => z.elim h h2), miss [125] _ c 125 _ rfl h2, ih]
  rw [e3] at e2
  rw [← e2]
end RJ

set_option Elab.async false
set_option linter.all false
set_option maxRecDepth 100000
set_option maxHeartbeats 0
namespace K17
open PySem PySem.Spec PyProof.Rows L2 RC
section
variable {P : Program} {w : World} {K : PySem.W.Frag} {mg : Str → Option Value} {base : Heap}
theorem dp_ints {K : PySem.W.Frag} {H : Hp} : ∀ ns : List Int, DpAll K H (ns.map V.int) (ns.map PyData.int)
  | [] => .nil
  | n :: r => .cons (.int n) (dp_ints r)
theorem can_ints : ∀ ns : List Int, PyData.canLayAll0 (ns.map PyData.int) = true
  | [] => by simp [PyData.canLayAll0]
  | n :: r => by simp [PyData.canLayAll0, PyData.canLay0, can_ints r]
theorem dep_ints : ∀ ns : List Int, PyData.depthAll (ns.map PyData.int) = 0
  | [] => by simp [PyData.depthAll]
  | n :: r => by simp [PyData.depthAll, PyData.depth, dep_ints r]
theorem sh_ints (ns : List Int) : SeqAt.shaped (.list (ns.map PyData.int)) = true := by
  unfold SeqAt.shaped
  simp [PyData.canLay0, PyData.depth, can_ints, dep_ints]
theorem seq0 (v : Int) (r : List Int) : seqIndex? 0 ((v :: r).map V.int).length = some 0 := by
  unfold seqIndex?
  simp
def spDraw : Sp := fun vs H Q _ => ∃ (s l : Addr) (n : Nat) (many : Int), vs = [.ref s, .int many] ∧ Stm H s l n ∧ n ≤ 1000000 ∧ 1 ≤ many ∧ many < 1073741824 ∧
  ∀ (H' : Hp) (d : Int), Old s l H H' → Stm H' s l (n + 1) → 0 ≤ d → d < many → Q (.int d) H'
theorem old_upd {s l : Addr} {H H' : Hp} {a : Addr} {o : HO} (h : Old s l H H') (ha : a = s ∨ a = l ∨ H' a = none) : Old s l H (upd H' a o) := fun b u h1 h2 e => by
  have e2 := h b u h1 h2 e
  have hb : b ≠ a := by
    rintro rfl
    rcases ha with z | z | z
    · exact h1 z
    · exact h2 z
    · rw [z] at e2; cases e2
  rw [upd_ne hb]; exact e2
theorem stm_small {d c : Int} (h : 0 ≤ d) (h1 : d < 2147483647) (h2 : 0 ≤ c) (h3 : c ≤ 1000001) : (d + 104729 * c + 17).natAbs < 2 ^ 64 := by omega
theorem stm_small2 {m c : Int} (h : 0 ≤ m) (h1 : m < 2147483629) (h2 : 0 ≤ c) (h3 : c ≤ 1000001) : (m * 48271 + 40503 * c * c + 13).natAbs < 2 ^ 64 := by
  have q1 : 0 ≤ 40503 * c * c := Int.mul_nonneg (by omega) h2
  have q2 : 40503 * c * c ≤ 40503 * c * 1000001 := Int.mul_le_mul_of_nonneg_left h3 (by omega)
  omega
theorem ok_draw {f : Addr} (T : Txt P w K mg) (F : Stands K "_law_draw" "_law_draw" s__law_draw [] f) : Callable P w K mg base 1 f ["_law_stream", "_law_many"] [] spDraw := by
  refine F.call0 sc__law_draw (fun vs H Q E h => ?_) (fun cdv A outer s H vs Q E hr h => ?_) (fun _ _ _ _ _ _ us hl => match us, hl with | [_, _], _ => rfl)
  · obtain ⟨s, l, n, m, rfl, _⟩ := h
    rfl
  obtain ⟨p, l, n, many, rfl, hS, hn, hm1, hm2, hQ⟩ := h
  refine ⟨_, (pss_cons (ps_while PassesOwn.never (PW.pt (pw_and (pt_cmpR op_eq (pe_ix ix_list (pv 0) pe_int (fun _ _ => rfl)) pe_int (nomark _)) (pw_and1 (pt_cmpR (op_neD hr.units) (pe_ix ix_list (pv 0) pe_int (fun _ _ => rfl)) (pe_lst pa_nil) (nomark _))))) (pss_cons (ps_asg (pe_bm PySem.F.plainAttrs_list PySem.F.slot_list_pop PySem.F.type_list_pop mt_popAt (pe_ix ix_list (pv 0) pe_int (fun _ _ => rfl)) (pa_cons pe_int pa_nil)) (pg_sub (pv 0) pe_int set_list))
      (pss_one (ps_if (pt_cmpR op_lt (pe_ix ix_list (pv 0) pe_int (fun _ _ => rfl)) (pe_op op_pow pe_int pe_int) (nomark _)) (pss_cons (ps_asg (pe_op op_mod (pe_callTy call_int1 (by rfl) T.b_int (by decide +kernel) (pa_cons (pe_op op_add (pe_op op_add (pe_op op_mul (pe_ix ix_list (pv 0) pe_int (fun _ _ => rfl)) pe_int) (pe_ix ix_list (pv 0) pe_int (fun _ _ => rfl))) pe_int) pa_nil)) pe_int) (pg_sub (pv 0) pe_int set_list))
      (pss_one (ps_asg pe_int (pg_sub (pv 0) pe_int set_list)))) pss_nil))))
      (pss_cons (ps_if (pt_cmpR op_gt (pe_ix ix_list (pv 0) pe_int (fun _ _ => rfl)) pe_int (nomark _)) (pss_cons (ps_set (i := 2) sc__law_draw.nd rfl (by first | exact Or.inl rfl | exact Or.inr rfl) (pe_op op_mod (pe_callTy call_int1 (by rfl) T.b_int (by decide +kernel) (pa_cons (pe_ix ix_list (pv 0) pe_int (fun _ _ => rfl)) pa_nil)) (pv 1)))
      (pss_cons (ps_asg (pe_op op_fdiv (pe_ix ix_list (pv 0) pe_int (fun _ _ => rfl)) (pv 1)) (pg_sub (pv 0) pe_int set_list))
      (pss_one (ps_ret (pv 2))))) pss_nil)
      (pss_cons (ps_asg (pe_op op_add (pe_ix ix_list (pv 0) pe_int (fun _ _ => rfl)) pe_int) (pg_sub (pv 0) pe_int set_list))
      (pss_cons (ps_set (i := 3) sc__law_draw.nd rfl (by first | exact Or.inl rfl | exact Or.inr rfl) (pe_op op_mod (pe_callTy call_int1 (by rfl) T.b_int (by decide +kernel) (pa_cons (pe_op op_pow (pe_op op_add (pe_op op_add (pe_ix ix_list (pv 0) pe_int (fun _ _ => rfl)) (pe_op op_mul pe_int (pe_ix ix_list (pv 0) pe_int (fun _ _ => rfl)))) pe_int) pe_int) pa_nil)) pe_int))
      (pss_cons (ps_set (i := 4) sc__law_draw.nd rfl (by first | exact Or.inl rfl | exact Or.inr rfl) (pe_op op_mod (pe_callTy call_int1 (by rfl) T.b_int (by decide +kernel) (pa_cons (pe_op op_pow (pe_op op_add (pe_op op_add (pe_op op_mul (pv 3) pe_int) (pe_op op_mul (pe_op op_mul pe_int (pe_ix ix_list (pv 0) pe_int (fun _ _ => rfl))) (pe_ix ix_list (pv 0) pe_int (fun _ _ => rfl)))) pe_int) pe_int) pa_nil)) pe_int))
      (pss_one (ps_ret (pe_op op_mod (pe_callTy call_int1 (by rfl) T.b_int (by decide +kernel) (pa_cons (pv 4) pa_nil)) (pv 1))))))))), ?_⟩
  obtain ⟨hne, ns, x, c, d, h1, h2, h3, h4, h5, h6, h7, h8⟩ := hS
  refine ⟨fun m σ H' => σ = [some (.ref p), some (.int many), none, none, none] ∧ Old p l H H' ∧ ∃ (ns : List Int) (x c d : Int), m = ns.length ∧ H' p = some (.lst [.ref l, .int x, .int c, .int d]) ∧ H' l = some (.lst (ns.map V.int)) ∧ ns.length ≤ 63 ∧ 0 ≤ x ∧ 0 ≤ c ∧ c ≤ n ∧ 0 ≤ d ∧ d < 2147483647,
    ⟨_, rfl, Old.refl _, ns, x, c, d, rfl, h1, h2, h3, h4, h5, h6, h7, h8⟩, ?_⟩
  clear h1 h2 h3 h4 h5 h6 h7 h8 ns x c d
  rintro m σ H1 ⟨rfl, hO, ns, x, c, d, rfl, h1, h2, h3, h4, h5, h6, h7, h8⟩
  refine ⟨_, rfl, p, _, _, _, rfl, rfl, SqL.of h1, rfl, rfl, _, rfl, ?_⟩
  by_cases hx : x = 0
  · subst hx
    refine iteT' (decide_eq_true rfl) ?_
    refine ⟨_, rfl, p, _, _, _, rfl, rfl, SqL.of h1, rfl, (by show 0 ≤ sizeLine; decide), fun q hq => ?_⟩
    have g1 : upd H1 q (.lst []) p = some (.lst [.ref l, .int 0, .int c, .int d]) := by rw [upd_ne (ne_of_none h1 hq)]; exact h1
    have g2 : upd H1 q (.lst []) l = some (.lst (ns.map V.int)) := by rw [upd_ne (ne_of_none h2 hq)]; exact h2
    have gO : Old p l H (upd H1 q (.lst [])) := old_upd hO (.inr (.inr hq))
    refine ⟨_, _, Dp.lst (SqL.of g2) (dp_ints ns), Dp.lst (SqL.of upd_same) .nil, sh_ints ns, by decide +kernel, _, rfl, ?_⟩
    generalize upd H1 q (.lst []) = H2 at g1 g2 gO
    cases ns with
    | cons v r =>
      refine iteT' (by rfl) ?_
      refine ⟨fun σ' H' => ∃ m', m' < (v :: r).length ∧ (σ' = [some (.ref p), some (.int many), none, none, none] ∧ Old p l H H' ∧ ∃ (ns : List Int) (x c d : Int), m' = ns.length ∧ H' p = some (.lst [.ref l, .int x, .int c, .int d]) ∧ H' l = some (.lst (ns.map V.int)) ∧ ns.length ≤ 63 ∧ 0 ≤ x ∧ 0 ≤ c ∧ c ≤ n ∧ 0 ≤ d ∧ d < 2147483647), fun σ' H' z => z, ?_⟩
      -- s[1] = s[0].pop(0)
      refine ⟨_, rfl, p, _, _, _, rfl, rfl, SqL.of g1, rfl, .inl ⟨rfl, _, SqL.of g2⟩, l, (v :: r).map V.int, 0, 0, .int v, rfl, rfl, g2, by decide, by decide, seq0 _ _, rfl, ?_⟩
      generalize e3 : upd H2 l _ = H3
      have k1 : H3 p = some (.lst [.ref l, .int 0, .int c, .int d]) := by rw [← e3, upd_ne hne]; exact g1
      have kO : Old p l H H3 := by rw [← e3]; exact old_upd gO (.inr (.inl rfl))
      have k2 : H3 l = some (.lst (r.map V.int)) := by rw [← e3]; exact upd_same
      clear e3
      refine ⟨_, rfl, p, _, 1, 1, rfl, rfl, k1, rfl, ?_⟩
      generalize e4 : upd H3 p _ = H4
      have j1 : H4 p = some (.lst [.ref l, .int v, .int c, .int d]) := by rw [← e4]; exact upd_same
      have j2 : H4 l = some (.lst (r.map V.int)) := by rw [← e4, upd_ne (Ne.symm hne)]; exact k2
      have jO : Old p l H H4 := by rw [← e4]; exact old_upd kO (.inl rfl)
      clear e4
      have hl : r.length ≤ 63 := Nat.le_of_succ_le h3
      refine ⟨_, rfl, p, _, _, _, rfl, rfl, SqL.of j1, rfl, _, _, rfl, rfl, ⟨by decide, by decide, by decide⟩, _, _, rfl, rfl, _, rfl, ?_⟩
      refine ite2 (fun hv => ?_) (fun hv => ?_)
      · -- s[3] = int(..) % 2147483647
        refine ⟨_, rfl, p, _, _, _, rfl, rfl, SqL.of j1, rfl, _, _, rfl, rfl, .inr ⟨by decide, by decide⟩, _, rfl, p, _, _, _, rfl, rfl, SqL.of j1, rfl, _, _, rfl, rfl, _, _, rfl, rfl, .inl ⟨_, rfl, _, _, rfl, rfl, (by show (0 : Int) < 2147483647; decide), _, rfl, p, _, 3, 3, rfl, rfl, j1, rfl, ?_⟩⟩
        have m1 := Int.emod_nonneg (d * 31 + v + 7) (show (2147483647 : Int) ≠ 0 by decide)
        have m2 := Int.emod_lt_of_pos (d * 31 + v + 7) (show (0 : Int) < 2147483647 by decide)
        refine ⟨_, rfl, p, _, 1, 1, rfl, rfl, upd_same, rfl, r.length, Nat.lt_succ_self _, rfl, old_upd (old_upd jO (.inl rfl)) (.inl rfl), r, 0, c, (d * 31 + v + 7) % 2147483647, rfl, upd_same, ?_, hl, Int.le_refl 0, h5, h6, m1, m2⟩
        rw [upd_ne (Ne.symm hne), upd_ne (Ne.symm hne)]; exact j2
      · have hv : 10 ^ 18 ≤ v := by
          have z : ¬ v < 10 ^ (18 : Int).toNat := fun z => hv (decide_eq_true z)
          have e : (18 : Int).toNat = 18 := rfl
          rw [e] at z; omega
        exact ⟨r.length, Nat.lt_succ_self _, rfl, jO, r, v, c, d, rfl, j1, j2, hl, by omega, h5, h6, h7, h8⟩
    | nil =>
      refine iteF' (by rfl) ?_
      refine ⟨_, rfl, p, _, _, _, rfl, rfl, SqL.of g1, rfl, _, _, rfl, rfl, _, rfl, ?_⟩
      refine iteF' (by rfl) ?_
      -- s[2] = s[2] + 1
      refine ⟨_, rfl, p, _, _, _, rfl, rfl, SqL.of g1, rfl, _, _, rfl, rfl, _, rfl, p, _, 2, 2, rfl, rfl, g1, rfl, ?_⟩
      generalize e3 : upd H2 p _ = H3
      have a1 : H3 p = some (.lst [.ref l, .int 0, .int (c + 1), .int d]) := by rw [← e3]; exact upd_same
      have a2 : H3 l = some (.lst (([] : List Int).map V.int)) := by rw [← e3, upd_ne (Ne.symm hne)]; exact g2
      have aO : Old p l H H3 := by rw [← e3]; exact old_upd gO (.inl rfl)
      have hc : c + 1 ≤ 1000001 := by omega
      clear e3
      refine ⟨_, rfl, p, _, _, _, rfl, rfl, SqL.of a1, rfl, _, rfl, p, _, _, _, rfl, rfl, SqL.of a1, rfl, _, _, rfl, rfl, .inl ⟨by decide, by decide⟩, _, _, rfl, rfl, _, _, rfl, rfl, _, _, rfl, rfl, ⟨by decide, by decide, stm_small h7 h8 (by omega) hc⟩, .inl ⟨_, rfl, _, _, rfl, rfl, (by show (0 : Int) < 2147483629; decide), ?_⟩⟩
      have m1 := Int.emod_nonneg ((d + 104729 * (c + 1) + 17) ^ (5 : Int).toNat) (show (2147483629 : Int) ≠ 0 by decide)
      have m2 := Int.emod_lt_of_pos ((d + 104729 * (c + 1) + 17) ^ (5 : Int).toNat) (show (0 : Int) < 2147483629 by decide)
      refine ⟨_, rfl, _, _, rfl, rfl, .inr ⟨by decide, by decide⟩, _, rfl, p, _, _, _, rfl, rfl, SqL.of a1, rfl, _, _, rfl, rfl, .inl ⟨by decide, by decide⟩, _, rfl, p, _, _, _, rfl, rfl, SqL.of a1, rfl, _, _, rfl, rfl, .inr ⟨by omega, by omega⟩, _, _, rfl, rfl, _, _, rfl, rfl, _, _, rfl, rfl, ⟨by decide, by decide, stm_small2 m1 m2 (by omega) hc⟩, .inl ⟨_, rfl, _, _, rfl, rfl, (by show (0 : Int) < 1000000007; decide), ?_⟩⟩
      refine ⟨_, rfl, .inl ⟨_, rfl, _, rfl, _, _, rfl, rfl, (by show (0 : Int) < many; omega), ?_⟩⟩
      exact hQ _ _ aO ⟨hne, [], 0, c + 1, d, a1, a2, Nat.zero_le _, Int.le_refl 0, by omega, by omega, h7, h8⟩ (Int.emod_nonneg _ (by omega)) (Int.emod_lt_of_pos _ (by omega))
  · refine iteF' (decide_eq_false fun z => hx (V.int.inj z)) ?_
    have hx1 : 0 < x := by omega
    refine ⟨_, rfl, p, _, _, _, rfl, rfl, SqL.of h1, rfl, _, _, rfl, rfl, _, rfl, ?_⟩
    refine iteT' (decide_eq_true hx1) ?_
    refine ⟨_, rfl, p, _, _, _, rfl, rfl, SqL.of h1, rfl, .inl ⟨_, rfl, _, rfl, _, _, rfl, rfl, (by show (0 : Int) < many; omega), ?_⟩⟩
    refine ⟨_, rfl, p, _, _, _, rfl, rfl, SqL.of h1, rfl, _, rfl, _, _, rfl, rfl, ⟨by omega, by omega⟩, _, rfl, p, _, 1, 1, rfl, rfl, h1, rfl, _, rfl, ?_⟩
    refine hQ _ _ (old_upd hO (.inl rfl)) ⟨hne, ns, x / many, c, d, upd_same, by rw [upd_ne (Ne.symm hne)]; exact h2, h3, Int.ediv_nonneg h4 (by omega), h5, by omega, h7, h8⟩ (Int.emod_nonneg _ (by omega)) (Int.emod_lt_of_pos _ (by omega))
end
end K17

set_option Elab.async false
set_option linter.all false
set_option maxRecDepth 100000
set_option maxHeartbeats 0
namespace K17
open PySem PySem.Spec PyProof.Rows L2 RC
section
variable {P : Program} {w : World} {K : PySem.W.Frag} {mg : Str → Option Value} {base : Heap}
/-- all but p is as it was -/
def SameBut (p : Addr) (H H' : Hp) : Prop := ∀ b o, b ≠ p → H b = some o → H' b = some o
theorem SameBut.trans {p : Addr} {H H1 H2 : Hp} (a : SameBut p H H1) (b : SameBut p H1 H2) : SameBut p H H2 := fun c o h e => b c o h (a c o h e)
theorem SameBut.of {p : Addr} {H H' : Hp} (a : Same H H') : SameBut p H H' := fun c o _ e => a c o e
theorem SameBut.put {p : Addr} {H : Hp} {o : HO} : SameBut p H (upd H p o) := fun c u h e => by rw [upd_ne h]; exact e
theorem made_same {H H' : Hp} {x dx C : Addr} {o : HO} {fs : List (Str × V)} (hx : H x = none) (hd : H dx = none) (b : SameBut x (upd (upd H dx o) x (.ins C dx fs)) H') : Same H H' := fun c u e => by
  have h1 : c ≠ x := ne_of_none e hx
  have h2 : c ≠ dx := ne_of_none e hd
  exact b c u h1 (by rw [upd_ne h1, upd_ne h2]; exact e)
def spFiltererInit (K : PySem.W.Frag) : Sp := fun vs H Q _ => ∃ (C p dx : Addr) (fs : List (Str × V)), vs = [.ref p] ∧ H p = some (.ins C dx fs) ∧ Cls K C ∧ NoAttr K C "filters" ∧ fs.length < 100 ∧ ∀ l, H l = none → Q .non (upd (upd H l (.lst [])) p (.ins C dx (putF "filters" (.ref l) fs)))
theorem ok_filterer_init {f : Addr} (T : Txt P w K mg) (F : Stands K "__init__" "Filterer.__init__" s_Filterer_init [] f) : Callable P w K mg base 1 f ["self"] [] (spFiltererInit K) := by
  refine F.call0 sc_Filterer_init (fun vs H Q E h => ?_) (fun cdv A outer s H vs Q E hr h => ?_) (fun _ _ _ _ _ _ us hl => match us, hl with | [_], _ => rfl)
  · obtain ⟨C, p, dx, fs, rfl, _⟩ := h; rfl
  obtain ⟨C, p, dx, fs, rfl, hp, c, n, hl, hQ⟩ := h
  refine ⟨_, (pss_one (ps_fld (pv 0) (pe_lst pa_nil) rfl)), ?_⟩
  refine ⟨(by show 0 ≤ sizeLine; decide), fun l hl' => ?_⟩
  exact ⟨_, rfl, p, C, dx, fs, rfl, (by rw [upd_ne (ne_of_none hp hl')]; exact hp), c, n, (by omega), hQ l hl'⟩
end
end K17

set_option Elab.async false
set_option linter.all false
set_option maxRecDepth 100000
set_option maxHeartbeats 0
namespace K17
open PySem PySem.Spec PyProof.Rows L2 RC
section
variable {P : Program} {w : World} {K : PySem.W.Frag} {mg : Str → Option Value} {base : Heap}
/-! ### what is made -/
abbrev CY (K : PySem.W.Frag) : Addr := He.ga K "Yard"
abbrev CL (K : PySem.W.Frag) : Addr := He.ga K "Logger"
def spEnrol (K : PySem.W.Frag) : Sp := fun vs H Q _ => ∃ (y h dy m : Addr) (fs : List (Str × V)) (xs : List V), vs = [.ref y, .ref h] ∧ H y = some (.ins (CY K) dy fs) ∧ fs.lookup ("made" : Str) = some (.ref m) ∧ H m = some (.lst xs) ∧ xs.length ≤ 1000 ∧ Q .non (upd H m (.lst (xs ++ [.ref h])))
theorem ok_enrol {f : Addr} (T : Txt P w K mg) (F : Stands K "enrol" "Yard.enrol" s_Yard_enrol [] f) : Callable P w K mg base 1 f ["self", "handler"] [] (spEnrol K) := by
  refine F.call0 sc_Yard_enrol (fun vs H Q E h => ?_) (fun cdv A outer s H vs Q E hr h => ?_) (fun _ _ _ _ _ _ us hl => match us, hl with | [_, _], _ => rfl)
  · obtain ⟨y, h, dy, m, fs, xs, rfl, _⟩ := h; rfl
  obtain ⟨y, h, dy, m, fs, xs, rfl, h1, h2, h3, h4, hQ⟩ := h
  refine ⟨_, (pss_one (ps_expr (pe_bm PySem.F.plainAttrs_list PySem.F.slot_list_append PySem.F.type_list_append mt_append (pe_fld (pv 0) rfl) (pa_cons (pv 1) pa_nil)))), ?_⟩
  exact ⟨_, rfl, y, _, dy, fs, _, rfl, h1, T.c_Yard, T.n_Yard_made, h2, .inl ⟨rfl, _, SqL.of h3⟩, _, rfl, m, _, _, rfl, rfl, h3, (by rw [sizeLine_eq]; omega), hQ⟩
/-- what the text says of a class of handlers -/
structure HCls (K : PySem.W.Frag) (C : Addr) : Prop where
  c : Cls K C
  n1 : NoAttr K C "filters"
  n2 : NoAttr K C "yard"
  n3 : NoAttr K C "level"
  n4 : NoAttr K C "formatter"
  n5 : NoAttr K C "name"
  n6 : NoAttr K C "terminator"
  n7 : NoAttr K C "closed"
def hF (l y : Addr) : List (Str × V) := [("filters", .ref l), ("yard", .ref y), ("level", .int 0), ("formatter", .non), ("name", .non), ("terminator", .str "\n"), ("closed", .bl false)]
/-- a handler at p was made: its filters at l; the yard's list of what was made, at m, has it at its end -/
def HMade (K : PySem.W.Frag) (H : Hp) (p C dx y m : Addr) (xs : List V) (H' : Hp) : Prop := ∃ l, (∀ b o, b ≠ p → b ≠ m → H b = some o → H' b = some o) ∧ H l = none ∧ H' p = some (.ins C dx (hF l y)) ∧ H' l = some (.lst []) ∧ H' m = some (.lst (xs ++ [.ref p]))
def spHandlerInit (K : PySem.W.Frag) : Sp := fun vs H Q _ => ∃ (p C dx y dy m : Addr) (fs : List (Str × V)) (xs : List V), vs = [.ref p, .ref y] ∧ H p = some (.ins C dx []) ∧ HCls K C ∧ p ≠ y ∧ H y = some (.ins (CY K) dy fs) ∧ fs.lookup ("made" : Str) = some (.ref m) ∧ fs.lookup ("enrol" : Str) = none ∧ H m = some (.lst xs) ∧ xs.length ≤ 1000 ∧
  ∀ H', HMade K H p C dx y m xs H' → Q .non H'
theorem ok_handler_init {f : Addr} (T : Txt P w K mg) (F : Stands K "__init__" "Handler.__init__" s_Handler_init [] f) (c_Filterer_init : Callable P w K mg base 1 (He.ma K (He.ga K "Filterer") "__init__") ["self"] [] (spFiltererInit K))
    (c_Yard_enrol : Callable P w K mg base 1 (He.ma K (He.ga K "Yard") "enrol") ["self", "handler"] [] (spEnrol K)) : Callable P w K mg base 2 f ["self", "yard"] [] (spHandlerInit K) := by
  refine F.call0 sc_Handler_init (fun vs H Q E h => ?_) (fun cdv A outer s H vs Q E hr h => ?_) (fun _ _ _ _ _ _ us hl => match us, hl with | [_, _], _ => rfl)
  · obtain ⟨p, C, dx, y, dy, m, fs, xs, rfl, _⟩ := h; rfl
  obtain ⟨p, C, dx, y, dy, m, fs, xs, rfl, hp, c, npy, hy, hm, he, hmm, hxs, hQ⟩ := h
  refine ⟨_, (pss_cons (ps_expr (pe_cf T.cf_Filterer_init c_Filterer_init (hr.mono (by first | decide | exact Nat.le_refl _)) (pe_glob (v := .ref _) (by rfl) T.g_Filterer rfl) (pa_cons (pv 0) pa_nil)))
      (pss_cons (ps_fld (pv 0) (pv 1) rfl)
      (pss_cons (ps_fld (pv 0) pe_int rfl)
      (pss_cons (ps_fld (pv 0) pe_non rfl)
      (pss_cons (ps_fld (pv 0) pe_non rfl)
      (pss_cons (ps_fld (pv 0) pe_str rfl)
      (pss_cons (ps_fld (pv 0) pe_bl rfl)
      (pss_one (ps_expr (pe_mt T.c_Yard T.m_Yard_enrol c_Yard_enrol (hr.mono (by first | decide | exact Nat.le_refl _)) (pv 1) (pa_cons (pv 0) pa_nil))))))))))), ?_⟩
  refine ⟨rfl, _, rfl, C, p, dx, [], rfl, hp, c.c, c.n1, (by decide), fun l hl => ?_⟩
  refine ⟨_, rfl, _, rfl, p, C, dx, _, rfl, upd_same, c.c, c.n2, (by show 1 < 1000; decide), ?_⟩
  rw [upd_upd]
  refine ⟨_, rfl, p, C, dx, _, rfl, upd_same, c.c, c.n3, (by show 2 < 1000; decide), ?_⟩
  rw [upd_upd]
  refine ⟨_, rfl, p, C, dx, _, rfl, upd_same, c.c, c.n4, (by show 3 < 1000; decide), ?_⟩
  rw [upd_upd]
  refine ⟨_, rfl, p, C, dx, _, rfl, upd_same, c.c, c.n5, (by show 4 < 1000; decide), ?_⟩
  rw [upd_upd]
  refine ⟨_, rfl, p, C, dx, _, rfl, upd_same, c.c, c.n6, (by show 5 < 1000; decide), ?_⟩
  rw [upd_upd]
  refine ⟨_, rfl, p, C, dx, _, rfl, upd_same, c.c, c.n7, (by show 6 < 1000; decide), ?_⟩
  rw [upd_upd]
  generalize e1 : upd (upd H l (.lst [])) p _ = H1
  have nlp : l ≠ p := fun z => by rw [z, hp] at hl; cases hl
  have npm : p ≠ m := fun z => by rw [z, hmm] at hp; cases hp
  have nlm : l ≠ m := fun z => by rw [z, hmm] at hl; cases hl
  have q1 : H1 p = some (.ins C dx (hF l y)) := by rw [← e1]; exact upd_same
  have q2 : H1 l = some (.lst []) := by rw [← e1, upd_ne nlp]; exact upd_same
  have q3 : ∀ b o, b ≠ p → H b = some o → H1 b = some o := fun b o h1 h2 => by rw [← e1, upd_ne h1]; exact same_new hl _ b o h2
  clear e1
  refine ⟨_, rfl, y, dy, fs, rfl, q3 _ _ (Ne.symm npy) hy, he, _, rfl, y, p, dy, m, fs, xs, rfl, q3 _ _ (Ne.symm npy) hy, hm, q3 _ _ (Ne.symm npm) hmm, hxs, ?_⟩
  exact hQ _ ⟨l, fun b o h1 h2 h3 => by rw [upd_ne h2]; exact q3 b o h1 h3, hl, by rw [upd_ne npm]; exact q1, by rw [upd_ne nlm]; exact q2, upd_same⟩
def spStreamInit (K : PySem.W.Frag) : Sp := fun vs H Q _ => ∃ (p dx y dy m : Addr) (st : Str) (fs : List (Str × V)) (xs : List V), vs = [.ref p, .ref y, .str st] ∧ H p = some (.ins (He.ga K "StreamHandler") dx []) ∧ p ≠ y ∧ H y = some (.ins (CY K) dy fs) ∧ fs.lookup ("made" : Str) = some (.ref m) ∧ fs.lookup ("enrol" : Str) = none ∧ H m = some (.lst xs) ∧ xs.length ≤ 1000 ∧
  ∀ (H' : Hp) (l : Addr), (∀ b o, b ≠ p → b ≠ m → H b = some o → H' b = some o) → H l = none → H' p = some (.ins (He.ga K "StreamHandler") dx (hF l y ++ ([("stream", .str st)] : List (Str × V)))) → H' l = some (.lst []) → H' m = some (.lst (xs ++ [.ref p])) → Q .non H'
theorem ok_stream_init {f : Addr} (T : Txt P w K mg) (F : Stands K "__init__" "StreamHandler.__init__" s_StreamHandler_init [.str "stderr"] f) (c_Handler_init : Callable P w K mg base 2 (He.ma K (He.ga K "Handler") "__init__") ["self", "yard"] [] (spHandlerInit K)) :
    Callable P w K mg base 3 f ["self", "yard", "stream"] [.str "stderr"] (spStreamInit K) := by
  refine F.call sc_StreamHandler_init 2 0 (fun vs H Q E h => ?_) (fun cdv A outer s H vs Q E hr h => ?_) (fun z => nomatch z) fun _ => ⟨rfl, fun _ _ _ _ _ _ _ us its hl hi => match us, hl, its, hi with | [_, _], _, [_], _ => ⟨_, rfl, rfl⟩⟩
  · obtain ⟨p, dx, y, dy, m, st, fs, xs, rfl, _⟩ := h; rfl
  obtain ⟨p, dx, y, dy, m, st, fs, xs, rfl, hp, npy, hy, hm, he, hmm, hxs, hQ⟩ := h
  refine ⟨_, (pss_cons (ps_expr (pe_cf T.cf_Handler_init c_Handler_init (hr.mono (by first | decide | exact Nat.le_refl _)) (pe_glob (v := .ref _) (by rfl) T.g_Handler rfl) (pa_cons (pv 0) (pa_cons (pv 1) pa_nil))))
      (pss_one (ps_fld (pv 0) (pv 2) rfl))), ?_⟩
  have c : HCls K (He.ga K "StreamHandler") := ⟨T.c_StreamHandler, T.n_StreamHandler_filters, T.n_StreamHandler_yard, T.n_StreamHandler_level, T.n_StreamHandler_formatter, T.n_StreamHandler_name, T.n_StreamHandler_terminator, T.n_StreamHandler_closed⟩
  refine ⟨rfl, _, rfl, _, rfl, p, _, dx, y, dy, m, fs, xs, rfl, hp, c, npy, hy, hm, he, hmm, hxs, fun H1 hM => ?_⟩
  obtain ⟨l, k1, k2, k3, k4, k5⟩ := hM
  have nlp : l ≠ p := fun z => by rw [z, hp] at k2; cases k2
  have npm : m ≠ p := fun z => by rw [z, hp] at hmm; cases hmm
  refine ⟨_, rfl, _, rfl, p, _, dx, _, rfl, k3, T.c_StreamHandler, T.n_StreamHandler_stream, (by show 7 < 1000; decide), ?_⟩
  exact hQ _ l (fun b o h1 h2 h3 => by rw [upd_ne h1]; exact k1 b o h1 h2 h3) k2 upd_same (by rw [upd_ne nlp]; exact k4) (by rw [upd_ne npm]; exact k5)
theorem ok_stream_init3 {f : Addr} (T : Txt P w K mg) (F : Stands K "__init__" "StreamHandler.__init__" s_StreamHandler_init [.str "stderr"] f) (c_Handler_init : Callable P w K mg base 2 (He.ma K (He.ga K "Handler") "__init__") ["self", "yard"] [] (spHandlerInit K)) :
    Callable P w K mg base 3 f ["self", "yard", "stream"] [] (spStreamInit K) := by
  refine F.call sc_StreamHandler_init 3 1 (fun vs H Q E h => ?_) (fun cdv A outer s H vs Q E hr h => ?_) (fun z => nomatch z) fun _ => ⟨rfl, fun _ _ _ _ _ _ _ us its hl hi => match us, hl, its, hi with | [_, _, _], _, [_], _ => ⟨_, rfl, rfl⟩⟩
  · obtain ⟨p, dx, y, dy, m, st, fs, xs, rfl, _⟩ := h; rfl
  obtain ⟨p, dx, y, dy, m, st, fs, xs, rfl, hp, npy, hy, hm, he, hmm, hxs, hQ⟩ := h
  refine ⟨_, (pss_cons (ps_expr (pe_cf T.cf_Handler_init c_Handler_init (hr.mono (by first | decide | exact Nat.le_refl _)) (pe_glob (v := .ref _) (by rfl) T.g_Handler rfl) (pa_cons (pv 0) (pa_cons (pv 1) pa_nil))))
      (pss_one (ps_fld (pv 0) (pv 2) rfl))), ?_⟩
  have c : HCls K (He.ga K "StreamHandler") := ⟨T.c_StreamHandler, T.n_StreamHandler_filters, T.n_StreamHandler_yard, T.n_StreamHandler_level, T.n_StreamHandler_formatter, T.n_StreamHandler_name, T.n_StreamHandler_terminator, T.n_StreamHandler_closed⟩
  refine ⟨rfl, _, rfl, _, rfl, p, _, dx, y, dy, m, fs, xs, rfl, hp, c, npy, hy, hm, he, hmm, hxs, fun H1 hM => ?_⟩
  obtain ⟨l, k1, k2, k3, k4, k5⟩ := hM
  have nlp : l ≠ p := fun z => by rw [z, hp] at k2; cases k2
  have npm : m ≠ p := fun z => by rw [z, hp] at hmm; cases hmm
  refine ⟨_, rfl, _, rfl, p, _, dx, _, rfl, k3, T.c_StreamHandler, T.n_StreamHandler_stream, (by show 7 < 1000; decide), ?_⟩
  exact hQ _ l (fun b o h1 h2 h3 => by rw [upd_ne h1]; exact k1 b o h1 h2 h3) k2 upd_same (by rw [upd_ne nlp]; exact k4) (by rw [upd_ne npm]; exact k5)
def lF (l y : Addr) (name : Str) (lev : Int) (h : Addr) (par : V) : List (Str × V) := [("filters", .ref l), ("yard", .ref y), ("name", .str name), ("level", .int lev), ("propagate", .bl true), ("disabled", .bl false), ("handlers", .ref h), ("parent", par)]
def spLoggerInit (K : PySem.W.Frag) : Sp := fun vs H Q _ => ∃ (p dx y : Addr) (name : Str) (lev : Int), vs = [.ref p, .ref y, .str name, .int lev] ∧ H p = some (.ins (CL K) dx []) ∧
  ∀ (H' : Hp) (l h : Addr), SameBut p H H' → H l = none → H h = none → l ≠ h → H' p = some (.ins (CL K) dx (lF l y name lev h .non)) → H' l = some (.lst []) → H' h = some (.lst []) → Q .non H'
theorem ok_logger_init {f : Addr} (T : Txt P w K mg) (F : Stands K "__init__" "Logger.__init__" s_Logger_init [] f) (c_Filterer_init : Callable P w K mg base 1 (He.ma K (He.ga K "Filterer") "__init__") ["self"] [] (spFiltererInit K)) :
    Callable P w K mg base 2 f ["self", "yard", "name", "level"] [] (spLoggerInit K) := by
  refine F.call0 sc_Logger_init (fun vs H Q E h => ?_) (fun cdv A outer s H vs Q E hr h => ?_) (fun _ _ _ _ _ _ us hl => match us, hl with | [_, _, _, _], _ => rfl)
  · obtain ⟨p, dx, y, name, lev, rfl, _⟩ := h; rfl
  obtain ⟨p, dx, y, name, lev, rfl, hp, hQ⟩ := h
  refine ⟨_, (pss_cons (ps_expr (pe_cf T.cf_Filterer_init c_Filterer_init (hr.mono (by first | decide | exact Nat.le_refl _)) (pe_glob (v := .ref _) (by rfl) T.g_Filterer rfl) (pa_cons (pv 0) pa_nil)))
      (pss_cons (ps_fld (pv 0) (pv 1) rfl)
      (pss_cons (ps_fld (pv 0) (pv 2) rfl)
      (pss_cons (ps_fld (pv 0) (pv 3) rfl)
      (pss_cons (ps_fld (pv 0) pe_bl rfl)
      (pss_cons (ps_fld (pv 0) pe_bl rfl)
      (pss_cons (ps_fld (pv 0) (pe_lst pa_nil) rfl)
      (pss_one (ps_fld (pv 0) pe_non rfl))))))))), ?_⟩
  refine ⟨rfl, _, rfl, _, p, dx, [], rfl, hp, T.c_Logger, T.n_Logger_filters, (by decide), fun l hl => ?_⟩
  refine ⟨_, rfl, _, rfl, p, _, dx, _, rfl, upd_same, T.c_Logger, T.n_Logger_yard, (by show 1 < 1000; decide), ?_⟩
  rw [upd_upd]
  refine ⟨_, rfl, _, rfl, p, _, dx, _, rfl, upd_same, T.c_Logger, T.n_Logger_name, (by show 2 < 1000; decide), ?_⟩
  rw [upd_upd]
  refine ⟨_, rfl, _, rfl, p, _, dx, _, rfl, upd_same, T.c_Logger, T.n_Logger_level, (by show 3 < 1000; decide), ?_⟩
  rw [upd_upd]
  refine ⟨_, rfl, p, _, dx, _, rfl, upd_same, T.c_Logger, T.n_Logger_propagate, (by show 4 < 1000; decide), ?_⟩
  rw [upd_upd]
  refine ⟨_, rfl, p, _, dx, _, rfl, upd_same, T.c_Logger, T.n_Logger_disabled, (by show 5 < 1000; decide), ?_⟩
  rw [upd_upd]
  refine ⟨(by show 0 ≤ sizeLine; decide), fun h hh => ?_⟩
  obtain ⟨nhp, hh1⟩ := upd_none hh
  obtain ⟨nhl, hh2⟩ := upd_none hh1
  refine ⟨_, rfl, p, _, dx, _, rfl, (by rw [upd_ne (Ne.symm nhp)]; exact upd_same), T.c_Logger, T.n_Logger_handlers, (by show 6 < 1000; decide), ?_⟩
  refine ⟨_, rfl, p, _, dx, _, rfl, upd_same, T.c_Logger, T.n_Logger_parent, (by show 7 < 1000; decide), ?_⟩
  rw [upd_upd]
  have nlp : l ≠ p := fun z => by rw [z, hp] at hl; cases hl
  refine hQ _ l h (fun b o h1 h2 => ?_) hl hh2 (Ne.symm nhl) upd_same ?_ ?_
  · have n1 : b ≠ h := ne_of_none h2 hh2
    have n2 : b ≠ l := ne_of_none h2 hl
    rw [upd_ne h1, upd_ne n1, upd_ne h1, upd_ne n2]; exact h2
  · rw [upd_ne nlp, upd_ne (Ne.symm nhl), upd_ne nlp]; exact upd_same
  · rw [upd_ne nhp]; exact upd_same
end
end K17

set_option Elab.async false
set_option linter.all false
set_option maxRecDepth 100000
set_option maxHeartbeats 0
namespace K17
open PySem PySem.Spec PyProof.Rows L2 RC
section
variable {P : Program} {w : World} {K : PySem.W.Frag} {mg : Str → Option Value} {base : Heap}
/-! ### a yard is made -/
/-- H came from H0; ns: what is still being changed; L: what was laid since -/
structure Fr (H0 : Hp) (p : Addr) (ns : List Addr) (L : List (Addr × HO)) (H : Hp) : Prop where
  kp : ∀ b o, b ≠ p → H0 b = some o → H b = some o
  has : ∀ x ∈ L, x.1 ∉ ns ∧ H0 x.1 = none ∧ H x.1 = some x.2
  live : ∀ n ∈ ns, ∃ o, H n = some o
  old : ∀ n ∈ ns, n = p ∨ H0 n = none
  mem : p ∈ ns
  nd : (L.map (·.1)).Nodup
section
variable {H0 H H2 : Hp} {p : Addr} {ns : List Addr} {L : List (Addr × HO)}
theorem Fr.none (F : Fr H0 p ns L H) {q : Addr} (h : H q = none) : H0 q = none := by
  cases e : H0 q with
  | none => rfl
  | some o =>
    by_cases c : q = p
    · subst c; obtain ⟨o', e'⟩ := F.live _ F.mem; rw [e'] at h; cases h
    · rw [F.kp q o c e] at h; cases h
theorem Fr.notin (F : Fr H0 p ns L H) {q : Addr} (h : H q = Option.none) : q ∉ ns := fun z => by obtain ⟨o, e⟩ := F.live q z; rw [e] at h; cases h
theorem Fr.to (F : Fr H0 p ns L H) (k : ∀ b o, b ∉ ns → H b = some o → H2 b = some o) (l : ∀ n ∈ ns, ∃ o, H2 n = some o) : Fr H0 p ns L H2 where
  kp := fun b o hb e => k b o (fun z => by rcases F.old b z with c | c; exact hb c; rw [c] at e; cases e) (F.kp b o hb e)
  has := fun x hx => ⟨(F.has x hx).1, (F.has x hx).2.1, k _ _ (F.has x hx).1 (F.has x hx).2.2⟩
  live := l
  old := F.old
  mem := F.mem
  nd := F.nd
theorem Fr.nin (F : Fr H0 p ns L H) {q : Addr} (h : H q = Option.none) : q ∉ L.map (·.1) := fun z => by
  obtain ⟨x, hx, e⟩ := List.mem_map.mp z
  have := (F.has x hx).2.2
  rw [e, h] at this; cases this
theorem nin_cons {a b : Addr} {o : HO} {L : List (Addr × HO)} (h : a ≠ b) (k : a ∉ L.map (·.1)) : a ∉ ((b, o) :: L).map (·.1) := fun z => by
  rcases List.mem_cons.mp z with z | z
  · exact h z
  · exact k z
theorem Fr.cons (F : Fr H0 p ns L H) {q : Addr} {o : HO} (h1 : q ∉ ns) (h2 : H0 q = Option.none) (h3 : H q = some o) (h4 : q ∉ L.map (·.1)) : Fr H0 p ns ((q, o) :: L) H where
  kp := F.kp
  has := fun x hx => by
    rcases List.mem_cons.mp hx with c | c
    · subst c; exact ⟨h1, h2, h3⟩
    · exact F.has x c
  live := F.live
  old := F.old
  mem := F.mem
  nd := List.nodup_cons.mpr ⟨h4, F.nd⟩
theorem Fr.set (F : Fr H0 p ns L H) {o : HO} {q : Addr} (hq : q ∈ ns) (e : upd H q o = H2) : Fr H0 p ns L H2 := by
  subst e
  refine F.to (fun b u h1 h2 => ?_) (fun n hn => ?_)
  · rw [upd_ne (fun z => h1 (by rw [z]; exact hq))]; exact h2
  · by_cases c : n = q
    · subst c; exact ⟨_, upd_same⟩
    · rw [upd_ne c]; exact F.live n hn
theorem Fr.new (F : Fr H0 p ns L H) {o : HO} {q : Addr} (hq : H q = Option.none) (e : upd H q o = H2) : Fr H0 p ns ((q, o) :: L) H2 := by
  subst e
  refine (F.to (H2 := upd H q o) (fun b u h1 h2 => same_new hq _ _ _ h2) (fun n hn => ?_)).cons (F.notin hq) (F.none hq) upd_same (F.nin hq)
  obtain ⟨u, hu⟩ := F.live n hn
  exact ⟨u, same_new hq _ _ _ hu⟩
/-- one more is being changed -/
theorem Fr.own (F : Fr H0 p ns L H) {o : HO} {q : Addr} (hq : H q = Option.none) (e : upd H q o = H2) : Fr H0 p (q :: ns) L H2 := by
  have G := F.new hq e
  subst e
  refine ⟨G.kp, fun x hx => ?_, fun n hn => ?_, fun n hn => ?_, List.mem_cons_of_mem _ F.mem, F.nd⟩
  · have g := F.has x hx
    refine ⟨fun z => ?_, g.2.1, (G.has x (List.mem_cons_of_mem _ hx)).2.2⟩
    rcases List.mem_cons.mp z with c | c
    · rw [c, hq] at g; cases g.2.2
    · exact g.1 c
  · rcases List.mem_cons.mp hn with c | c
    · subst c; exact ⟨_, upd_same⟩
    · exact G.live n c
  · rcases List.mem_cons.mp hn with c | c
    · subst c; exact .inr (F.none hq)
    · exact F.old n c
theorem Fr.get (F : Fr H0 p ns L H) {x : Addr × HO} (h : x ∈ L) : H x.1 = some x.2 := (F.has x h).2.2
theorem Fr.putf (F : Fr H0 p ns L H) {o o' : HO} {q : Addr} (hq : H q = Option.none) (e : upd (upd H q o) p o' = H2) : Fr H0 p ns ((q, o) :: L) H2 := (F.new hq rfl).set F.mem e
theorem Fr.ownf (F : Fr H0 p ns L H) {o o' : HO} {q : Addr} (hq : H q = Option.none) (e : upd (upd H q o) p o' = H2) : Fr H0 p (q :: ns) L H2 ∧ H2 q = some o := by
  have G := F.own hq (o := o) rfl
  refine ⟨G.set (List.mem_cons_of_mem _ F.mem) e, ?_⟩
  have n : q ≠ p := fun z => F.notin hq (by rw [z]; exact F.mem)
  rw [← e, upd_ne n]; exact upd_same
theorem Fr.same (F : Fr H0 p ns L H) (s : Same H H2) : Fr H0 p ns L H2 := F.to (fun b o _ e => s b o e) (fun n hn => let ⟨o, e⟩ := F.live n hn; ⟨o, s _ _ e⟩)
theorem Fr.start {o : HO} (h : H0 p = some o) : Fr H0 p [p] [] H0 where
  kp := fun _ _ _ e => e
  has := fun _ h => nomatch h
  live := fun n hn => by cases List.mem_singleton.mp hn; exact ⟨o, h⟩
  old := fun n hn => .inl (List.mem_singleton.mp hn)
  mem := List.mem_singleton.mpr rfl
  nd := List.nodup_nil
end
def yF (clk : Int) (st fi na nu lm md hn fr rt lr : Addr) : List (Str × V) := [("clock", .int clk), ("stream_texts", .ref st), ("file_rows", .ref fi), ("names_of", .ref na), ("numbers_of", .ref nu), ("bar_level", .int 0), ("logger_map", .ref lm), ("made", .ref md), ("handler_names", .ref hn), ("failure_rows", .ref fr), ("root", .ref rt), ("last_resort", .ref lr)]
/-- where the parts of a yard lie -/
structure YParts where
  (st fi na nu lm md hn fr rt lr rl rh ll : Addr)
def YParts.L (K : PySem.W.Frag) (y : Addr) (q : YParts) (rd ld : Addr) : List (Addr × HO) := [(q.ll, .lst []), (q.lr, .ins (He.ga K "StreamHandler") ld (hF q.ll y ++ ([("stream", .str "stderr")] : List (Str × V)))), (q.rh, .lst []), (q.rl, .lst []), (q.rt, .ins (CL K) rd (lF q.rl y "root" 30 q.rh .non)), (q.fr, .lst []), (q.hn, .dK []), (q.lm, .dK []), (q.nu, .dK (kv_FIRST_NUMBERS.map fun q => (q.1, q.2.v K))), (q.na, .dK (kv_FIRST_NAMES.map fun q => (q.1, q.2.v K))), (q.fi, .dK []), (q.st, .dK [])]
structure YNew (K : PySem.W.Frag) (H0 H : Hp) (y dy : Addr) (clk : Int) (q : YParts) : Prop where
  fr : ∃ rd ld, Fr H0 y [q.md, y] (q.L K y rd ld) H
  y : H y = some (.ins (CY K) dy (yF clk q.st q.fi q.na q.nu q.lm q.md q.hn q.fr q.rt q.lr))
  md : H q.md = some (.lst [])
def spYardInit (K : PySem.W.Frag) : Sp := fun vs H Q _ => ∃ (p dx : Addr) (clk : Int), vs = [.ref p, .int clk] ∧ H p = some (.ins (CY K) dx []) ∧ ∀ (H' : Hp) (q : YParts), YNew K H H' p dx clk q → Q .non H'
theorem body_yard_init {f : Addr} {cdv : Value} {A : Around} {outer : List Env} {s : Shared} {H : Hp} {vs : List V} {Q : VK} {E : XK} (T : Txt P w K mg) (hr : Room 4 (A.deeper (envOfC "Yard.__init__" (defScope s_Yard_init) s.heap.objs.size f cdv))) (h : spYardInit K vs H Q E)
    (c_Logger_init : Callable P w K mg base 2 (He.ma K (He.ga K "Logger") "__init__") ["self", "yard", "name", "level"] [] (spLoggerInit K))
    (c_StreamHandler_init_d1 : Callable P w K mg base 3 (He.ma K (He.ga K "StreamHandler") "__init__") ["self", "yard", "stream"] [.str "stderr"] (spStreamInit K)) :
    ∃ t, PSs (cxOf CX0 P w K mg base nm_Yard_init "Yard.__init__" (defScope s_Yard_init) f cdv A outer s H E).nox (defBody s_Yard_init) t ∧ t { nx := fun _ H' => Q .non H', rt := Q } (L2.start nm_Yard_init vs) H := by
  obtain ⟨p, dx, clk, rfl, hp, hQ⟩ := h
  refine ⟨_, (pss_cons (ps_fld (pv 0) (pv 1) rfl)
      (pss_cons (ps_fld (pv 0) pe_dnewK rfl)
      (pss_cons (ps_fld (pv 0) pe_dnewK rfl)
      (pss_cons (ps_fld (pv 0) (pe_callTy (RB.call_dictK T.t_FIRST_NAMES) (by rfl) T.b_dict (by decide +kernel) (pa_cons (pe_glob (v := .ref _) (by rfl) T.g_FIRST_NAMES rfl) pa_nil)) rfl)
      (pss_cons (ps_fld (pv 0) (pe_callTy (RB.call_dictK T.t_FIRST_NUMBERS) (by rfl) T.b_dict (by decide +kernel) (pa_cons (pe_glob (v := .ref _) (by rfl) T.g_FIRST_NUMBERS rfl) pa_nil)) rfl)
      (pss_cons (ps_fld (pv 0) pe_int rfl)
      (pss_cons (ps_fld (pv 0) pe_dnewK rfl)
      (pss_cons (ps_fld (pv 0) (pe_lst pa_nil) rfl)
      (pss_cons (ps_fld (pv 0) pe_dnewK rfl)
      (pss_cons (ps_fld (pv 0) (pe_lst pa_nil) rfl)
      (pss_cons (ps_fld (pv 0) (pe_mk T.k_Logger T.g_Logger c_Logger_init (hr.mono (by first | decide | exact Nat.le_refl _)) (by rfl) (pa_cons (pv 0) (pa_cons pe_str (pa_cons (pe_gi (by rfl) T.g_WARNING) pa_nil)))) rfl)
      (pss_cons (ps_fld (pv 0) (pe_mk T.k_StreamHandler T.g_StreamHandler c_StreamHandler_init_d1 (hr.mono (by first | decide | exact Nat.le_refl _)) (by rfl) (pa_cons (pv 0) pa_nil)) rfl)
      (pss_one (ps_expr (pe_bm0 PySem.F.plainAttrs_list PySem.F.slot_list_pop PySem.F.type_list_pop mt_pop (pe_fld (pv 0) rfl)))))))))))))))), ?_⟩
  have F0 := Fr.start hp
  refine ⟨_, rfl, _, rfl, p, _, dx, _, rfl, hp, T.c_Yard, T.n_Yard_clock, (by show 0 < 1000; decide), ?_⟩
  generalize e1 : upd H p _ = H1
  have F1 := F0.set List.mem_cons_self e1
  have p1 := congrFun e1.symm p; rw [upd_same] at p1
  clear e1
  intro st h_st
  refine ⟨_, rfl, p, _, dx, _, rfl, same_new h_st _ _ _ p1, T.c_Yard, T.n_Yard_stream_texts, (by show 1 < 1000; decide), ?_⟩
  generalize e : upd (upd H1 st _) p _ = H2
  have F2 := F1.putf h_st e
  have p2 := congrFun e.symm p; rw [upd_same] at p2
  clear e
  intro fi h_fi
  refine ⟨_, rfl, p, _, dx, _, rfl, same_new h_fi _ _ _ p2, T.c_Yard, T.n_Yard_file_rows, (by show 2 < 1000; decide), ?_⟩
  generalize e : upd (upd H2 fi _) p _ = H3
  have F3 := F2.putf h_fi e
  have p3 := congrFun e.symm p; rw [upd_same] at p3
  clear e
  refine ⟨rfl, fun na h_na => ?_⟩
  refine ⟨_, rfl, p, _, dx, _, rfl, same_new h_na _ _ _ p3, T.c_Yard, T.n_Yard_names_of, (by show 3 < 1000; decide), ?_⟩
  generalize e : upd (upd H3 na _) p _ = H4
  have F4 := F3.putf h_na e
  have p4 := congrFun e.symm p; rw [upd_same] at p4
  clear e
  refine ⟨rfl, fun nu h_nu => ?_⟩
  refine ⟨_, rfl, p, _, dx, _, rfl, same_new h_nu _ _ _ p4, T.c_Yard, T.n_Yard_numbers_of, (by show 4 < 1000; decide), ?_⟩
  generalize e : upd (upd H4 nu _) p _ = H5
  have F5 := F4.putf h_nu e
  have p5 := congrFun e.symm p; rw [upd_same] at p5
  clear e
  refine ⟨_, rfl, p, _, dx, _, rfl, p5, T.c_Yard, T.n_Yard_bar_level, (by show 5 < 1000; decide), ?_⟩
  generalize e : upd H5 p _ = H6
  have F6 := F5.set F5.mem e
  have p6 := congrFun e.symm p; rw [upd_same] at p6
  clear e
  intro lm h_lm
  refine ⟨_, rfl, p, _, dx, _, rfl, same_new h_lm _ _ _ p6, T.c_Yard, T.n_Yard_logger_map, (by show 6 < 1000; decide), ?_⟩
  generalize e : upd (upd H6 lm _) p _ = H7
  have F7 := F6.putf h_lm e
  have p7 := congrFun e.symm p; rw [upd_same] at p7
  clear e
  refine ⟨(by show 0 ≤ sizeLine; decide), fun md h_md => ?_⟩
  refine ⟨_, rfl, p, _, dx, _, rfl, same_new h_md _ _ _ p7, T.c_Yard, T.n_Yard_made, (by show 7 < 1000; decide), ?_⟩
  generalize e : upd (upd H7 md _) p _ = H8
  obtain ⟨F8, m8⟩ := F7.ownf h_md e
  have p8 := congrFun e.symm p; rw [upd_same] at p8
  have nmp : md ≠ p := fun z => F7.notin h_md (by rw [z]; exact F7.mem)
  clear e
  intro hn h_hn
  refine ⟨_, rfl, p, _, dx, _, rfl, same_new h_hn _ _ _ p8, T.c_Yard, T.n_Yard_handler_names, (by show 8 < 1000; decide), ?_⟩
  generalize e : upd (upd H8 hn _) p _ = H9
  have F9 := F8.putf h_hn e
  have p9 := congrFun e.symm p; rw [upd_same] at p9
  have m9 : H9 md = some (.lst []) := by rw [← e, upd_ne nmp]; exact same_new h_hn _ _ _ m8
  clear e
  refine ⟨(by show 0 ≤ sizeLine; decide), fun fr h_fr => ?_⟩
  refine ⟨_, rfl, p, _, dx, _, rfl, same_new h_fr _ _ _ p9, T.c_Yard, T.n_Yard_failure_rows, (by show 9 < 1000; decide), ?_⟩
  generalize e : upd (upd H9 fr _) p _ = H10
  have F10 := F9.putf h_fr e
  have p10 := congrFun e.symm p; rw [upd_same] at p10
  have m10 : H10 md = some (.lst []) := by rw [← e, upd_ne nmp]; exact same_new h_fr _ _ _ m9
  clear e
  -- root
  refine ⟨_, rfl, fun rt rd h_rt h_rd hne => ?_⟩
  refine ⟨rt, rd, p, "root", 30, rfl, upd_same, fun Hr rl rh k1 k2 k3 k4 k5 k6 k7 => ⟨rfl, ?_⟩⟩
  have sr : Same H10 Hr := made_same h_rt h_rd k1
  obtain ⟨k2a, k2⟩ := upd_none k2
  obtain ⟨k3a, k3⟩ := upd_none k3
  have k2 := (upd_none k2).2
  have k3 := (upd_none k3).2
  have j1 : rl ≠ rt := fun z => by rw [z, k5] at k6; cases k6
  have j2 : rh ≠ rt := fun z => by rw [z, k5] at k7; cases k7
  have Fr1 := (((F10.same sr).cons (F10.notin h_rt) (F10.none h_rt) k5 (F10.nin h_rt)).cons (F10.notin k2) (F10.none k2) k6 (nin_cons j1 (F10.nin k2))).cons (F10.notin k3) (F10.none k3) k7 (nin_cons (Ne.symm k4) (nin_cons j2 (F10.nin k3)))
  have pr := sr _ _ p10
  have mr := sr _ _ m10
  refine ⟨_, rfl, p, _, dx, _, rfl, pr, T.c_Yard, T.n_Yard_root, (by show 10 < 1000; decide), ?_⟩
  generalize e : upd Hr p _ = H11
  have F11 := Fr1.set Fr1.mem e
  have p11 := congrFun e.symm p; rw [upd_same] at p11
  have m11 : H11 md = some (.lst []) := by rw [← e, upd_ne nmp]; exact mr
  clear e
  -- last_resort
  refine ⟨_, rfl, fun lr ld h_lr h_ld hne2 => ?_⟩
  have npl : lr ≠ p := fun z => by rw [z, p11] at h_lr; cases h_lr
  have nml : lr ≠ md := fun z => by rw [z, m11] at h_lr; cases h_lr
  have t1 : ∀ C fs, Same H11 (upd (upd H11 ld (.own lr)) lr (.ins C ld fs)) := fun C fs => made_same h_lr h_ld (fun _ _ _ e => e)
  refine ⟨lr, ld, p, dx, md, "stderr", _, [], rfl, upd_same, npl, t1 _ _ _ _ p11, rfl, rfl, t1 _ _ _ _ m11, (by decide), fun Hl ll l1 l2 l3 l4 l5 => ⟨rfl, ?_⟩⟩
  have l2b : H11 ll = none := (upd_none (upd_none l2).2).2
  have f12 : ∀ b o, b ∉ [md, p] → H11 b = some o → Hl b = some o := fun b o hb e => l1 b o (ne_of_none e h_lr) (fun z => hb (by rw [z]; exact List.mem_cons_self)) (t1 _ _ _ _ e)
  have p12 := l1 p _ (Ne.symm npl) (Ne.symm nmp) (t1 _ _ _ _ p11)
  have F12 := ((F11.to f12 (fun n hn => by
    rcases List.mem_cons.mp hn with c | c
    · subst c; exact ⟨_, l5⟩
    · cases List.mem_singleton.mp c; exact ⟨_, p12⟩)).cons (F11.notin h_lr) (F11.none h_lr) l3 (F11.nin h_lr)).cons (F11.notin l2b) (F11.none l2b) l4 (nin_cons (fun z => (by rw [z, l3] at l4; cases l4)) (F11.nin l2b))
  refine ⟨_, rfl, p, _, dx, _, rfl, p12, T.c_Yard, T.n_Yard_last_resort, (by show 11 < 1000; decide), ?_⟩
  generalize e : upd Hl p _ = H13
  have F13 := F12.set F12.mem e
  have p13 := congrFun e.symm p; rw [upd_same] at p13
  have m13 : H13 md = some (.lst [.ref lr]) := by rw [← e, upd_ne nmp]; exact l5
  clear e
  refine ⟨_, rfl, p, _, dx, _, _, rfl, p13, T.c_Yard, T.n_Yard_made, rfl, .inl ⟨rfl, _, SqL.of m13⟩, md, _, _, rfl, rfl, m13, rfl, ?_⟩
  have F14 := F13.set (o := .lst []) List.mem_cons_self rfl
  refine hQ _ ⟨st, fi, na, nu, lm, md, hn, fr, rt, lr, rl, rh, ll⟩ ⟨⟨rd, ld, F14⟩, ?_, upd_same⟩
  rw [upd_ne (Ne.symm nmp)]; exact p13
theorem len_yard_init : ∀ vs H Q E, spYardInit K vs H Q E → vs.length = 2 := fun vs H Q E h => by
  obtain ⟨p, dx, clk, rfl, _⟩ := h; rfl
theorem ok_yard_init {f : Addr} (T : Txt P w K mg) (F : Stands K "__init__" "Yard.__init__" s_Yard_init [.int 0] f)
    (c_Logger_init : Callable P w K mg base 2 (He.ma K (He.ga K "Logger") "__init__") ["self", "yard", "name", "level"] [] (spLoggerInit K))
    (c_StreamHandler_init_d1 : Callable P w K mg base 3 (He.ma K (He.ga K "StreamHandler") "__init__") ["self", "yard", "stream"] [.str "stderr"] (spStreamInit K)) : Callable P w K mg base 5 f ["self", "now"] [.int 0] (spYardInit K) :=
  F.call sc_Yard_init 1 0 len_yard_init (fun cdv A outer s H vs Q E hr h => body_yard_init T hr h c_Logger_init c_StreamHandler_init_d1) (fun z => nomatch z) fun _ => ⟨rfl, fun _ _ _ _ _ _ _ us its hl hi => match us, hl, its, hi with | [_], _, [_], _ => ⟨_, rfl, rfl⟩⟩
theorem ok_yard_kw {f : Addr} (T : Txt P w K mg) (F : Stands K "__init__" "Yard.__init__" s_Yard_init [.int 0] f)
    (c_Logger_init : Callable P w K mg base 2 (He.ma K (He.ga K "Logger") "__init__") ["self", "yard", "name", "level"] [] (spLoggerInit K))
    (c_StreamHandler_init_d1 : Callable P w K mg base 3 (He.ma K (He.ga K "StreamHandler") "__init__") ["self", "yard", "stream"] [.str "stderr"] (spStreamInit K)) : RK.CallKw P w K mg base 5 f ["self", "now"] 1 ["now"] (fun vs zs => vs ++ zs) (spYardInit K) :=
  RK.stands_kwD (dvs := [.int 0]) (n := 1) (ks := ["now"]) (fun us its ws => us ++ ws) (fun z => nomatch z) F sc_Yard_init len_yard_init (fun cdv A outer s H vs Q E hr h => body_yard_init T hr h c_Logger_init c_StreamHandler_init_d1) (fun r1 _ r2 => r1.append r2)
    (fun _ _ _ _ _ _ _ us its ws h1 h2 h3 => match us, its, ws, h1, h2, h3 with | [_], [_], [_], _, _, _ => ⟨_, rfl, rfl⟩)
end
end K17

set_option Elab.async false
set_option linter.all false
set_option maxRecDepth 100000
set_option maxHeartbeats 4000000
/-! dict(zip(xs, ys)) of two lists, the keys texts or numbers. -/
namespace RZd
open PySem PySem.Spec PyProof.Rows L2 RC
variable {X : Cx}
theorem kv_zip : ∀ {ks : List Key} {ys : List V} {us : List Value}, Vals ys us → KV (ks.zip ys) (ks.zip us)
  | [], _, _, _ => by simp only [List.zip_nil_left]; exact .nil
  | k :: ks, _, _, .nil => by simp only [List.zip_nil_right]; exact .nil
  | k :: ks, _, _, .cons r t => .cons ⟨rfl, r⟩ (kv_zip t)
theorem vals_get : ∀ {xs : List V} {us : List Value} {i : Nat} {x : V} {u : Value}, Vals xs us → xs[i]? = some x → us[i]? = some u → RelV x u
  | _, _, i, _, _, .nil, h, _ => by simp at h
  | _, _, 0, _, _, .cons r t, h, h2 => by simp at h h2; subst h; subst h2; exact r
  | _, _, i + 1, _, _, .cons r t, h, h2 => vals_get (i := i) t (by simpa using h) (by simpa using h2)
def tDZ (K : PySem.W.Frag) (ta : TA) : TE := fun σ H Q => ta σ H fun vs H1 => ∃ (a b : Addr) (ks : List Key) (ys : List V), vs = [.ref a, .ref b] ∧ SqL K H1 a (ks.map kV) ∧ SqL K H1 b ys ∧ ∀ p, H1 p = none → Q (.ref p) (upd H1 p (.dK (mergeK [] (ks.zip ys))))
theorem pe_dictZip {p p2 q pos : Pos} {e e2 : Expr} {ta : TA} (hc : X.calm = true) (hg : Gl X "dict") (hm : X.mg "dict" = none) (hg2 : Gl X "zip") (hm2 : X.mg "zip" = none) (ha : PA X [e, e2] ta)
    (na : starEach [.Call (.Name "zip" p2) [e, e2] [] q] X.env = (false, eval (.Call (.Name "zip" p2) [e, e2] [] q) X.env) :: starEach [] X.env := by rfl)
    (hs : starEach [e, e2] X.env = (false, eval e X.env) :: starEach [e2] X.env := by rfl) (hpl : (backTo q (starEach [e2] X.env)).any (·.1) = false := by rfl) :
    PE X (.Call (.Name "dict" p) [.Call (.Name "zip" p2) [e, e2] [] q] [] pos) (tDZ X.K ta) := by
  refine ⟨fun pins s σ H Q I h => ?_⟩
  refine Call_ (ld_blt I hg hm PyProof.Rows.boot_dict (PyProof.Rows.callWith_type1 (args_cons (Call_ (ld_blt I hg2 hm2 PyProof.Rows.boot_zip (PyProof.Rows.callWith_type1 (thn (ha.run q pins s σ H _ I h) fun us s1 ⟨vs, H1, I1, r1, q1⟩ => ?_) hs hpl))) na) na))
  obtain ⟨a, b, ks, ys, ex, hqx, hqy, qq⟩ := q1
  subst ex
  cases r1 with
  | cons r rr =>
    cases rr with
    | cons r' rr =>
      cases rr
      cases r
      cases r'
      obtain ⟨its, rv, p1, lz1⟩ := I1.list hqx
      obtain ⟨its2, rv2, p2, lz2⟩ := I1.list hqy
      have la : a < s1.heap.objs.size := p1.lt
      have lb : b < s1.heap.objs.size := p2.lt
      refine call_zip_2 p1.isList p2.isList fun h' hz hTI hTO h1 h2 hsz hk => args_nil ?_
      have lk : ks.length ≤ sizeLine := by rw [List.length_map] at lz1; exact lz1
      have hl : its.length = ks.length := by rw [← rv.length, List.length_map]
      have I2 : Inv X pins σ H1 { s1 with heap := h' } := I1.kept (t' := s1.toks) hk
      refine PySem.call_dict_pairs (knd := mixKind X.prog X.w) (kvs := ks.zip its2) (PairArg.zip _ _ _ _ _ a b (PySem.W.ktu_apart s1.heap.objs.size a b la lb) its.toArray its2.toArray) (I1.ok.hd hc) ⟨hz, hTI, ⟨_, _, hTO⟩, h1, h2, p1.isList.at fun o e => hk _ o e, p2.isList.at fun o e => hk _ o e⟩ ⟨?_, fun i key v hr => ?_⟩ ?_ fun h2' tk hd' hk2 => ?_
      · rw [List.length_zip, List.size_toArray, List.size_toArray, hl]
      · obtain ⟨e1, e2⟩ := hr
        have e1 : its[i]? = some key := by simpa using e1
        have e2 : its2[i]? = some v := by simpa using e2
        have hi : i < ks.length := by rw [← hl]; exact (List.getElem?_eq_some_iff.mp e1).1
        have ek : ks[i]? = some ks[i] := List.getElem?_eq_getElem hi
        refine ⟨ks[i], List.getElem?_zip_eq_some.mpr ⟨ek, e2⟩, ?_⟩
        exact kV_is (P := X.prog) (w := X.w) (vals_get rv (by rw [List.getElem?_map, ek]; rfl) e1)
      · refine Nat.le_trans (Nat.min_le_left _ _) ?_
        rw [List.size_toArray, hl]
        exact lk
      · have le : s1.heap.objs.size ≤ h'.objs.size := by rw [hsz]; exact Nat.le_add_right _ _
        have hm : (h'.objs.size == sysModules) = false := beq_eq_false_iff_ne.mpr (Nat.ne_of_gt I2.big)
        have hlen : (mergeK [] (ks.zip ys)).length ≤ sizeLine := by
          refine Nat.le_trans (length_mergeK _ []) ?_
          rw [List.length_nil, Nat.zero_add, List.length_zip]
          exact Nat.le_trans (Nat.min_le_left _ _) lk
        refine ⟨.ref h'.objs.size, upd H1 h'.objs.size (.dK (mergeK [] (ks.zip ys))), I1.laid (t' := tk) (fun c o e => hk2 c o (fun z => ?_) (hk _ _ e)) le (show ObjOk X.prog X.w _ _ _ (.dK (mergeK [] (ks.zip ys))) from ⟨hlen, hm, merged [] (ks.zip its2), KV.merge (kv_zip rv2) .nil, hd'⟩), rfl, qq _ (I1.hok.fresh le)⟩
        have lc := Heap.lt_size e
        simp only [List.mem_cons, List.not_mem_nil, or_false] at z
        rcases z with z | z | z | z <;> rw [z] at lc <;> first | exact absurd lc (Nat.not_lt.mpr (Nat.le_add_right _ _)) | exact absurd lc (Nat.lt_irrefl _)
end RZd

set_option Elab.async false
set_option linter.all false
set_option maxRecDepth 100000
set_option maxHeartbeats 0
namespace K17
open PySem PySem.Spec PyProof.Rows L2 RC
section
variable {P : Program} {w : World} {K : PySem.W.Frag} {mg : Str → Option Value} {base : Heap}
/-! ### data at any depth -/
inductive Dt
  | non
  | bl (b : Bool)
  | int (i : Int)
  | str (s : Str)
  | lst (n : Nat) (f : Nat → Dt)
  | tup (n : Nat) (f : Nat → Dt)
  | dct (ks : List Str) (f : Nat → Dt)
/-- x holds the data t, all its places in the region P -/
def HD (H : Hp) : Dt → (Addr → Prop) → V → Prop
  | .non, _, x => x = .non
  | .bl b, _, x => x = .bl b
  | .int i, _, x => x = .int i
  | .str s, _, x => x = .str s
  | .lst n f, P, x => ∃ (a : Addr) (xs : List V) (P' : Addr → Prop), x = .ref a ∧ P a ∧ ¬ P' a ∧ (∀ b, P' b → P b) ∧ H a = some (.lst xs) ∧ xs.length = n ∧ n ≤ 1000 ∧ ∀ i v, xs[i]? = some v → HD H (f i) P' v
  | .tup n f, P, x => ∃ (a : Addr) (xs : List V) (P' : Addr → Prop), x = .ref a ∧ P a ∧ ¬ P' a ∧ (∀ b, P' b → P b) ∧ H a = some (.tup xs) ∧ xs.length = n ∧ n ≤ 1000 ∧ ∀ i v, xs[i]? = some v → HD H (f i) P' v
  | .dct ks f, P, x => ∃ (a : Addr) (kvs : List (Str × V)) (P' : Addr → Prop), x = .ref a ∧ P a ∧ ¬ P' a ∧ (∀ b, P' b → P b) ∧ H a = some (.dK (kvs.map fun e => ((Sum.inr e.1 : Key), e.2))) ∧ kvs.map (·.1) = ks ∧ ks.Nodup ∧ ks.length < 64 ∧ ∀ i v, kvs[i]? = some v → HD H (f i) P' v.2
theorem HD.keep {H H' : Hp} : ∀ {t : Dt} {P : Addr → Prop} {x : V}, (∀ b o, P b → H b = some o → H' b = some o) → HD H t P x → HD H' t P x
  | .non, _, _, _, h => h
  | .bl _, _, _, _, h => h
  | .int _, _, _, _, h => h
  | .str _, _, _, _, h => h
  | .lst n f, P, x, k, h => by
    obtain ⟨a, xs, P', e, p1, p2, p3, ha, hl, hn, hi⟩ := h
    exact ⟨a, xs, P', e, p1, p2, p3, k _ _ p1 ha, hl, hn, fun i v hv => HD.keep (fun b o hb => k b o (p3 b hb)) (hi i v hv)⟩
  | .tup n f, P, x, k, h => by
    obtain ⟨a, xs, P', e, p1, p2, p3, ha, hl, hn, hi⟩ := h
    exact ⟨a, xs, P', e, p1, p2, p3, k _ _ p1 ha, hl, hn, fun i v hv => HD.keep (fun b o hb => k b o (p3 b hb)) (hi i v hv)⟩
  | .dct ks f, P, x, k, h => by
    obtain ⟨a, kvs, P', e, p1, p2, p3, ha, hl, hnd, hn, hi⟩ := h
    exact ⟨a, kvs, P', e, p1, p2, p3, k _ _ p1 ha, hl, hnd, hn, fun i v hv => HD.keep (fun b o hb => k b o (p3 b hb)) (hi i v hv)⟩
theorem HD.same {H H' : Hp} {t : Dt} {P : Addr → Prop} {x : V} (h : HD H t P x) (s : Same H H') : HD H' t P x := h.keep fun b o _ e => s b o e
theorem HD.wide {H : Hp} {t : Dt} {P P2 : Addr → Prop} {x : V} (h : HD H t P x) (k : ∀ b, P b → P2 b) : HD H t P2 x := by
  cases t with
  | non => exact h
  | bl _ => exact h
  | int _ => exact h
  | str _ => exact h
  | lst n f =>
    obtain ⟨a, xs, P', e, p1, p2, p3, r⟩ := h
    exact ⟨a, xs, P', e, k _ p1, p2, fun b hb => k b (p3 b hb), r⟩
  | tup n f =>
    obtain ⟨a, xs, P', e, p1, p2, p3, r⟩ := h
    exact ⟨a, xs, P', e, k _ p1, p2, fun b hb => k b (p3 b hb), r⟩
  | dct ks f =>
    obtain ⟨a, xs, P', e, p1, p2, p3, r⟩ := h
    exact ⟨a, xs, P', e, k _ p1, p2, fun b hb => k b (p3 b hb), r⟩
/-- only places that hold something -/
theorem HD.live {H : Hp} : ∀ {t : Dt} {P : Addr → Prop} {x : V}, HD H t P x → HD H t (fun b => P b ∧ H b ≠ none) x
  | .non, _, _, h => h
  | .bl _, _, _, h => h
  | .int _, _, _, h => h
  | .str _, _, _, h => h
  | .lst n f, P, x, h => by
    obtain ⟨a, xs, P', e, p1, p2, p3, ha, hl, hn, hi⟩ := h
    exact ⟨a, xs, fun b => P' b ∧ H b ≠ none, e, ⟨p1, by rw [ha]; exact fun z => nomatch z⟩, fun z => p2 z.1, fun b hb => ⟨p3 b hb.1, hb.2⟩, ha, hl, hn, fun i v hv => HD.live (hi i v hv)⟩
  | .tup n f, P, x, h => by
    obtain ⟨a, xs, P', e, p1, p2, p3, ha, hl, hn, hi⟩ := h
    exact ⟨a, xs, fun b => P' b ∧ H b ≠ none, e, ⟨p1, by rw [ha]; exact fun z => nomatch z⟩, fun z => p2 z.1, fun b hb => ⟨p3 b hb.1, hb.2⟩, ha, hl, hn, fun i v hv => HD.live (hi i v hv)⟩
  | .dct ks f, P, x, h => by
    obtain ⟨a, kvs, P', e, p1, p2, p3, ha, hl, hnd, hn, hi⟩ := h
    exact ⟨a, kvs, fun b => P' b ∧ H b ≠ none, e, ⟨p1, by rw [ha]; exact fun z => nomatch z⟩, fun z => p2 z.1, fun b hb => ⟨p3 b hb.1, hb.2⟩, ha, hl, hnd, hn, fun i v hv => HD.live (hi i v hv)⟩
/-- not deeper than n -/
def Dep : Nat → Dt → Prop
  | n + 1, .lst m f => ∀ i, i < m → Dep n (f i)
  | n + 1, .tup m f => ∀ i, i < m → Dep n (f i)
  | n + 1, .dct ks f => ∀ i, i < ks.length → Dep n (f i)
  | n + 1, _ => True
  | 0, _ => False
theorem Dep.mono : ∀ {n : Nat} {t : Dt}, Dep n t → Dep (n + 1) t
  | 0, _, h => h.elim
  | n + 1, .lst m f, h => fun i hi => Dep.mono (n := n) (h i hi)
  | n + 1, .tup m f, h => fun i hi => Dep.mono (n := n) (h i hi)
  | n + 1, .dct ks f, h => fun i hi => Dep.mono (n := n) (h i hi)
  | n + 1, .non, _ => trivial
  | n + 1, .bl _, _ => trivial
  | n + 1, .int _, _ => trivial
  | n + 1, .str _, _ => trivial
end
end K17

set_option Elab.async false
set_option linter.all false
set_option maxRecDepth 100000
set_option maxHeartbeats 0
set_option pp.maxSteps 1000
local macro_rules | `(tactic| walk_at "cls") => `(tactic| first
  | with_reducible exact K17.Txt.c_Logger (by assumption)
  | with_reducible exact K17.Txt.c_StreamHandler (by assumption)
  | with_reducible exact K17.Txt.c_LogRecord (by assumption)
  | with_reducible exact K17.Txt.c_Field (by assumption)
  | with_reducible exact K17.Txt.c_Formatter (by assumption)
  | with_reducible exact K17.Txt.c_Yard (by assumption))
local macro_rules | `(tactic| walk_at "noat") => `(tactic| first
  | with_reducible exact K17.Txt.n_Logger_filters (by assumption)
  | with_reducible exact K17.Txt.n_Logger_yard (by assumption)
  | with_reducible exact K17.Txt.n_Logger_name (by assumption)
  | with_reducible exact K17.Txt.n_Logger_level (by assumption)
  | with_reducible exact K17.Txt.n_Logger_propagate (by assumption)
  | with_reducible exact K17.Txt.n_Logger_disabled (by assumption)
  | with_reducible exact K17.Txt.n_Logger_handlers (by assumption)
  | with_reducible exact K17.Txt.n_Logger_parent (by assumption)
  | with_reducible exact K17.Txt.n_StreamHandler_filters (by assumption)
  | with_reducible exact K17.Txt.n_StreamHandler_yard (by assumption)
  | with_reducible exact K17.Txt.n_StreamHandler_level (by assumption)
  | with_reducible exact K17.Txt.n_StreamHandler_formatter (by assumption)
  | with_reducible exact K17.Txt.n_StreamHandler_name (by assumption)
  | with_reducible exact K17.Txt.n_StreamHandler_terminator (by assumption)
  | with_reducible exact K17.Txt.n_StreamHandler_closed (by assumption)
  | with_reducible exact K17.Txt.n_StreamHandler_stream (by assumption)
  | with_reducible exact K17.Txt.n_LogRecord_name (by assumption)
  | with_reducible exact K17.Txt.n_LogRecord_levelno (by assumption)
  | with_reducible exact K17.Txt.n_LogRecord_levelname (by assumption)
  | with_reducible exact K17.Txt.n_LogRecord_msg (by assumption)
  | with_reducible exact K17.Txt.n_LogRecord_given (by assumption)
  | with_reducible exact K17.Txt.n_LogRecord_created (by assumption)
  | with_reducible exact K17.Txt.n_LogRecord_extra (by assumption)
  | with_reducible exact K17.Txt.n_Field_name (by assumption)
  | with_reducible exact K17.Txt.n_Field_conversion (by assumption)
  | with_reducible exact K17.Txt.n_Field_fill (by assumption)
  | with_reducible exact K17.Txt.n_Field_align (by assumption)
  | with_reducible exact K17.Txt.n_Field_width (by assumption)
  | with_reducible exact K17.Txt.n_Formatter_fmt (by assumption)
  | with_reducible exact K17.Txt.n_Formatter_style (by assumption)
  | with_reducible exact K17.Txt.n_Formatter_parts (by assumption)
  | with_reducible exact K17.Txt.n_Formatter_defaults (by assumption)
  | with_reducible exact K17.Txt.n_Yard_clock (by assumption)
  | with_reducible exact K17.Txt.n_Yard_stream_texts (by assumption)
  | with_reducible exact K17.Txt.n_Yard_file_rows (by assumption)
  | with_reducible exact K17.Txt.n_Yard_names_of (by assumption)
  | with_reducible exact K17.Txt.n_Yard_numbers_of (by assumption)
  | with_reducible exact K17.Txt.n_Yard_bar_level (by assumption)
  | with_reducible exact K17.Txt.n_Yard_logger_map (by assumption)
  | with_reducible exact K17.Txt.n_Yard_made (by assumption)
  | with_reducible exact K17.Txt.n_Yard_handler_names (by assumption)
  | with_reducible exact K17.Txt.n_Yard_failure_rows (by assumption)
  | with_reducible exact K17.Txt.n_Yard_root (by assumption)
  | with_reducible exact K17.Txt.n_Yard_last_resort (by assumption))
local macro_rules | `(tactic| walk_at "hp") => `(tactic| first
  | with_reducible assumption
  | with_reducible exact L2.upd_same
  | ((with_reducible apply RW.at_upd); (focus (walk_at "ne"; done)); (focus (walk_at "hp"; done)))
  | ((with_reducible apply RW.at_same); (focus (with_reducible assumption; done)); (focus (walk_at "hp"; done)))
  | ((with_reducible apply RW.at_old); (focus (with_reducible assumption; done)); (focus (walk_at "ne"; done)); (focus (walk_at "ne"; done)); (focus (walk_at "hp"; done))))
local macro_rules | `(tactic| walk_at "ne") => `(tactic| first
  | with_reducible assumption
  | with_reducible exact Ne.symm (by with_reducible assumption)
  | with_reducible exact RW.ne_upd (by with_reducible assumption)
  | with_reducible exact Ne.symm (RW.ne_upd (by with_reducible assumption))
  | ((with_reducible apply RW.ne_new); (focus (with_reducible assumption; done)); (focus (walk_at "hp"; done)))
  | ((with_reducible apply RW.ne_new'); (focus (with_reducible assumption; done)); (focus (walk_at "hp"; done)))
  | ((with_reducible apply RW.ne_kind); (focus (walk_at "hp"; done)); (focus (walk_at "hp"; done)); (exact fun z => nomatch z)))
local macro_rules | `(tactic| walk_at "no") => `(tactic| first
  | with_reducible assumption
  | ((with_reducible apply RW.no_upd); (focus (walk_at "ne"; done)); (focus (walk_at "no"; done)))
  | ((with_reducible apply RW.free_same); (focus (with_reducible assumption; done)); (focus (with_reducible assumption; done))))
local macro_rules | `(tactic| walk_at "sm") => `(tactic| first
  | with_reducible assumption
  | with_reducible exact L2.Same.refl _
  | ((with_reducible apply RW.same_put_new); (focus (walk_at "sm"; done)); (focus (walk_at "no"; done)))
  | ((with_reducible apply RW.same_put); (focus (walk_at "sm"; done)); (focus (walk_at "no"; done)))
  | ((with_reducible apply RW.same_then); (focus (with_reducible assumption; done)); (focus (walk_at "sm"; done))))
local macro_rules | `(tactic| walk_at "sq") => `(tactic| first
  | with_reducible assumption
  | ((with_reducible apply L2.SqL.of); (focus (walk_at "hp"; done)))
  | ((with_reducible apply L2.SqT.of); (focus (walk_at "hp"; done)))
  | ((with_reducible apply RW.sql_same); (focus (with_reducible assumption; done)); (focus (walk_at "sm"; done)))
  | ((with_reducible apply RW.sqt_same); (focus (with_reducible assumption; done)); (focus (walk_at "sm"; done))))
local macro_rules | `(tactic| walk_at "pr") => `(tactic| first
  | with_reducible exact PySem.Paired.nil
  | ((with_reducible apply PySem.Paired.cons); (focus (first | exact L2.ClsV.ty _ | exact L2.ClsV.own _; done)); (focus (walk_at "pr"; done))))
local macro_rules | `(tactic| walk_at "stm") => `(tactic| first
  | with_reducible assumption
  | ((with_reducible apply RW.stm_upd); (focus (walk_at "ne"; done)); (focus (walk_at "ne"; done)); (focus (walk_at "stm"; done)))
  | ((with_reducible apply RW.stm_same); (focus (with_reducible assumption; done)); (focus (walk_at "sm"; done))))
local macro_rules | `(tactic| walk_at "od") => `(tactic| first
  | with_reducible assumption
  | with_reducible exact RC.Old.refl _
  | ((with_reducible apply RW.old_upd); (focus (walk_at "od"; done)); (focus (walk_at "no"; done)))
  | ((with_reducible apply RW.old_then); (focus (with_reducible assumption; done)); (focus (walk_at "od"; done)))
  | ((with_reducible apply RW.old_same); (focus (walk_at "od"; done)); (focus (with_reducible assumption; done))))
local macro_rules | `(tactic| walk_at "num") => `(tactic| first
  | exact Nat.le_of_ble_eq_true rfl
  | omega
  | (simp only [List.length_cons, List.length_nil, List.length_append, List.length_map, List.length_replicate, List.length_take, PySem.sizeLine_eq]; omega))
local macro_rules | `(tactic| walk_at "ki") => `(tactic| first
  | with_reducible exact RW.k_int_int
  | with_reducible exact RW.k_bool_int
  | with_reducible exact RW.k_str_int
  | with_reducible exact RW.k_NoneType_int
  | with_reducible exact RW.k_list_int
  | with_reducible exact RW.k_tuple_int
  | with_reducible exact RW.k_dict_int)
local macro_rules | `(tactic| walk_at "kb") => `(tactic| first
  | with_reducible exact RW.k_int_bool
  | with_reducible exact RW.k_bool_bool
  | with_reducible exact RW.k_str_bool
  | with_reducible exact RW.k_NoneType_bool
  | with_reducible exact RW.k_list_bool
  | with_reducible exact RW.k_tuple_bool
  | with_reducible exact RW.k_dict_bool)
local macro_rules | `(tactic| walk_at "ks") => `(tactic| first
  | with_reducible exact RW.k_int_str
  | with_reducible exact RW.k_bool_str
  | with_reducible exact RW.k_str_str
  | with_reducible exact RW.k_NoneType_str
  | with_reducible exact RW.k_list_str
  | with_reducible exact RW.k_tuple_str
  | with_reducible exact RW.k_dict_str)
local macro_rules | `(tactic| walk_at "kl") => `(tactic| first
  | with_reducible exact RW.k_int_list
  | with_reducible exact RW.k_bool_list
  | with_reducible exact RW.k_str_list
  | with_reducible exact RW.k_NoneType_list
  | with_reducible exact RW.k_list_list
  | with_reducible exact RW.k_tuple_list
  | with_reducible exact RW.k_dict_list)
local macro_rules | `(tactic| walk_at "kt") => `(tactic| first
  | with_reducible exact RW.k_int_tuple
  | with_reducible exact RW.k_bool_tuple
  | with_reducible exact RW.k_str_tuple
  | with_reducible exact RW.k_NoneType_tuple
  | with_reducible exact RW.k_list_tuple
  | with_reducible exact RW.k_tuple_tuple
  | with_reducible exact RW.k_dict_tuple)
local macro_rules | `(tactic| walk_at "kd") => `(tactic| first
  | with_reducible exact RW.k_int_dict
  | with_reducible exact RW.k_bool_dict
  | with_reducible exact RW.k_str_dict
  | with_reducible exact RW.k_NoneType_dict
  | with_reducible exact RW.k_list_dict
  | with_reducible exact RW.k_tuple_dict
  | with_reducible exact RW.k_dict_dict)
local macro_rules | `(tactic| walk_at "kit") => `(tactic| first
  | ((with_reducible apply RW.gKb); walk_at "kb")
  | ((with_reducible apply RW.gKi); walk_at "ki")
  | ((with_reducible apply RW.gKl); walk_at "kl")
  | ((with_reducible apply RW.gKs); walk_at "ks")
  | ((with_reducible apply RW.gKt); walk_at "kt")
  | ((with_reducible apply RW.gKd); walk_at "kd"))
local macro_rules | `(tactic| walk_at "kita") => `(tactic| first
  | ((with_reducible apply RW.ka2) <;> walk_at "kit")
  | ((with_reducible apply RW.ka3) <;> walk_at "kit")
  | ((with_reducible apply RW.ka4) <;> walk_at "kit")
  | ((with_reducible apply RW.ka5) <;> walk_at "kit"))
local macro_rules | `(tactic| walk_at "ty") => `(tactic| first
  | with_reducible exact L2.TyX.base (.int _)
  | with_reducible exact L2.TyX.base (.str _)
  | with_reducible exact L2.TyX.base (.bl _)
  | with_reducible exact L2.TyX.base .non
  | ((with_reducible apply L2.TyX.base); (with_reducible apply L2.TyOf.lst); (focus (walk_at "hp"; done)))
  | ((with_reducible apply L2.TyX.base); (with_reducible apply L2.TyOf.tup); (focus (walk_at "hp"; done)))
  | ((with_reducible apply L2.TyX.base); (with_reducible apply L2.TyOf.dK); (focus (walk_at "hp"; done)))
  | ((with_reducible apply RC.tyx_lst); (focus (walk_at "sq"; done)))
  | ((with_reducible apply RC.tyx_tup); (focus (walk_at "sq"; done))))
local macro_rules | `(tactic| walk_at "val") => `(tactic| first
  | with_reducible assumption
  | rfl)
local macro_rules | `(tactic| walk_at "dg") => `(tactic| first
  | (apply RW.dget_s; (focus (walk_at "hp"; done)); (focus (walk_at "val"; done)))
  | (apply RW.dget_i; (focus (walk_at "hp"; done)); (focus (walk_at "val"; done)))
  | (apply RW.dget_sF; (focus (walk_at "hp"; done)); (focus (walk_at "val"; done)))
  | (apply RW.dget_sR; (focus (assumption; done)); (focus (walk_at "val"; done)))
  | (apply RW.dput_s; (focus (walk_at "hp"; done)); (focus (walk_at "num"; done)))
  | (apply RW.dput_i; (focus (walk_at "hp"; done)); (focus (walk_at "num"; done)))
  | ((with_reducible apply RW.tyv_l); (focus (walk_at "hp"; done)))
  | ((with_reducible apply RW.tyv_s); (focus (walk_at "sq"; done)))
  | (apply RW.isd; (focus (walk_at "hp"; done)))
  | (apply RW.rd_of; (focus (walk_at "hp"; done)))
  | (apply RW.sql_of; (focus (walk_at "hp"; done)))
  | (apply RW.sqt_of; (focus (walk_at "hp"; done)))
  | (apply RW.len_l; (focus (walk_at "hp"; done)))
  | (apply RW.len_sl; (focus (walk_at "sq"; done)))
  | (apply RW.len_st; (focus (walk_at "sq"; done))))
local macro_rules | `(tactic| walk_at "side") => `(tactic| first
  | with_reducible rfl
  | ((with_reducible apply RW.gHp); walk_at "hp")
  | ((with_reducible apply RW.gSm); walk_at "sm")
  | ((with_reducible apply RW.gNe); walk_at "ne")
  | ((with_reducible apply RW.gStm); walk_at "stm")
  | ((with_reducible apply RW.gOld); walk_at "od")
  | ((with_reducible apply RW.gNo); walk_at "noat")
  | ((with_reducible apply RW.gCls); walk_at "cls")
  | ((with_reducible apply RW.gCv); (first | with_reducible exact L2.ClsV.ty _ | with_reducible exact L2.ClsV.own _))
  | ((with_reducible apply RW.gTy); walk_at "ty")
  | ((with_reducible apply RW.gKit); walk_at "kit")
  | ((with_reducible apply RW.gKita); walk_at "kita")
  | ((with_reducible apply RW.gSl); walk_at "sq")
  | ((with_reducible apply RW.gSt); walk_at "sq")
  | ((with_reducible apply RW.gPr); walk_at "pr")
  | with_reducible assumption
  | with_reducible exact RW.gCp ⟨by decide, by decide, by decide⟩
  | walk_at "dg"
  | rfl
  | walk_at "num")
local macro_rules | `(tactic| walk_at "nu") => `(tactic| (repeat (refine RW.fr ?_)))
local macro_rules | `(tactic| walk_at "tt") => `(tactic| first
  | with_reducible rfl
  | with_reducible assumption
  | rfl
  | with_reducible exact RW.cSsT (by with_reducible assumption)
  | with_reducible exact RW.cSsF (by with_reducible assumption)
  | with_reducible exact RW.cNsT (by with_reducible assumption)
  | with_reducible exact RW.cNsF (by with_reducible assumption)
  | with_reducible exact RW.cSiT (by with_reducible assumption)
  | with_reducible exact RW.cSiF (by with_reducible assumption)
  | with_reducible exact RW.cNiT (by with_reducible assumption)
  | with_reducible exact RW.cNiF (by with_reducible assumption)
  | with_reducible exact RW.someT (by with_reducible assumption)
  | with_reducible exact RW.someF (by with_reducible assumption)
  | with_reducible exact RW.nsomeT (by with_reducible assumption)
  | with_reducible exact RW.nsomeF (by with_reducible assumption))
local macro_rules | `(tactic| walk_at "disp") => `(tactic| first
  | with_reducible refine RW.disp1 ?_
  | with_reducible refine RW.disp2 ?_
  | with_reducible refine RW.disp3 ?_
  | with_reducible refine RW.disp4 ?_
  | with_reducible refine RW.disp5 ?_
  | with_reducible refine RW.disp6 ?_
  | with_reducible refine RW.disp7 ?_
  | with_reducible refine RW.disp8 ?_)
local macro_rules | `(tactic| walk_at "ex") => `(tactic| ((fail_if_success (apply @Exists.intro (Nat → Nat → _))); (fail_if_success (apply @Exists.intro (Nat → L2.St → L2.Hp → Prop))); (fail_if_success (apply @Exists.intro (L2.St → L2.Hp → Prop))); apply Exists.intro))
local macro_rules | `(tactic| walk_at "st") => `(tactic| first
  | ((fail_if_success (with_reducible apply RW.isMut)); (fail_if_success (with_reducible apply RW.isMut2)); (apply And.intro); (focus (walk_at "side"; done)))
  | walk_at "disp"
  | walk_at "ex"
  | refine RC.iteT' (by walk_at "tt") ?_
  | refine RC.iteF' (by walk_at "tt") ?_)
local macro_rules | `(tactic| walk_at "gi") => `(tactic| (repeat (first | walk_at "st" | ((walk_at "nu"); (intro _ h0; have h1 : _ = none := h0; clear h1); intros))))
local macro_rules | `(tactic| walk_at "in") => `(tactic| (try dsimp only [RW.cxK]))
local macro_rules | `(tactic| walk_at "go") => `(tactic| (repeat walk_at "st"))
namespace K17
open PySem PySem.Spec PyProof.Rows L2 RC
section
variable {P : Program} {w : World} {K : PySem.W.Frag} {mg : Str → Option Value} {base : Heap}
/-! ### copies -/
def spCopD (n : Nat) : Sp := fun vs H Q _ => ∃ (x : V) (t : Dt) (P : Addr → Prop), vs = [x] ∧ HD H t P x ∧ Dep n t ∧ ∀ H' v, Same H H' → HD H' t (fun b => H b = none) v → Q v H'
theorem yes_if {σ : L2.St} {H : Hp} {A B : Hp → Prop} (h : A H) : tYes σ H (fun b H3 => if b = true then A H3 else B H3) := by
  show (if true = true then A H else B H)
  rw [if_pos rfl]; exact h
theorem take_more2 {α : Type} {xs : List α} {i : Nat} {x : α} (h : xs[i]? = some x) : xs.take (i + 1) = xs.take i ++ [x] := by rw [List.take_add_one, h]; rfl
theorem merge_nil : ∀ (more kvs : List (Key × V)), (∀ e ∈ more, ∀ g ∈ kvs, g.1 ≠ e.1) → (more.map (·.1)).Nodup → mergeK kvs more = kvs ++ more
  | [], kvs, _, _ => (List.append_nil _).symm
  | e :: r, kvs, h, nd => by
    have hp : putK kvs e.1 e.2 = kvs ++ [e] := by
      unfold putK
      have : kvs.any (fun p => decide (p.1 = e.1)) = false := by
        rw [List.any_eq_false]
        intro g hg
        rw [decide_eq_false (h e List.mem_cons_self g hg)]
        decide
      rw [this]; rfl
    show mergeK (putK kvs e.1 e.2) r = _
    obtain ⟨n1, n2⟩ := List.nodup_cons.mp nd
    rw [hp, merge_nil r (kvs ++ [e]) (fun g hg f hf => ?_) n2, List.append_assoc]; · rfl
    rcases List.mem_append.mp hf with k | k
    · exact h g (List.mem_cons_of_mem _ hg) f k
    · rw [List.mem_singleton.mp k]
      exact fun z => n1 (by show e.1 ∈ _; rw [z]; exact List.mem_map_of_mem hg)
theorem pr_snoc {α β : Type} {F : α → β → Prop} {a : α} {b : β} (h : F a b) : ∀ {xs : List α} {ys : List β}, Paired F xs ys → Paired F (xs ++ [a]) (ys ++ [b])
  | _, _, .nil => .cons h .nil
  | _, _, .cons r t => .cons r (pr_snoc h t)
abbrev dK (kvs : List (Str × V)) : List (Key × V) := kvs.map fun e => ((Sum.inr e.1 : Key), e.2)
theorem dK_keys (ts : List (Str × V)) (nd : (ts.map (·.1)).Nodup) : ((dK ts).map (·.1)).Nodup := by
  have e : (dK ts).map (·.1) = (ts.map (·.1)).map (Sum.inr : Str → Key) := by show (ts.map _).map _ = _; rw [List.map_map, List.map_map]; rfl
  rw [e]
  exact List.Pairwise.map _ (fun a b h z => h (Sum.inr.inj z)) nd
theorem dK_val : ∀ {ts : List (Str × V)} {e : Str × V}, (ts.map (·.1)).Nodup → e ∈ ts → valV (dK ts) (Sum.inr e.1) = some e.2
  | [], _, _, h => nomatch h
  | a :: ts, e, nd, h => by
    rw [List.map_cons, List.nodup_cons] at nd
    rcases List.mem_cons.mp h with rfl | h
    · exact valV_pos (p := ((Sum.inr e.1 : Key), e.2)) (r := dK ts) rfl
    · have hne : a.1 ≠ e.1 := fun z => nd.1 (by rw [z]; exact List.mem_map_of_mem h)
      have := dK_val nd.2 h
      show valV (((Sum.inr a.1 : Key), a.2) :: dK ts) (Sum.inr e.1) = _
      unfold valV at this ⊢
      rw [List.find?_cons, show decide ((Sum.inr a.1 : Key) = Sum.inr e.1) = false from decide_eq_false fun z => hne (Sum.inr.inj z)]
      exact this
/-- the first ones of a row are copied -/
def Cps (H0 H : Hp) (f : Nat → Dt) (D : Addr) (ys : List V) : Prop := ∀ i v, ys[i]? = some v → HD H (f i) (fun b => H0 b = none ∧ b ≠ D) v
theorem Cps.more {H0 H1 H : Hp} {f : Nat → Dt} {D : Addr} {ys : List V} {v : V} (c : Cps H0 H f D ys) (s : Same H H1) (h : HD H1 (f ys.length) (fun b => H0 b = none ∧ b ≠ D) v) : Cps H0 H1 f D (ys ++ [v]) := fun i w hw => by
  by_cases z : i < ys.length
  · rw [List.getElem?_append_left z] at hw
    exact (c i w hw).same s
  · rw [List.getElem?_append_right (by omega)] at hw
    have h0 : i - ys.length = 0 := by
      have := (List.getElem?_eq_some_iff.mp hw).1
      simp at this; omega
    rw [h0] at hw
    cases hw
    rw [show i = ys.length from by omega]; exact h
theorem Cps.putD {H0 H : Hp} {f : Nat → Dt} {D : Addr} {ys : List V} {o : HO} (c : Cps H0 H f D ys) : Cps H0 (upd H D o) f D ys := fun i v hv => (c i v hv).keep fun b u hb e => by rw [upd_ne hb.2]; exact e
theorem ok_copP {f : Addr} (T : Txt P w K mg) (F : Stands K "copied_value" "copied_value" s_copied_value [] f) (e : f = He.ga K "copied_value") : ∀ n : Nat, Callable P w K mg base (n + 1) f ["thing"] [] (spCopD n)
  | 0 => by
    refine F.call0 sc_copied_value (fun vs H Q E h => ?_) (fun cdv A outer s H vs Q E hr h => ?_) (fun _ _ _ _ _ _ us hl => match us, hl with | [_], _ => rfl)
    · obtain ⟨x, t, P, rfl, _⟩ := h; rfl
    · obtain ⟨x, t, P, rfl, _, h, _⟩ := h; cases t <;> exact h.elim
  | n + 1 => by
    have c_copied_value := ok_copP T F e n
    rw [e] at c_copied_value
    refine F.call0 sc_copied_value (fun vs H Q E h => ?_) (fun cdv A outer s H vs Q E hr h => ?_) (fun _ _ _ _ _ _ us hl => match us, hl with | [_], _ => rfl)
    · obtain ⟨x, t, P, rfl, _⟩ := h; rfl
    refine ⟨_, (pss_cons (ps_if (pt_val (pe_callB call_isi (by rfl) T.b_isinstance (by decide +kernel) (pa_cons (pv 0) (pa_cons (pe_bltn (v := .ty "list") (u := .type "list") (by rfl) T.b_list (by decide +kernel) rfl) pa_nil)))) (pss_one (ps_ret (pe_lc (own := [("part", 1)]) (by rfl) sc_copied_value.nd (pi_list (pv 0)) (blkOk_by (own := [("part", 1)]) (N := nm_copied_value) (sc := defScope s_copied_value) (by decide +kernel)) (fun _ _ _ _ _ => (pg_name (i := 1) sc_copied_value.nd rfl (by first | exact Or.inl rfl | exact Or.inr rfl))) (fun _ _ _ _ _ => pts_nil) (fun _ _ _ _ _ => (pe_fn T.g_copied_value c_copied_value (hr.mono (by first | decide | exact Nat.le_refl _)) (by rfl) (pa_cons (pv 1) pa_nil)))))) pss_nil)
      (pss_cons (ps_if (pt_val (pe_callB call_isi (by rfl) T.b_isinstance (by decide +kernel) (pa_cons (pv 0) (pa_cons (pe_bltn (v := .ty "tuple") (u := .type "tuple") (by rfl) T.b_tuple (by decide +kernel) rfl) pa_nil)))) (pss_one (ps_ret (pe_callTy call_tuple_of (by rfl) T.b_tuple (by decide +kernel) (pa_cons (pe_lc (own := [("part", 1)]) (by rfl) sc_copied_value.nd (pi_tup (pv 0)) (blkOk_by (own := [("part", 1)]) (N := nm_copied_value) (sc := defScope s_copied_value) (by decide +kernel)) (fun _ _ _ _ _ => (pg_name (i := 1) sc_copied_value.nd rfl (by first | exact Or.inl rfl | exact Or.inr rfl))) (fun _ _ _ _ _ => pts_nil) (fun _ _ _ _ _ => (pe_fn T.g_copied_value c_copied_value (hr.mono (by first | decide | exact Nat.le_refl _)) (by rfl) (pa_cons (pv 1) pa_nil)))) pa_nil)))) pss_nil)
      (pss_cons (ps_if (pt_val (pe_callB call_isi (by rfl) T.b_isinstance (by decide +kernel) (pa_cons (pv 0) (pa_cons (pe_bltn (v := .ty "dict") (u := .type "dict") (by rfl) T.b_dict (by decide +kernel) rfl) pa_nil)))) (pss_one (ps_ret (pe_callTy (call_dictP rfl) (by rfl) T.b_dict (by decide +kernel) (pa_cons (pe_lock (pe_lc (own := [("name", 2)]) (by rfl) sc_copied_value.nd (pi_keys (pv 0)) (blkOk_by (own := [("name", 2)]) (N := nm_copied_value) (sc := defScope s_copied_value) (by decide +kernel)) (fun _ _ _ _ _ => (pg_name (i := 2) sc_copied_value.nd rfl (by first | exact Or.inl rfl | exact Or.inr rfl))) (fun _ _ _ _ _ => pts_nil) (fun _ _ _ _ _ => (pe_tup (pa_cons (pv 2) (pa_cons (pe_fn T.g_copied_value c_copied_value (hr.mono (by first | decide | exact Nat.le_refl _)) (by rfl) (pa_cons (pe_dget (hu_of hr) (pv 0) (pv 2) (fun _ _ => rfl)) pa_nil)) pa_nil)))))) pa_nil)))) pss_nil)
      (pss_one (ps_ret (pv 0)))))), ?_⟩
    walk_at "in"
    obtain ⟨x, t, P, rfl, hx, hd, hQ⟩ := h
    cases t with
    | non => cases hx; walk_at "go"; exact hQ _ _ (Same.refl H) rfl
    | bl b => cases hx; walk_at "go"; exact hQ _ _ (Same.refl H) rfl
    | int i => cases hx; walk_at "go"; exact hQ _ _ (Same.refl H) rfl
    | str z => cases hx; walk_at "go"; exact hQ _ _ (Same.refl H) rfl
    | lst m f =>
      obtain ⟨a, xs, P', rfl, p1, p2, p3, ha, hl, hn, hi⟩ := hx
      walk_at "go"
      intro D hD
      refine lc_it (walk_list (xs := xs)) (fun i H' => Same H H' ∧ ∃ ys : List V, ys.length = i ∧ H' D = some (.lst ys) ∧ Cps H H' f D ys) ⟨same_new hD _, [], rfl, upd_same, fun i v hv => by cases hv⟩ (fun i H' _ h => SqL.of (h.1 _ _ ha)) (fun i x H9 H2 hi2 hP hy => ?_) (fun H2 hP => ?_)
      · obtain ⟨rfl, hy⟩ := hy
        obtain ⟨s2, ys, yl, d2, cp⟩ := hP
        have hll : ys.length < sizeLine := by rw [yl, sizeLine_eq]; omega
        refine ⟨rfl, yes_if ?_⟩
        refine ⟨_, rfl, x, f i, P', rfl, (hi i x hy).same s2, hd i (by omega), fun H3 v s3 hv => ?_⟩
        have hv2 : HD H3 (f ys.length) (fun b => H b = none ∧ b ≠ D) v := by
          rw [yl]
          exact hv.wide fun b hb => ⟨s2.free hb, fun z => by rw [z, d2] at hb; cases hb⟩
        refine ⟨_, s3 _ _ d2, hll, fun c o hc => ?_, ys ++ [v], by rw [List.length_append, yl]; rfl, upd_same, (cp.more s3 hv2).putD⟩
        rw [upd_ne (ne_of_none hc hD)]; exact (s2.trans s3) _ _ hc
      · obtain ⟨s2, ys, yl, d2, cp⟩ := hP
        exact hQ _ _ s2 ⟨D, ys, _, rfl, hD, fun z => z.2 rfl, fun b hb => hb.1, d2, yl.trans hl, hn, cp⟩
    | tup m f =>
      obtain ⟨a, xs, P', rfl, p1, p2, p3, ha, hl, hn, hi⟩ := hx
      walk_at "go"
      intro D hD
      refine lc_it (walk_tup (xs := xs)) (fun i H' => Same H H' ∧ ∃ ys : List V, ys.length = i ∧ H' D = some (.lst ys) ∧ Cps H H' f D ys) ⟨same_new hD _, [], rfl, upd_same, fun i v hv => by cases hv⟩ (fun i H' _ h => SqT.of (h.1 _ _ ha)) (fun i x H9 H2 hi2 hP hy => ?_) (fun H2 hP => ?_)
      · obtain ⟨rfl, hy⟩ := hy
        obtain ⟨s2, ys, yl, d2, cp⟩ := hP
        have hll : ys.length < sizeLine := by rw [yl, sizeLine_eq]; omega
        refine ⟨rfl, yes_if ?_⟩
        refine ⟨_, rfl, x, f i, P', rfl, (hi i x hy).same s2, hd i (by omega), fun H3 v s3 hv => ?_⟩
        have hv2 : HD H3 (f ys.length) (fun b => H b = none ∧ b ≠ D) v := by
          rw [yl]
          exact hv.wide fun b hb => ⟨s2.free hb, fun z => by rw [z, d2] at hb; cases hb⟩
        refine ⟨_, s3 _ _ d2, hll, fun c o hc => ?_, ys ++ [v], by rw [List.length_append, yl]; rfl, upd_same, (cp.more s3 hv2).putD⟩
        rw [upd_ne (ne_of_none hc hD)]; exact (s2.trans s3) _ _ hc
      · obtain ⟨s2, ys, yl, d2, cp⟩ := hP
        refine ⟨D, ys, rfl, .inl ⟨SqL.of d2, fun q fq => ?_⟩⟩
        have s3 := s2.trans (same_new fq (.tup ys))
        refine hQ _ _ s3 ⟨q, ys, fun b => (H b = none ∧ b ≠ D) ∧ H2 b ≠ none, rfl, s2.free fq, fun z => z.2 fq, fun b hb => hb.1.1, upd_same, yl.trans hl, hn, fun i v hv => ?_⟩
        exact ((cp i v hv).live).same (same_new fq (.tup ys))
    | dct ks f =>
      obtain ⟨a, kvs, P', rfl, p1, p2, p3, ha, hl, nd, hn, hi⟩ := hx
      have hkl : kvs.length = ks.length := by rw [← hl, List.length_map]
      have nd2 : (kvs.map (·.1)).Nodup := by rw [hl]; exact nd
      refine ⟨_, rfl, _, _, _, _, _, rfl, .ty _, .base (.dK ha), kit_ty (b := "list") (by decide +kernel), _, rfl, iteF ?_⟩
      refine ⟨_, rfl, _, _, _, _, _, rfl, .ty _, .base (.dK ha), kit_ty (b := "tuple") (by decide +kernel), _, rfl, iteF ?_⟩
      refine ⟨_, rfl, _, _, _, _, _, rfl, .ty _, .base (.dK ha), kit_ty (b := "dict") (by decide +kernel), _, rfl, iteT ?_⟩
      refine ⟨a, _, ha, trivial, fun od => ?_⟩
      have k0 := upd_same (H := H) (a := a) (o := .frz od (.dK (dK kvs)))
      have back : ∀ H', Same (upd H a (.frz od (.dK (dK kvs)))) H' → Same H (upd H' a (.dK (dK kvs))) := fun H' s2 b o e => by
        by_cases c : b = a
        · rw [c, upd_same]; rw [c, ha] at e; exact e
        · rw [upd_ne c]; exact s2 _ _ (by rw [upd_ne c]; exact e)
      have hi0 : ∀ i v, kvs[i]? = some v → HD (upd H a (.frz od (.dK (dK kvs)))) (f i) P' v.2 := fun i v hv => (hi i v hv).keep fun b o hb e => by
        rw [upd_ne (fun z => p2 (by rw [← z]; exact hb))]; exact e
      have fr : ∀ b, upd H a (.frz od (.dK (dK kvs))) b = none → H b = none := fun b hb => (upd_none hb).2
      refine ⟨_, rfl, a, od, rfl, ?_⟩
      generalize upd H a (.frz od (.dK (dK kvs))) = H0 at k0 back hi0 fr ⊢
      refine .inl ⟨_, k0, fun D hD => ?_⟩
      have nDa : D ≠ a := fun z => by rw [z, k0] at hD; cases hD
      refine lc_it walk_keys (fun i H' => Same H0 H' ∧ ∃ (tps : List Addr) (ys : List V), H' D = some (.lst (tps.map V.ref)) ∧ tps.length = i ∧ ys.length = i ∧ Cps H0 H' f D ys ∧ Paired (fun (p : Addr) (kv : Str × V) => H' p = some (.tup [.str kv.1, kv.2]) ∧ H0 p = none) tps ((ks.take i).zip ys)) ⟨same_new hD _, [], [], upd_same, rfl, rfl, (fun i v hv => by cases hv), by rw [List.zip_nil_right]; exact .nil⟩ (fun i H' _ h => h.1 _ _ k0) (fun i x H9 H2 hi2 hP hx => ?_) (fun H2 hP => ?_)
      · obtain ⟨rfl, kx, vx, hx, rfl⟩ := hx
        obtain ⟨s2, tps, ys, d2, tl, yl, cp, hpr⟩ := hP
        have hx : (kvs.map fun e => ((Sum.inr e.1 : Key), e.2))[i]? = some (kx, vx) := hx
        rw [List.getElem?_map] at hx
        obtain ⟨e0, he0, hee⟩ := Option.map_eq_some_iff.mp hx
        cases hee
        have hlt : i < kvs.length := (List.getElem?_eq_some_iff.mp he0).1
        have hv := dK_val nd2 (List.mem_of_getElem? he0)
        have hk : ks[i]? = some e0.1 := by rw [← hl, List.getElem?_map, he0]; rfl
        have hll : (tps.map V.ref).length < sizeLine := by rw [List.length_map, tl, sizeLine_eq]; omega
        refine ⟨rfl, yes_if ?_⟩
        refine ⟨_, rfl, _, rfl, _, rfl, a, _, rfl, RW.dget_sF (s2 _ _ k0) hv, e0.2, f i, P', rfl, (hi0 i e0 he0).same s2, hd i (by omega), fun H3 v s3 hv3 => ?_⟩
        have hv2 : HD H3 (f ys.length) (fun b => H0 b = none ∧ b ≠ D) v := by
          rw [yl]
          exact hv3.wide fun b hb => ⟨s2.free hb, fun z => by rw [z, d2] at hb; cases hb⟩
        refine ⟨by show 2 ≤ sizeLine; decide, fun q fq => ?_⟩
        have d3 := same_new fq (.tup [.str e0.1, v]) _ _ (s3 _ _ d2)
        refine ⟨_, d3, hll, ?_, tps ++ [q], ys ++ [v], ?_, by rw [List.length_append, tl]; rfl, by rw [List.length_append, yl]; rfl, ?_, ?_⟩
        · intro b o hb
          rw [upd_ne (ne_of_none hb hD)]; exact same_new fq _ _ _ ((s2.trans s3) _ _ hb)
        · rw [upd_same, List.map_append]; rfl
        · have c1 := cp.more s3 hv2
          have c2 : Cps H0 (upd H3 q (.tup [.str e0.1, v])) f D (ys ++ [v]) := fun i w hw => (c1 i w hw).same (same_new fq _)
          exact c2.putD
        · have nqD : q ≠ D := fun z => by rw [z, s3 _ _ d2] at fq; cases fq
          rw [take_more2 hk, List.zip_append (by rw [List.length_take, yl]; omega)]
          have o1 : upd (upd H3 q (.tup [.str e0.1, v])) D (.lst (tps.map V.ref ++ [.ref q])) q = some (.tup [.str e0.1, v]) := by rw [upd_ne nqD]; exact upd_same
          refine pr_snoc ⟨o1, (s2.trans s3).free fq⟩ (Paired.mapP hpr fun p kv h => ?_)
          have h3 := s3 _ _ h.1
          refine ⟨?_, h.2⟩
          rw [upd_ne (fun z => by rw [z, s3 _ _ d2] at h3; cases h3)]; exact same_new fq _ _ _ h3
      · obtain ⟨s2, tps, ys, d2, tl, yl, cp, hpr⟩ := hP
        refine ⟨s2 _ _ k0, ?_⟩
        have b2 := back _ s2
        have tl : tps.length = kvs.length := tl.trans (List.length_map _)
        have yl : ys.length = kvs.length := yl.trans (List.length_map _)
        have hpr : Paired (fun (p : Addr) (kv : Str × V) => H2 p = some (.tup [.str kv.1, kv.2]) ∧ H0 p = none) tps (ks.zip ys) := by
          have h0 : (ks.take (dK kvs).length) = ks := List.take_of_length_le (by rw [List.length_map]; omega)
          rw [h0] at hpr
          exact hpr
        have hzl : (ks.zip ys).map (·.1) = ks := List.map_fst_zip (by omega)
        have d3 : upd H2 a (.dK (dK kvs)) D = some (.lst (tps.map V.ref)) := by rw [upd_ne nDa]; exact d2
        have pr2 : Paired (fun (p : Addr) (kv : Key × V) => SqT K (upd H2 a (.dK (dK kvs))) p [kV kv.1, kv.2]) tps (dK (ks.zip ys)) := by
          have : ∀ {ps : List Addr} {zs : List (Str × V)}, Paired (fun (p : Addr) (kv : Str × V) => H2 p = some (.tup [.str kv.1, kv.2]) ∧ H0 p = none) ps zs → Paired (fun (p : Addr) (kv : Key × V) => SqT K (upd H2 a (.dK (dK kvs))) p [kV kv.1, kv.2]) ps (dK zs) := fun {ps zs} h => by
            induction h with
            | nil => exact .nil
            | cons h t ih => exact .cons (SqT.of (by rw [upd_ne (fun z => by have := h.2; rw [z, k0] at this; cases this)]; exact h.1)) ih
          exact this hpr
        refine ⟨D, tps, dK (ks.zip ys), rfl, SqL.of d3, pr2, fun p fp => ?_⟩
        rw [merge_nil _ [] (fun _ _ _ h => by cases h) (dK_keys _ (by rw [hzl]; exact nd)), List.nil_append]
        have s3 := b2.trans (same_new fp (.dK (dK (ks.zip ys))))
        refine hQ _ _ s3 ⟨p, ks.zip ys, fun b => (H0 b = none ∧ b ≠ D) ∧ H2 b ≠ none, rfl, b2.free fp, fun z => z.2 (upd_none fp).2, fun b hb => fr b hb.1.1, upd_same, hzl, nd, hn, fun i w hw => ?_⟩
        obtain ⟨k1, w1⟩ := w
        have hw2 := List.of_mem_zip (List.mem_of_getElem? hw)
        have hys : ys[i]? = some w1 := by
          rw [List.getElem?_zip_eq_some] at hw
          exact hw.2
        refine ((cp i w1 hys).live).keep fun b o hb e => ?_
        rw [upd_ne (ne_of_none (show upd H2 a (.dK (dK kvs)) b = some o by rw [upd_ne (fun z => by have := hb.1.1; rw [z, k0] at this; cases this)]; exact e) fp), upd_ne (fun z => by have := hb.1.1; rw [z, k0] at this; cases this)]
        exact e
end
end K17

set_option Elab.async false
set_option linter.all false
set_option maxRecDepth 100000
set_option maxHeartbeats 0
namespace K17
open PySem PySem.Spec PyProof.Rows L2 RC
section
variable {P : Program} {w : World} {K : PySem.W.Frag} {mg : Str → Option Value} {base : Heap}
/-! ### what the law draws -/
theorem stm_new {H : Hp} {s l D : Addr} {n : Nat} (h : Stm H s l n) (hD : H D = none) : D ≠ s ∧ D ≠ l :=
  ⟨fun z => (by obtain ⟨_, _, _, _, _, z1, _⟩ := h; rw [z, z1] at hD; cases hD), fun z => (by obtain ⟨_, _, _, _, _, _, z1, _⟩ := h; rw [z, z1] at hD; cases hD)⟩
theorem old_new {s l D : Addr} {H H' : Hp} {o : HO} (h : Old s l H H') (hD : H D = none) : Old s l H (upd H' D o) := fun b u h1 h2 e => by rw [upd_ne (ne_of_none e hD)]; exact h b u h1 h2 e
theorem _root_.RC.Stm.put {H : Hp} {s l D : Addr} {n : Nat} {o : HO} (h : Stm H s l n) (h1 : D ≠ s) (h2 : D ≠ l) : Stm (upd H D o) s l n := by
  obtain ⟨ne, ns, x, c, d, g1, g2, g3⟩ := h
  exact ⟨ne, ns, x, c, d, by rw [upd_ne (Ne.symm h1)]; exact g1, by rw [upd_ne (Ne.symm h2)]; exact g2, g3⟩
def spPick (K : PySem.W.Frag) : Sp := fun vs H Q _ => ∃ (s l p : Addr) (n : Nat) (xs : List V), vs = [.ref s, .ref p] ∧ Stm H s l n ∧ n ≤ 1000000 ∧ p ≠ s ∧ p ≠ l ∧ H p = some (.lst xs) ∧ 1 ≤ xs.length ∧ xs.length ≤ 1000 ∧ ∀ (H' : Hp) (x : V), Old s l H H' → Stm H' s l (n + 1) → x ∈ xs → Q x H'
theorem ok_pick {f : Addr} (T : Txt P w K mg) (F : Stands K "_law_pick" "_law_pick" s__law_pick [] f) (c__law_draw : Callable P w K mg base 1 (He.ga K "_law_draw") ["_law_stream", "_law_many"] [] spDraw) : Callable P w K mg base 2 f ["_law_stream", "_law_some"] [] (spPick K) := by
  refine F.call0 sc__law_pick (fun vs H Q E h => ?_) (fun cdv A outer s H vs Q E hr h => ?_) (fun _ _ _ _ _ _ us hl => match us, hl with | [_, _], _ => rfl)
  · obtain ⟨s, l, p, n, xs, rfl, _⟩ := h; rfl
  obtain ⟨s, l, p, n, xs, rfl, hs, hn, nps, npl, hp, hx1, hx2, hQ⟩ := h
  refine ⟨_, (pss_one (ps_ret (RA.PE.or (pe_ix ix_list (pv 1) (pe_fn T.g__law_draw c__law_draw (hr.mono (by first | decide | exact Nat.le_refl _)) (by rfl) (pa_cons (pv 0) (pa_cons (pe_callB call_len (by rfl) T.b_len (by decide +kernel) (pa_cons (pv 1) pa_nil)) pa_nil))) (fun _ _ => rfl)) (pe_ix ix_str (pv 1) (pe_fn T.g__law_draw c__law_draw (hr.mono (by first | decide | exact Nat.le_refl _)) (by rfl) (pa_cons (pv 0) (pa_cons (pe_callB call_len (by rfl) T.b_len (by decide +kernel) (pa_cons (pv 1) pa_nil)) pa_nil))) (fun _ _ => rfl))))), ?_⟩
  refine .inl ⟨_, rfl, _, rfl, _, rfl, _, xs.length, rfl, .inl ⟨xs, SqL.of hp, rfl⟩, s, l, n, xs.length, rfl, hs, hn, by omega, by omega, fun H' d h1 h2 h3 h4 => ?_⟩
  obtain ⟨j, rfl⟩ := Int.eq_ofNat_of_zero_le h3
  have hj : j < xs.length := by omega
  refine ⟨p, xs, j, xs[j], rfl, rfl, SqL.of (h1 _ _ nps npl hp), atI_nat (by simp [hj]), ?_⟩
  exact hQ H' _ h1 h2 (List.getElem_mem hj)
end
end K17

set_option Elab.async false
set_option linter.all false
set_option maxRecDepth 100000
set_option maxHeartbeats 0

namespace K17
open PySem PySem.Spec PyProof.Rows L2 RC
section
variable {P : Program} {w : World} {K : PySem.W.Frag} {mg : Str → Option Value} {base : Heap}
/-! ### any object -/
/-- characters that repr writes in at most ten -/
abbrev OkC (s : Str) : Prop := ∀ c ∈ s.cps.toList, c < 16 ^ 8
def Men : Dt → Prop
  | .int i => i.natAbs < 2 ^ 63
  | .str s => (s.length ≤ 5 ∧ OkC s) ∧ (reprText s).length ≤ 52
  | .lst n f => n ≤ 3 ∧ ∀ i, i < n → Men (f i)
  | .tup n f => n ≤ 3 ∧ ∀ i, i < n → Men (f i)
  | .dct ks f => (ks.length ≤ 3 ∧ ∀ k ∈ ks, (k.length ≤ 8 ∧ OkC k) ∧ (reprText k).length ≤ 12) ∧ ∀ i, i < ks.length → Men (f i)
  | _ => True
def bnd : Nat → Nat
  | 0 => 1
  | d + 1 => 2 + 3 * bnd d
theorem bnd_pos (d : Nat) : 1 ≤ bnd d := by cases d <;> simp [bnd] <;> omega
/-- what the draws make: fresh data, not deeper than d -/
def ObjV (H H' : Hp) (d : Nat) (v : V) : Prop := ∃ t, HD H' t (fun b => H b = none) v ∧ Dep (d + 1) t ∧ Men t
def spObj : Nat → Sp := fun d vs H Q _ => ∃ (s l : Addr) (k : Nat), vs = [.ref s, .int (d : Int)] ∧ Stm H s l k ∧ k + bnd d ≤ 900000 ∧ ∀ H' v k', k' ≤ k + bnd d → Old s l H H' → Stm H' s l k' → ObjV H H' d v → Q v H'
theorem HD.old {s l : Addr} {k : Nat} {H0 H H' : Hp} {t : Dt} {P : Addr → Prop} {x : V} (h : HD H t P x) (st : Stm H0 s l k) (hP : ∀ b, P b → H0 b = none) (o : Old s l H H') : HD H' t P x := h.keep fun b u hb e => by
  refine o b u (fun z => ?_) (fun z => ?_) e
  · obtain ⟨_, _, _, _, _, g1, _⟩ := st
    have := hP b hb
    rw [z, g1] at this; cases this
  · obtain ⟨_, _, _, _, _, _, g2, _⟩ := st
    have := hP b hb
    rw [z, g2] at this; cases this
/-- a row of new things -/
def Row (H0 H : Hp) (d : Nat) (D : Addr) (ts : List Dt) (ys : List V) : Prop := ts.length = ys.length ∧ ∀ j v, ys[j]? = some v → HD H (ts.getD j .non) (fun b => H0 b = none ∧ b ≠ D) v ∧ Dep (d + 1) (ts.getD j .non) ∧ Men (ts.getD j .non)
def flatL : List V := [.non, .bl true, .bl false, .int 0, .int 7, .int (-3), .int (10 ^ 18), .str "", .str "a b", .str "{}", .str "it's", .str "{a}", .str "\n"]
theorem flat_obj {H H' : Hp} {d : Nat} {x : V} (hx : x ∈ flatL) : ObjV H H' d x := by
  unfold flatL at hx
  simp only [List.mem_cons, List.not_mem_nil, or_false] at hx
  rcases hx with rfl | rfl | rfl | rfl | rfl | rfl | rfl | rfl | rfl | rfl | rfl | rfl | rfl
  · exact ⟨.non, rfl, trivial, trivial⟩
  · exact ⟨.bl true, rfl, trivial, trivial⟩
  · exact ⟨.bl false, rfl, trivial, trivial⟩
  · exact ⟨.int 0, rfl, trivial, by show _ < _; decide⟩
  · exact ⟨.int 7, rfl, trivial, by show _ < _; decide⟩
  · exact ⟨.int (-3), rfl, trivial, by show _ < _; decide⟩
  · exact ⟨.int (10 ^ 18), rfl, trivial, by show _ < _; decide⟩
  · exact ⟨.str "", rfl, trivial, by decide +kernel, by decide +kernel⟩
  · exact ⟨.str "a b", rfl, trivial, by decide +kernel, by decide +kernel⟩
  · exact ⟨.str "{}", rfl, trivial, by decide +kernel, by decide +kernel⟩
  · exact ⟨.str "it's", rfl, trivial, by decide +kernel, by decide +kernel⟩
  · exact ⟨.str "{a}", rfl, trivial, by decide +kernel, by decide +kernel⟩
  · exact ⟨.str "\n", rfl, trivial, by decide +kernel, by decide +kernel⟩
theorem ok_none {x qual : Str} {st : Stmt} {f : Addr} {N ps : List Str} (F : Stands K x qual st [] f) (S : FnScope N ps (defScope st)) (k : Nat)
    (bind : ∀ (kV doc pm : Value) (an : Option Addr) (cdv ct : Value) (us : List Value), us.length = ps.length → bindArgs (PySem.W.fnOf x qual (defArgs st) (defBody st) (defScope st) .none kV doc pm an cdv ct) ⟨us, []⟩ = pure (ps.zip us)) : Callable P w K mg base (k + 1) f ps [] (fun _ _ _ _ => False) :=
  F.call0 S (fun vs H Q E h => h.elim) (fun cdv A outer s H vs Q E hr h => h.elim) bind
theorem fr_old {s l : Addr} {k k2 : Nat} {H H' : Hp} (st : Stm H s l k) (st2 : Stm H' s l k2) (o : Old s l H H') : ∀ b, H' b = none → H b = none := fun b hb => by
  cases h : H b with
  | none => rfl
  | some u =>
    by_cases z : b = s
    · obtain ⟨_, _, _, _, _, g1, _⟩ := st2
      rw [z, g1] at hb; cases hb
    · by_cases z2 : b = l
      · obtain ⟨_, _, _, _, _, _, g2, _⟩ := st2
        rw [z2, g2] at hb; cases hb
      · rw [o b u z z2 h] at hb; cases hb
theorem old_put {s l D : Addr} {H H' : Hp} {o : HO} (h : Old s l H H') (hD : H D = none) : Old s l H (upd H' D o) := fun b u h1 h2 e => by rw [upd_ne (ne_of_none e hD)]; exact h b u h1 h2 e
theorem getD_left {ts : List Dt} {t : Dt} {j : Nat} (h : j < ts.length) : (ts ++ [t]).getD j .non = ts.getD j .non := by
  rw [List.getD_eq_getElem?_getD, List.getD_eq_getElem?_getD, List.getElem?_append_left h]
theorem getD_right {ts : List Dt} {t : Dt} {j : Nat} (h : j = ts.length) : (ts ++ [t]).getD j .non = t := by
  rw [List.getD_eq_getElem?_getD, List.getElem?_append_right (by omega), show j - ts.length = 0 from by omega]; rfl
theorem ok_obj {f : Addr} (T : Txt P w K mg) (F : Stands K "_law_object" "_law_object" s__law_object [] f) (e : f = He.ga K "_law_object")
    (c__law_draw : Callable P w K mg base 1 (He.ga K "_law_draw") ["_law_stream", "_law_many"] [] spDraw) (c__law_pick : Callable P w K mg base 2 (He.ga K "_law_pick") ["_law_stream", "_law_some"] [] (spPick K)) : ∀ d : Nat, Callable P w K mg base (d + 3) f ["_law_stream", "_law_deep"] [] (spObj d) := by
  intro d
  induction d with
  | zero =>
    have c__law_object : Callable P w K mg base 1 f ["_law_stream", "_law_deep"] [] (fun _ _ _ _ => False) := ok_none F sc__law_object 0 (fun _ _ _ _ _ _ us hl => match us, hl with | [_, _], _ => rfl)
    rw [e] at c__law_object
    refine F.call0 sc__law_object (fun vs H Q E h => ?_) (fun cdv A outer s0 H vs Q E hr h => ?_) (fun _ _ _ _ _ _ us hl => match us, hl with | [_, _], _ => rfl)
    · obtain ⟨s, l, k, rfl, _⟩ := h; rfl
    generalize e2 : spPick K = SP at c__law_pick
    obtain ⟨s, l, k, rfl, st, hk, hQ⟩ := h
    have hb0 : bnd 0 = 1 := rfl
    refine ⟨_, (pss_cons (ps_set (i := 2) sc__law_object.nd rfl (by first | exact Or.inl rfl | exact Or.inr rfl) (pe_ifExp (pt_cmpR op_gt (pv 1) pe_int (nomark _)) (pe_fn T.g__law_draw c__law_draw (hr.mono (by first | decide | exact Nat.le_refl _)) (by rfl) (pa_cons (pv 0) (pa_cons pe_int pa_nil))) pe_int))
      (pss_cons (ps_if (pt_cmpR op_lt (pv 2) pe_int (nomark _)) (pss_cons (ps_set (i := 3) sc__law_object.nd rfl (by first | exact Or.inl rfl | exact Or.inr rfl) (pe_lst (pa_cons pe_non (pa_cons pe_bl (pa_cons pe_bl (pa_cons pe_int (pa_cons pe_int (pa_cons (pe_un un_neg pe_int) (pa_cons (pe_op op_pow pe_int pe_int) (pa_cons pe_str (pa_cons pe_str (pa_cons pe_str (pa_cons pe_str (pa_cons pe_str (pa_cons pe_str pa_nil)))))))))))))))
      (pss_one (ps_ret (pe_fn T.g__law_pick c__law_pick (hr.mono (by first | decide | exact Nat.le_refl _)) (by rfl) (pa_cons (pv 0) (pa_cons (pv 3) pa_nil)))))) pss_nil)
      (pss_cons (ps_setLc (i := 4) (own := [("_law_k", 5)]) (by rfl) sc__law_object.nd rfl rfl (sw_true rfl rfl rfl (by decide +kernel)) (pi_range1 (by rfl) T.b_range (pa_cons (pe_fn T.g__law_draw c__law_draw (hr.mono (by first | decide | exact Nat.le_refl _)) (by rfl) (pa_cons (pv 0) (pa_cons pe_int pa_nil))) pa_nil)) (blkOk_by (own := [("_law_k", 5)]) (N := nm__law_object) (sc := defScope s__law_object) (by decide +kernel)) (fun _ _ _ _ _ => (pg_name (i := 5) sc__law_object.nd rfl (by first | exact Or.inl rfl | exact Or.inr rfl))) (fun _ _ _ _ _ => pts_nil) (fun _ _ _ _ _ => (pe_fn T.g__law_object c__law_object (hr.mono (by first | decide | exact Nat.le_refl _)) (by rfl) (pa_cons (pv 0) (pa_cons (pe_op op_sub (pv 1) pe_int) pa_nil)))))
      (pss_cons (ps_if (pt_cmpR op_eq (pv 2) pe_int (nomark _)) (pss_one (ps_ret (pv 4))) pss_nil)
      (pss_one (ps_ret (pe_ifExp (pt_cmpR op_eq (pv 2) pe_int (nomark _)) (pe_callTy call_tuple_of (by rfl) T.b_tuple (by decide +kernel) (pa_cons (pv 4) pa_nil)) (RZd.pe_dictZip rfl (by rfl) T.b_dict (by rfl) T.b_zip (pa_cons (pe_lst (pa_cons pe_str (pa_cons pe_str (pa_cons pe_str pa_nil)))) (pa_cons (pv 4) pa_nil)))))))))), ?_⟩
    walk_at "in"
    have hd : decide ((0 : Int) < ((0 : Nat) : Int)) = false := by decide
    walk_at "go"
    intro p fp
    obtain ⟨m1, m2⟩ := stm_new st fp
    walk_at "go"
    refine (?_ : SP [.ref s, .ref p] _ _ E0)
    rw [← e2]
    refine ⟨s, l, p, k, flatL, rfl, st.same (same_new fp _), by omega, m1, m2, upd_same, by show 1 ≤ 13; decide, by show 13 ≤ 1000; decide, fun H2 x o2 st2 hx => ?_⟩
    exact hQ H2 x (k + 1) (by omega) ((Old.of_same (same_new fp _)).trans o2) st2 (flat_obj hx)
  | succ d ih =>
    have c__law_object := ih
    rw [e] at c__law_object
    have c__law_draw := c__law_draw.up (k := d + 3) (by omega)
    have c__law_pick := c__law_pick.up (k := d + 3) (by omega)
    refine F.call0 sc__law_object (fun vs H Q E h => ?_) (fun cdv A outer s0 H vs Q E hr h => ?_) (fun _ _ _ _ _ _ us hl => match us, hl with | [_, _], _ => rfl)
    · obtain ⟨s, l, k, rfl, _⟩ := h; rfl
    generalize e1 : spObj d = SO at c__law_object
    generalize e2 : spPick K = SP at c__law_pick
    obtain ⟨s, l, k, rfl, st, hk, hQ⟩ := h
    have hb := bnd_pos d
    have hbd : bnd (d + 1) = 2 + 3 * bnd d := rfl
    refine ⟨_, (pss_cons (ps_set (i := 2) sc__law_object.nd rfl (by first | exact Or.inl rfl | exact Or.inr rfl) (pe_ifExp (pt_cmpR op_gt (pv 1) pe_int (nomark _)) (pe_fn T.g__law_draw c__law_draw (hr.mono (by first | decide | exact Nat.le_refl _)) (by rfl) (pa_cons (pv 0) (pa_cons pe_int pa_nil))) pe_int))
      (pss_cons (ps_if (pt_cmpR op_lt (pv 2) pe_int (nomark _)) (pss_cons (ps_set (i := 3) sc__law_object.nd rfl (by first | exact Or.inl rfl | exact Or.inr rfl) (pe_lst (pa_cons pe_non (pa_cons pe_bl (pa_cons pe_bl (pa_cons pe_int (pa_cons pe_int (pa_cons (pe_un un_neg pe_int) (pa_cons (pe_op op_pow pe_int pe_int) (pa_cons pe_str (pa_cons pe_str (pa_cons pe_str (pa_cons pe_str (pa_cons pe_str (pa_cons pe_str pa_nil)))))))))))))))
      (pss_one (ps_ret (pe_fn T.g__law_pick c__law_pick (hr.mono (by first | decide | exact Nat.le_refl _)) (by rfl) (pa_cons (pv 0) (pa_cons (pv 3) pa_nil)))))) pss_nil)
      (pss_cons (ps_setLc (i := 4) (own := [("_law_k", 5)]) (by rfl) sc__law_object.nd rfl rfl (sw_true rfl rfl rfl (by decide +kernel)) (pi_range1 (by rfl) T.b_range (pa_cons (pe_fn T.g__law_draw c__law_draw (hr.mono (by first | decide | exact Nat.le_refl _)) (by rfl) (pa_cons (pv 0) (pa_cons pe_int pa_nil))) pa_nil)) (blkOk_by (own := [("_law_k", 5)]) (N := nm__law_object) (sc := defScope s__law_object) (by decide +kernel)) (fun _ _ _ _ _ => (pg_name (i := 5) sc__law_object.nd rfl (by first | exact Or.inl rfl | exact Or.inr rfl))) (fun _ _ _ _ _ => pts_nil) (fun _ _ _ _ _ => (pe_fn T.g__law_object c__law_object (hr.mono (by first | decide | exact Nat.le_refl _)) (by rfl) (pa_cons (pv 0) (pa_cons (pe_op op_sub (pv 1) pe_int) pa_nil)))))
      (pss_cons (ps_if (pt_cmpR op_eq (pv 2) pe_int (nomark _)) (pss_one (ps_ret (pv 4))) pss_nil)
      (pss_one (ps_ret (pe_ifExp (pt_cmpR op_eq (pv 2) pe_int (nomark _)) (pe_callTy call_tuple_of (by rfl) T.b_tuple (by decide +kernel) (pa_cons (pv 4) pa_nil)) (RZd.pe_dictZip rfl (by rfl) T.b_dict (by rfl) T.b_zip (pa_cons (pe_lst (pa_cons pe_str (pa_cons pe_str (pa_cons pe_str pa_nil)))) (pa_cons (pv 4) pa_nil)))))))))), ?_⟩
    walk_at "in"
    refine seq_of (fun σ' H' => ∃ wy : Int, 0 ≤ wy ∧ wy < 6 ∧ Old s l H H' ∧ Stm H' s l (k + 1) ∧ σ' = [some (.ref s), some (.int ((d + 1 : Nat) : Int)), some (.int wy), none, none, none]) (fun b' kb => ?_) (fun σ' H1 hm => ?_)
    · have hd : decide ((0 : Int) < ((d + 1 : Nat) : Int)) = true := decide_eq_true (by omega)
      walk_at "go"
      intro H1 wy o1 st1 h1 h2
      exact kb _ _ ⟨wy, h1, h2, o1, st1, rfl⟩
    obtain ⟨wy, w1, w2, o1, st1, rfl⟩ := hm
    refine seq_of (fun σ' H' => ¬ wy < 3 ∧ H' = H1 ∧ σ' = [some (.ref s), some (.int ((d + 1 : Nat) : Int)), some (.int wy), none, none, none]) (fun b' kb => ?_) (fun σ' H1' hm => ?_)
    · by_cases w3 : wy < 3
      · have hd : decide (wy < 3) = true := decide_eq_true w3
        walk_at "go"
        intro p fp
        obtain ⟨m1, m2⟩ := stm_new st1 fp
        walk_at "go"
        refine (?_ : SP [.ref s, .ref p] _ _ E0)
        rw [← e2]
        refine ⟨s, l, p, k + 1, flatL, rfl, st1.same (same_new fp _), by omega, m1, m2, upd_same, by show 1 ≤ 13; decide, by show 13 ≤ 1000; decide, fun H2 x o2 st2 hx => ?_⟩
        exact hQ H2 x (k + 2) (by omega) ((o1.trans (Old.of_same (same_new fp _))).trans o2) st2 (flat_obj hx)
      · have hd : decide (wy < 3) = false := decide_eq_false w3
        walk_at "go"
        exact kb _ _ ⟨w3, rfl, rfl⟩
    obtain ⟨w3, rfl, rfl⟩ := hm
    refine seq_of (fun σ' H' => ∃ D ts ys k2, k2 ≤ k + bnd (d + 1) ∧ ys.length ≤ 3 ∧ H D = none ∧ Old s l H H' ∧ Stm H' s l k2 ∧ H' D = some (.lst ys) ∧ Row H H' d D ts ys ∧ σ' = [some (.ref s), some (.int ((d + 1 : Nat) : Int)), some (.int wy), none, some (.ref D), none]) (fun b' kb => ?_) (fun σ' H2 hm => ?_)
    · walk_at "go"
      intro H2 m o2 st2 h1 h2
      have o2 := o1.trans o2
      have fr2 := fr_old st st2 o2
      walk_at "go"
      intro D hD
      obtain ⟨nDs, nDl⟩ := stm_new st2 hD
      have hD0 := fr2 D hD
      refine lc_it walk_range (fun i H' => ∃ ts ys k2, k2 ≤ k + 2 + i * bnd d ∧ ys.length = i ∧ Old s l H H' ∧ Stm H' s l k2 ∧ H' D = some (.lst ys) ∧ Row H H' d D ts ys) ⟨[], [], k + 1 + 1, by omega, rfl, o2.trans (Old.of_same (same_new hD _)), st2.same (same_new hD _), upd_same, rfl, fun j v h => (by cases h)⟩ (fun _ _ _ _ => trivial) (fun i x H9 H3 hi hP hx => ?_) (fun H3 hP => ?_)
      · obtain ⟨rfl, rfl⟩ := hx
        obtain ⟨ts, ys, k2, hk2, yl, o3, st3, d3, row⟩ := hP
        have hi3 : i < 3 := by omega
        have hmul : i * bnd d ≤ 2 * bnd d := Nat.mul_le_mul_right _ (by omega)
        have hll : ys.length < sizeLine := by rw [yl, sizeLine_eq]; omega
        refine ⟨rfl, yes_if ?_⟩
        walk_at "go"
        refine (?_ : SO [.ref s, .int (((d + 1 : Nat) : Int) - 1)] _ _ E0)
        rw [show (((d + 1 : Nat) : Int) - 1) = (d : Int) from by omega, ← e1]
        refine ⟨s, l, k2, rfl, st3, by omega, fun H4 v k3 hk3 o4 st4 ov => ?_⟩
        obtain ⟨t, ht, hdp, hmn⟩ := ov
        have d4 := o4 _ _ nDs nDl d3
        have fr3 := fr_old st st3 o3
        have hv2 : HD H4 t (fun b => H b = none ∧ b ≠ D) v := ht.wide fun b hb => ⟨fr3 b hb, fun z => by rw [z, d3] at hb; cases hb⟩
        refine ⟨_, d4, hll, ts ++ [t], ys ++ [v], k3, ?_, by rw [List.length_append, yl]; rfl, old_put (o3.trans o4) hD0, st4.put nDs nDl, upd_same, by rw [List.length_append, List.length_append, row.1]; rfl, fun j w hw => ?_⟩
        · have : (i + 1) * bnd d = i * bnd d + bnd d := Nat.succ_mul i (bnd d)
          omega
        · by_cases z : j < ys.length
          · rw [List.getElem?_append_left z] at hw
            obtain ⟨r1, r2, r3⟩ := row.2 j w hw
            rw [getD_left (by rw [row.1]; exact z)]
            exact ⟨(r1.old st (fun b hb => hb.1) o4).keep fun b u hb e => (by rw [upd_ne hb.2]; exact e), r2, r3⟩
          · rw [List.getElem?_append_right (by omega)] at hw
            have h0 : j - ys.length = 0 := by
              have := (List.getElem?_eq_some_iff.mp hw).1
              simp at this; omega
            rw [h0] at hw
            cases hw
            rw [getD_right (by rw [row.1]; omega)]
            exact ⟨hv2.keep fun b u hb e => (by rw [upd_ne hb.2]; exact e), hdp, hmn⟩
      · obtain ⟨ts, ys, k2, hk2, yl, o3, st3, d3, row⟩ := hP
        have hm3 : m.toNat ≤ 3 := by omega
        have hmul : m.toNat * bnd d ≤ 3 * bnd d := Nat.mul_le_mul_right _ hm3
        exact kb _ _ ⟨D, ts, ys, k2, by omega, by omega, hD0, o3, st3, d3, row, rfl⟩
    obtain ⟨D, ts, ys, k2, hk2, hyl, hD, o2, st2, d2, row, rfl⟩ := hm
    have tsl := row.1
    by_cases w4 : wy = 3
    · subst w4
      have hd : decide (V.int 3 = V.int 3) = true := decide_eq_true rfl
      walk_at "go"
      exact hQ H2 (.ref D) k2 hk2 o2 st2 ⟨.lst ys.length (fun j => ts.getD j .non), ⟨D, ys, fun b => H b = none ∧ b ≠ D, rfl, hD, fun z => z.2 rfl, fun b hb => hb.1, d2, rfl, by omega, fun j v hv => (row.2 j v hv).1⟩, fun j hj => (row.2 j _ (List.getElem?_eq_getElem hj)).2.1, ⟨hyl, fun j hj => (row.2 j _ (List.getElem?_eq_getElem hj)).2.2⟩⟩
    · have hd3 : decide (V.int wy = V.int 3) = false := decide_eq_false fun z => w4 (V.int.inj z)
      by_cases w5 : wy = 4
      · subst w5
        walk_at "go"
        refine .inl ⟨SqL.of d2, fun q fq => ?_⟩
        refine hQ _ (.ref q) k2 hk2 (o2.trans (Old.of_same (same_new fq _))) (st2.same (same_new fq _)) ⟨.tup ys.length (fun j => ts.getD j .non), ⟨q, ys, fun b => (H b = none ∧ b ≠ D) ∧ H2 b ≠ none, rfl, fr_old st st2 o2 q fq, fun z => z.2 fq, fun b hb => hb.1.1, upd_same, rfl, by omega, fun j v hv => ?_⟩, fun j hj => (row.2 j _ (List.getElem?_eq_getElem hj)).2.1, ⟨hyl, fun j hj => (row.2 j _ (List.getElem?_eq_getElem hj)).2.2⟩⟩
        exact ((row.2 j v hv).1.live).same (same_new fq _)
      · have hd5 : decide (V.int wy = V.int 4) = false := decide_eq_false fun z => w5 (V.int.inj z)
        walk_at "go"
        intro p fp
        have s3 := same_new fp (.lst [V.str "a", V.str "b", V.str "message"])
        have hp3 := upd_same (H := H2) (a := p) (o := .lst [V.str "a", V.str "b", V.str "message"])
        have d3 := s3 _ _ d2
        have st3 := st2.same s3
        have o3 := o2.trans (Old.of_same s3)
        generalize upd H2 p (.lst [V.str "a", V.str "b", V.str "message"]) = H3 at s3 hp3 d3 st3 o3 ⊢
        refine ⟨_, rfl, p, D, [Sum.inr "a", Sum.inr "b", Sum.inr "message"], ys, rfl, SqL.of hp3, SqL.of d3, fun q fq => ?_⟩
        have ez : mergeK [] ([(Sum.inr "a" : Key), Sum.inr "b", Sum.inr "message"].zip ys) = dK ([("a" : Str), "b", "message"].zip ys) := by
          match ys, hyl with
          | [], _ => rfl
          | [a], _ => rfl
          | [a, b], _ => rfl
          | [a, b, c], _ => rfl
        rw [ez]
        have hzl : ([("a" : Str), "b", "message"].zip ys).map (·.1) = [("a" : Str), "b", "message"].take ys.length := by
          match ys, hyl with
          | [], _ => rfl
          | [a], _ => rfl
          | [a, b], _ => rfl
          | [a, b, c], _ => rfl
        refine hQ _ (.ref q) k2 hk2 (o3.trans (Old.of_same (same_new fq _))) (st3.same (same_new fq _)) ⟨.dct ([("a" : Str), "b", "message"].take ys.length) (fun j => ts.getD j .non), ⟨q, _, fun b => (H b = none ∧ b ≠ D) ∧ H3 b ≠ none, rfl, fr_old st st3 o3 q fq, fun z => z.2 fq, fun b hb => hb.1.1, upd_same, hzl, ?_, ?_, fun j v hv => ?_⟩, fun j hj => ?_, ⟨by rw [List.length_take]; show min _ 3 ≤ 3; omega, fun k hk => ?_⟩, fun j hj => ?_⟩
        · exact (List.take_sublist _ _).nodup (by decide +kernel)
        · rw [List.length_take]; show min _ 3 < 64; omega
        · obtain ⟨k1, v1⟩ := v
          have hys : ys[j]? = some v1 := by
            rw [List.getElem?_zip_eq_some] at hv
            exact hv.2
          exact (((row.2 j v1 hys).1.same s3).live).same (same_new fq _)
        · have hj2 : j < ys.length := by rw [List.length_take] at hj; omega
          exact (row.2 j _ (List.getElem?_eq_getElem hj2)).2.1
        · have := List.mem_of_mem_take hk
          simp only [List.mem_cons, List.not_mem_nil, or_false] at this
          rcases this with rfl | rfl | rfl <;> exact ⟨by decide +kernel, by decide +kernel⟩
        · have hj2 : j < ys.length := by rw [List.length_take] at hj; omega
          exact (row.2 j _ (List.getElem?_eq_getElem hj2)).2.2
end
end K17

set_option Elab.async false
set_option linter.all false
set_option maxRecDepth 100000
set_option maxHeartbeats 0
namespace K17
open PySem PySem.Spec PyProof.Rows L2 RC
section
variable {P : Program} {w : World} {K : PySem.W.Frag} {mg : Str → Option Value} {base : Heap}
/-! ### a record of any args and any extra -/
abbrev CR (K : PySem.W.Frag) : Addr := He.ga K "LogRecord"
def recV (name : Str) (lv : Int) (ln msg : Str) (g : V) (clk : Int) (e : V) : List (Str × V) := [("name", .str name), ("levelno", .int lv), ("levelname", .str ln), ("msg", .str msg), ("given", g), ("created", .int clk), ("extra", e)]
/-- data that is a row, or nothing -/
theorem HD.but {H H' : Hp} {p : Addr} {t : Dt} {P : Addr → Prop} {x : V} (h : HD H t P x) (np : ¬ P p) (b : SameBut p H H') : HD H' t P x := h.keep fun c o hc e => b c o (fun z => np (by rw [← z]; exact hc)) e
def spRecD (K : PySem.W.Frag) : Sp := fun vs H Q _ => ∃ (p dx : Addr) (name ln msg : Str) (lv clk : Int) (args extra : V) (n : Nat) (f : Nat → Dt) (te : Dt) (Pa Pe : Addr → Prop), vs = [.ref p, .str name, .int lv, .str ln, .str msg, args, .int clk, extra] ∧ H p = some (.ins (CR K) dx []) ∧ ¬ Pa p ∧ ¬ Pe p ∧
  (HD H (.lst n f) Pa args ∨ HD H (.tup n f) Pa args) ∧ (∀ i, i < n → Dep 3 (f i)) ∧ HD H te Pe extra ∧ Dep 4 te ∧
  ∀ H' g e, SameBut p H H' → H' p = some (.ins (CR K) dx (recV name lv ln msg g clk e)) → HD H' (.tup n f) (fun b => H b = none) g → HD H' te (fun b => H b = none) e → Q .non H'
theorem ok_rec_init {f : Addr} (T : Txt P w K mg) (F : Stands K "__init__" "LogRecord.__init__" s_LogRecord_init [] f) (c_copied_value : Callable P w K mg base 5 (He.ga K "copied_value") ["thing"] [] (spCopD 4)) :
    Callable P w K mg base 6 f ["self", "name", "levelno", "levelname", "msg", "args", "created", "extra"] [] (spRecD K) := by
  refine F.call0 sc_LogRecord_init (fun vs H Q E h => ?_) (fun cdv A outer s H vs Q E hr h => ?_) (fun _ _ _ _ _ _ us hl => match us, hl with | [_, _, _, _, _, _, _, _], _ => rfl)
  · obtain ⟨p, dx, name, ln, msg, lv, clk, args, extra, n, f, te, Pa, Pe, rfl, _⟩ := h; rfl
  obtain ⟨p, dx, name, ln, msg, lv, clk, args, extra, n, f, te, Pa, Pe, rfl, hp, npa, npe, ha, hda, he, hde, hQ⟩ := h
  refine ⟨_, (pss_cons (ps_fld (pv 0) (pv 1) rfl)
      (pss_cons (ps_fld (pv 0) (pv 2) rfl)
      (pss_cons (ps_fld (pv 0) (pv 3) rfl)
      (pss_cons (ps_fld (pv 0) (pv 4) rfl)
      (pss_cons (ps_fld (pv 0) (pe_fn T.g_copied_value c_copied_value (hr.mono (by first | decide | exact Nat.le_refl _)) (by rfl) (pa_cons (pe_callTy call_tuple_of (by rfl) T.b_tuple (by decide +kernel) (pa_cons (pv 5) pa_nil)) pa_nil)) rfl)
      (pss_cons (ps_fld (pv 0) (pv 6) rfl)
      (pss_one (ps_fld (pv 0) (pe_fn T.g_copied_value c_copied_value (hr.mono (by first | decide | exact Nat.le_refl _)) (by rfl) (pa_cons (pv 7) pa_nil)) rfl)))))))), ?_⟩
  refine ⟨_, rfl, _, rfl, p, _, dx, _, rfl, hp, T.c_LogRecord, T.n_LogRecord_name, (by show 0 < 1000; decide), ?_⟩
  refine ⟨_, rfl, _, rfl, p, _, dx, _, rfl, upd_same, T.c_LogRecord, T.n_LogRecord_levelno, (by show 1 < 1000; decide), ?_⟩
  rw [upd_upd]
  refine ⟨_, rfl, _, rfl, p, _, dx, _, rfl, upd_same, T.c_LogRecord, T.n_LogRecord_levelname, (by show 2 < 1000; decide), ?_⟩
  rw [upd_upd]
  refine ⟨_, rfl, _, rfl, p, _, dx, _, rfl, upd_same, T.c_LogRecord, T.n_LogRecord_msg, (by show 3 < 1000; decide), ?_⟩
  rw [upd_upd]
  generalize e1 : upd H p _ = H1
  have b1 : SameBut p H H1 := by rw [← e1]; exact SameBut.put
  have p1 : H1 p = some (.ins (CR K) dx [("name", .str name), ("levelno", .int lv), ("levelname", .str ln), ("msg", .str msg)]) := by rw [← e1]; exact upd_same
  have f1 : ∀ b, H1 b = none → H b = none := fun b hb => by rw [← e1] at hb; exact (upd_none hb).2
  clear e1
  have hdT : Dep 4 (.tup n f) := hda
  rcases ha with ha | ha
  · have ha1 := ha.but npa b1
    obtain ⟨a, xs, P', rfl, q1, q2, q3, hax, hl, hn, hi⟩ := ha1
    refine ⟨_, rfl, a, xs, rfl, .inl ⟨SqL.of hax, fun q fq => ?_⟩⟩
    have sa := same_new fq (.tup xs)
    have hT : HD (upd H1 q (.tup xs)) (.tup n f) (fun b => Pa b ∨ b = q) (.ref q) := ⟨q, xs, fun b => P' b ∧ H1 b ≠ none, rfl, .inr rfl, fun z => z.2 fq, fun b hb => .inl (q3 b hb.1), upd_same, hl, hn, fun i v hv => ((hi i v hv).live).same sa⟩
    generalize upd H1 q (.tup xs) = H1' at sa hT ⊢
    refine ⟨_, _, _, rfl, hT, hdT, fun H2 g s2 hg => ?_⟩
    have s12 := sa.trans s2
    have fH : ∀ b, H2 b = none → H b = none := fun b hb => f1 b (s12.free hb)
    refine ⟨_, rfl, p, _, dx, _, rfl, s12 _ _ p1, T.c_LogRecord, T.n_LogRecord_given, (by show 4 < 1000; decide), ?_⟩
    refine ⟨_, rfl, _, rfl, p, _, dx, _, rfl, upd_same, T.c_LogRecord, T.n_LogRecord_created, (by show 5 < 1000; decide), ?_⟩
    rw [upd_upd]
    generalize e3 : upd H2 p _ = H3
    have b3 : SameBut p H2 H3 := by rw [← e3]; exact SameBut.put
    have p3 : H3 p = some (.ins (CR K) dx [("name", .str name), ("levelno", .int lv), ("levelname", .str ln), ("msg", .str msg), ("given", g), ("created", .int clk)]) := by rw [← e3]; exact upd_same
    have f3 : ∀ b, H3 b = none → H b = none := fun b hb => by rw [← e3] at hb; exact fH b (upd_none hb).2
    clear e3
    have he3 : HD H3 te Pe extra := ((he.but npe b1).same s12).but npe b3
    have hpn : ¬ (H p = none) := by rw [hp]; exact fun z => nomatch z
    have hg3 : HD H3 (.tup n f) (fun b => H b = none) g := (hg.wide fun b hb => f1 b (sa.free hb)).but hpn b3
    refine ⟨_, rfl, extra, te, Pe, rfl, he3, hde, fun H4 e s4 hx => ?_⟩
    refine ⟨_, rfl, p, _, dx, _, rfl, s4 _ _ p3, T.c_LogRecord, T.n_LogRecord_extra, (by show 6 < 1000; decide), ?_⟩
    have hx2 : HD H4 te (fun b => H b = none) e := hx.wide fun b hb => f3 b hb
    exact hQ _ g e ((((b1.trans (SameBut.of s12)).trans b3).trans (SameBut.of s4)).trans SameBut.put) upd_same ((hg3.same s4).but hpn SameBut.put) (hx2.but hpn SameBut.put)
  · have ha1 := ha.but npa b1
    have ha2 := ha1
    obtain ⟨a, xs, P', rfl, q1, q2, q3, hax, hl, hn, hi⟩ := ha2
    have sa := Same.refl H1
    refine ⟨_, rfl, a, xs, rfl, .inr ⟨SqT.of hax, ?_⟩⟩
    refine ⟨_, _, _, rfl, ha1, hdT, fun H2 g s2 hg => ?_⟩
    have s12 := sa.trans s2
    have fH : ∀ b, H2 b = none → H b = none := fun b hb => f1 b (s12.free hb)
    refine ⟨_, rfl, p, _, dx, _, rfl, s12 _ _ p1, T.c_LogRecord, T.n_LogRecord_given, (by show 4 < 1000; decide), ?_⟩
    refine ⟨_, rfl, _, rfl, p, _, dx, _, rfl, upd_same, T.c_LogRecord, T.n_LogRecord_created, (by show 5 < 1000; decide), ?_⟩
    rw [upd_upd]
    generalize e3 : upd H2 p _ = H3
    have b3 : SameBut p H2 H3 := by rw [← e3]; exact SameBut.put
    have p3 : H3 p = some (.ins (CR K) dx [("name", .str name), ("levelno", .int lv), ("levelname", .str ln), ("msg", .str msg), ("given", g), ("created", .int clk)]) := by rw [← e3]; exact upd_same
    have f3 : ∀ b, H3 b = none → H b = none := fun b hb => by rw [← e3] at hb; exact fH b (upd_none hb).2
    clear e3
    have he3 : HD H3 te Pe extra := ((he.but npe b1).same s12).but npe b3
    have hpn : ¬ (H p = none) := by rw [hp]; exact fun z => nomatch z
    have hg3 : HD H3 (.tup n f) (fun b => H b = none) g := (hg.wide fun b hb => f1 b (sa.free hb)).but hpn b3
    refine ⟨_, rfl, extra, te, Pe, rfl, he3, hde, fun H4 e s4 hx => ?_⟩
    refine ⟨_, rfl, p, _, dx, _, rfl, s4 _ _ p3, T.c_LogRecord, T.n_LogRecord_extra, (by show 6 < 1000; decide), ?_⟩
    have hx2 : HD H4 te (fun b => H b = none) e := hx.wide fun b hb => f3 b hb
    exact hQ _ g e ((((b1.trans (SameBut.of s12)).trans b3).trans (SameBut.of s4)).trans SameBut.put) upd_same ((hg3.same s4).but hpn SameBut.put) (hx2.but hpn SameBut.put)
end
end K17

set_option Elab.async false
set_option linter.all false
set_option maxRecDepth 100000
set_option maxHeartbeats 0

namespace K17
open PySem PySem.Spec PyProof.Rows L2 RC
section
variable {P : Program} {w : World} {K : PySem.W.Frag} {mg : Str → Option Value} {base : Heap}
/-! ### make_record, of a number and no args -/
def NmsOk (nms : List (Key × V)) : Prop := ∀ k v, valV nms k = some v → ∃ z : Str, v = .str z
def lvName (nms : List (Key × V)) (i : Int) : Str := match valV nms (Sum.inl i) with
  | some (.str z) => z
  | _ => ("Level " : Str) ++ (toString i : Str)
def spLevelName (K : PySem.W.Frag) : Sp := fun vs H Q _ => ∃ (y dy na : Addr) (fs : List (Str × V)) (nms : List (Key × V)) (i : Int), vs = [.ref y, .int i] ∧ H y = some (.ins (CY K) dy fs) ∧ fs.lookup ("names_of" : Str) = some (.ref na) ∧ H na = some (.dK nms) ∧ NmsOk nms ∧ i.natAbs < 2 ^ 63 ∧ Q (.str (lvName nms i)) H
theorem ok_level_name {f : Addr} (T : Txt P w K mg) (F : Stands K "level_name" "Yard.level_name" s_Yard_level_name [] f) : Callable P w K mg base 1 f ["self", "level"] [] (spLevelName K) := by
  refine F.call0 sc_Yard_level_name (fun vs H Q E h => ?_) (fun cdv A outer s H vs Q E hr h => ?_) (fun _ _ _ _ _ _ us hl => match us, hl with | [_, _], _ => rfl)
  · obtain ⟨y, dy, na, fs, nms, i, rfl, _⟩ := h; rfl
  obtain ⟨y, dy, na, fs, nms, i, rfl, hy, hn, hna, hz, hi, hQ⟩ := h
  refine ⟨_, (pss_one (ps_ret (pe_ifExp (pt_cmp (pc_din (hu_of hr) (pv 1) (pe_fld (pv 0) rfl))) (pe_dget (hu_of hr) (pe_fld (pv 0) rfl) (pv 1) (fun _ _ => rfl)) (pe_op op_add_str pe_str (pe_callTy call_str_int (by rfl) T.b_str (by decide +kernel) (pa_cons (pv 1) pa_nil)))))), ?_⟩
  walk_at "in"
  unfold lvName at hQ
  cases e : valV nms (Sum.inl i) with
  | some v =>
    obtain ⟨z, rfl⟩ := hz _ _ e
    rw [e] at hQ
    walk_at "go"
    exact hQ
  | none =>
    rw [e] at hQ
    walk_at "go"
    have hl := RN.len_toString i
    have hl2 : i.natAbs.log2 < 63 := by
      by_cases c : i.natAbs = 0
      · rw [c]; decide
      · exact (Nat.log2_lt c).mpr hi
    refine ⟨by omega, _, _, rfl, rfl, ?_, hQ⟩
    show 6 + (Str.ofString (toString i)).length ≤ sizeLine
    rw [sizeLine_eq]; omega
end
end K17

set_option Elab.async false
set_option linter.all false
set_option maxRecDepth 100000
set_option maxHeartbeats 0
namespace K17
open PySem PySem.Spec PyProof.Rows L2 RC
section
variable {P : Program} {w : World} {K : PySem.W.Frag} {mg : Str → Option Value} {base : Heap}
/-! ### rows of a dict -/
section
variable {α β : Type} [DecidableEq α]
def lkp (ts : List (α × β)) (k : α) : Option β := (ts.find? fun e => decide (e.1 = k)).map (·.2)
def putL (ts : List (α × β)) (k : α) (v : β) : List (α × β) := if ts.any (fun e => decide (e.1 = k)) = true then ts.map (fun e => if e.1 = k then (k, v) else e) else ts ++ [(k, v)]
def rowK (f : α → Key) (g : β → V) (ts : List (α × β)) : List (Key × V) := ts.map fun e => (f e.1, g e.2)
variable {f : α → Key} {g : β → V} {ts us : List (α × β)} {k k2 : α} {v v2 : β}
theorem lk_cons (e : α × β) : lkp (e :: ts) k = if e.1 = k then some e.2 else lkp ts k := by
  unfold lkp
  rw [List.find?_cons]
  by_cases c : e.1 = k
  · rw [decide_eq_true c, if_pos c]; rfl
  · rw [decide_eq_false c, if_neg c]
theorem valV_rowK (fi : ∀ a b, f a = f b → a = b) (k : α) : ∀ ts : List (α × β), valV (rowK f g ts) (f k) = (lkp ts k).map g
  | [] => rfl
  | e :: ts => by
    rw [lk_cons]
    by_cases c : e.1 = k
    · rw [if_pos c]
      exact valV_pos (p := (f e.1, g e.2)) (r := rowK f g ts) (congrArg f c)
    · rw [if_neg c, ← valV_rowK fi k ts]
      show valV ((f e.1, g e.2) :: rowK f g ts) (f k) = _
      unfold valV
      rw [List.find?_cons, show decide (f e.1 = f k) = false from decide_eq_false fun z => c (fi _ _ z)]
theorem putK_rowK (fi : ∀ a b, f a = f b → a = b) (ts : List (α × β)) (k : α) (v : β) : putK (rowK f g ts) (f k) (g v) = rowK f g (putL ts k v) := by
  unfold putK putL
  have e : (rowK f g ts).any (fun p => decide (p.1 = f k)) = ts.any (fun e => decide (e.1 = k)) := by
    unfold rowK
    rw [List.any_map]
    congr 1
    funext e
    exact decide_eq_decide.mpr ⟨fun z => fi _ _ z, fun z => congrArg f z⟩
  rw [e]
  split
  · unfold rowK
    rw [List.map_map, List.map_map]
    refine List.map_congr_left fun e _ => ?_
    show (if f e.1 = f k then _ else _) = _
    by_cases c : e.1 = k
    · rw [if_pos (congrArg f c)]
      show _ = (f (if e.1 = k then (k, v) else e).1, g (if e.1 = k then (k, v) else e).2)
      rw [if_pos c]
      exact congrArg (fun q => (f q, g v)) c
    · rw [if_neg (fun z => c (fi _ _ z))]
      show _ = (f (if e.1 = k then (k, v) else e).1, g (if e.1 = k then (k, v) else e).2)
      rw [if_neg c]
  · unfold rowK; rw [List.map_append]; rfl
theorem putL_length (ts : List (α × β)) (k : α) (v : β) : (putL ts k v).length ≤ ts.length + 1 := by
  unfold putL
  split
  · rw [List.length_map]; omega
  · rw [List.length_append]; exact Nat.le_refl _
theorem putL_keys (ts : List (α × β)) (k : α) (v : β) : (putL ts k v).map (·.1) = if k ∈ ts.map (·.1) then ts.map (·.1) else ts.map (·.1) ++ [k] := by
  unfold putL
  have e : ts.any (fun e => decide (e.1 = k)) = decide (k ∈ ts.map (·.1)) := by
    rw [Bool.eq_iff_iff, List.any_eq_true, decide_eq_true_eq, List.mem_map]
    exact ⟨fun ⟨e, h, z⟩ => ⟨e, h, of_decide_eq_true z⟩, fun ⟨e, h, z⟩ => ⟨e, h, decide_eq_true z⟩⟩
  rw [e]
  by_cases c : k ∈ ts.map (·.1)
  · rw [decide_eq_true c, if_pos rfl, if_pos c, List.map_map]
    refine List.map_congr_left fun e _ => ?_
    show (if e.1 = k then (k, v) else e).1 = e.1
    split
    · rename_i z; exact z.symm
    · rfl
  · rw [decide_eq_false c, if_neg (fun z => nomatch z), if_neg c, List.map_append]; rfl
theorem putL_nd (h : (ts.map (·.1)).Nodup) (k : α) (v : β) : ((putL ts k v).map (·.1)).Nodup := by
  rw [putL_keys]
  by_cases c : k ∈ ts.map (·.1)
  · rw [if_pos c]; exact h
  · rw [if_neg c]
    exact List.nodup_append.mpr ⟨h, List.nodup_cons.mpr ⟨(by simp), List.nodup_nil⟩, fun a ha b hb => by rw [List.mem_singleton.mp hb]; exact fun z => c (z ▸ ha)⟩
theorem lk_mem {e : α × β} : ∀ {ts : List (α × β)}, (ts.map (·.1)).Nodup → e ∈ ts → lkp ts e.1 = some e.2
  | [], _, h => nomatch h
  | a :: ts, nd, h => by
    rw [List.map_cons, List.nodup_cons] at nd
    rw [lk_cons]
    rcases List.mem_cons.mp h with rfl | h
    · rw [if_pos rfl]
    · rw [if_neg (fun z => nd.1 (by rw [z]; exact List.mem_map_of_mem h))]
      exact lk_mem nd.2 h
theorem mem_lk : ∀ {ts : List (α × β)}, lkp ts k = some v → (k, v) ∈ ts
  | [], h => by cases h
  | a :: ts, h => by
    rw [lk_cons] at h
    split at h
    · rename_i z
      cases h
      rw [← z]; exact List.mem_cons_self
    · exact List.mem_cons_of_mem _ (mem_lk h)
theorem lk_perm (p : ts.Perm us) (nd : (ts.map (·.1)).Nodup) (k : α) : lkp ts k = lkp us k := by
  have nd2 : (us.map (·.1)).Nodup := (p.map _).nodup_iff.mp nd
  cases h : lkp us k with
  | some v => exact lk_mem nd (p.mem_iff.mpr (mem_lk h))
  | none =>
    cases h2 : lkp ts k with
    | none => rfl
    | some v =>
      have := lk_mem nd2 (p.mem_iff.mp (mem_lk h2))
      rw [h] at this; cases this
theorem putL_perm (p : ts.Perm us) (k : α) (v : β) : (putL ts k v).Perm (putL us k v) := by
  unfold putL
  have e : ts.any (fun e => decide (e.1 = k)) = us.any (fun e => decide (e.1 = k)) := by
    rw [Bool.eq_iff_iff, List.any_eq_true, List.any_eq_true]
    exact ⟨fun ⟨e, h, z⟩ => ⟨e, p.mem_iff.mp h, z⟩, fun ⟨e, h, z⟩ => ⟨e, p.mem_iff.mpr h, z⟩⟩
  rw [e]
  split
  · exact p.map _
  · exact p.append_right _
theorem putL_all {p : α × β → Prop} (h : ∀ e ∈ ts, p e) (hk : p (k, v)) : ∀ e ∈ putL ts k v, p e := fun e he => by
  unfold putL at he
  split at he
  · obtain ⟨e', h1, rfl⟩ := List.mem_map.mp he
    split
    · exact hk
    · exact h _ h1
  · rcases List.mem_append.mp he with h1 | h1
    · exact h _ h1
    · cases List.mem_singleton.mp h1; exact hk
end
abbrev intK (ts : List (Str × Int)) : List (Key × V) := rowK Sum.inr V.int ts
abbrev txtK (ts : List (Int × Str)) : List (Key × V) := rowK Sum.inl V.str ts
theorem val_int (ts : List (Str × Int)) (s : Str) : valV (intK ts) (Sum.inr s) = (lkp ts s).map V.int := valV_rowK (fun _ _ z => Sum.inr.inj z) s ts
theorem val_txt (ts : List (Int × Str)) (i : Int) : valV (txtK ts) (Sum.inl i) = (lkp ts i).map V.str := valV_rowK (fun _ _ z => Sum.inl.inj z) i ts
theorem put_int (ts : List (Str × Int)) (s : Str) (i : Int) : putK (intK ts) (Sum.inr s) (.int i) = intK (putL ts s i) := putK_rowK (fun _ _ z => Sum.inr.inj z) ts s i
theorem put_txt (ts : List (Int × Str)) (i : Int) (s : Str) : putK (txtK ts) (Sum.inl i) (.str s) = txtK (putL ts i s) := putK_rowK (fun _ _ z => Sum.inl.inj z) ts i s
inductive Fl : V → Prop
  | int (i : Int) : Fl (.int i)
  | str (s : Str) : Fl (.str s)
/-- what may be passed as a level -/
inductive Th (H : Hp) : V → Prop
  | int (i : Int) : Th H (.int i)
  | str (s : Str) : Th H (.str s)
  | bl (b : Bool) : Th H (.bl b)
  | non : Th H .non
  | lst {a : Addr} {xs : List V} (h : H a = some (.lst xs)) (hf : ∀ x ∈ xs, Fl x) (hl : xs.length ≤ 10) : Th H (.ref a)
  | tup {a : Addr} {xs : List V} (h : H a = some (.tup xs)) (hf : ∀ x ∈ xs, Fl x) (hl : xs.length ≤ 10) : Th H (.ref a)
  | dct {a : Addr} {ts : List (Str × Int)} (h : H a = some (.dK (intK ts))) (nd : (ts.map (·.1)).Nodup) (hl : ts.length ≤ 10) : Th H (.ref a)
theorem Th.same {H H' : Hp} {x : V} (h : Th H x) (s : Same H H') : Th H' x := by
  cases h with
  | int i => exact .int i
  | str z => exact .str z
  | bl b => exact .bl b
  | non => exact .non
  | lst h hf hl => exact .lst (s _ _ h) hf hl
  | tup h hf hl => exact .tup (s _ _ h) hf hl
  | dct h nd hl => exact .dct (s _ _ h) nd hl
def lvO (U : List (Str × Int)) : V → Option Int
  | .int i => some i
  | .str s => lkp U s
  | _ => none
end
end K17

set_option Elab.async false
set_option linter.all false
set_option maxRecDepth 100000
set_option maxHeartbeats 0

namespace K17
open PySem PySem.Spec PyProof.Rows L2 RC
section
variable {P : Program} {w : World} {K : PySem.W.Frag} {mg : Str → Option Value} {base : Heap}
/-! ### the level of what is passed, or BadLevel -/
def spIsI : Sp := fun vs H Q _ => ∃ x : V, vs = [x] ∧ Th H x ∧ Q (.bl (match x with | .int _ => true | _ => false)) H
theorem ok_is_integer {f : Addr} (T : Txt P w K mg) (F : Stands K "is_integer" "is_integer" s_is_integer [] f) : Callable P w K mg base 1 f ["thing"] [] spIsI := by
  refine F.call0 sc_is_integer (fun vs H Q E h => ?_) (fun cdv A outer s H vs Q E hr h => ?_) (fun _ _ _ _ _ _ us hl => match us, hl with | [_], _ => rfl)
  · obtain ⟨x, rfl, _⟩ := h; rfl
  obtain ⟨x, rfl, h, hQ⟩ := h
  refine ⟨_, (pss_one (ps_ret (pe_and (pe_callB call_isi (by rfl) T.b_isinstance (by decide +kernel) (pa_cons (pv 0) (pa_cons (pe_bltn (v := .ty "int") (u := .type "int") (by rfl) T.b_int (by decide +kernel) rfl) pa_nil))) (pe_one (pe_not (pe_callB call_isi (by rfl) T.b_isinstance (by decide +kernel) (pa_cons (pv 0) (pa_cons (pe_bltn (v := .ty "bool") (u := .type "bool") (by rfl) T.b_bool (by decide +kernel) rfl) pa_nil)))))))), ?_⟩
  walk_at "in"
  cases h with
  | int i => walk_at "go"; exact hQ
  | str z => walk_at "go"; exact hQ
  | bl b => walk_at "go"; exact hQ
  | non => walk_at "go"; exact hQ
  | lst h hf hl => walk_at "go"; exact hQ
  | tup h hf hl => walk_at "go"; exact hQ
  | dct h nd hl => walk_at "go"; exact hQ
theorem ok_badlevel_init {f : Addr} (T : Txt P w K mg) (F : Stands K "__init__" "BadLevel.__init__" s_BadLevel_init [] f) : Callable P w K mg base 1 f ["self", "level"] [] (RQ.spExcInit K "level") := by
  refine F.call0 sc_BadLevel_init (fun vs H Q E h => ?_) (fun cdv A outer s H vs Q E hr h => ?_) (fun _ _ _ _ _ _ us hl => match us, hl with | [_, _], _ => rfl)
  · obtain ⟨a, C, v, rfl, _⟩ := h; rfl
  obtain ⟨a, C, v, rfl, hx, ha, hQ⟩ := h
  refine ⟨_, (pss_one (ps_ost (pv 0) (pv 1))), ?_⟩
  walk_at "in"
  exact RQ.init_rd hx (fun Q h => ⟨_, rfl, h⟩) (fun Q h => ⟨_, rfl, h⟩) ha hQ
def spLevelX (K : PySem.W.Frag) : Sp := fun vs H Q E => ∃ (y dy nu : Addr) (fs : List (Str × V)) (U : List (Str × Int)) (x : V), vs = [.ref y, x] ∧ H y = some (.ins (CY K) dy fs) ∧ fs.lookup ("numbers_of" : Str) = some (.ref nu) ∧ H nu = some (.dK (intK U)) ∧ Th H x ∧
  (∀ i, lvO U x = some i → Q (.int i) H) ∧ (lvO U x = none → ∀ d, H d = none → E (.ref (He.ga K "BadLevel")) (some d) (upd H d (.xd [("level", x)])))
theorem ok_level_of {f : Addr} (T : Txt P w K mg) (F : Stands K "level_of" "Yard.level_of" s_Yard_level_of [] f) (c_is_integer : Callable P w K mg base 1 (He.ga K "is_integer") ["thing"] [] spIsI)
    (c_BadLevel_init : Callable P w K mg base 1 (He.ma K (He.ga K "BadLevel") "__init__") ["self", "level"] [] (RQ.spExcInit K "level")) : RQ.CallX P w K mg base 3 f ["self", "level"] [] (spLevelX K) := by
  refine RQ.stands_callX0 F sc_Yard_level_of (fun vs H Q E h => ?_) (fun cdv A outer s H vs Q E hr h => ?_) (fun _ _ _ _ _ _ us hl => match us, hl with | [_, _], _ => rfl)
  · obtain ⟨y, dy, nu, fs, U, x, rfl, _⟩ := h; rfl
  obtain ⟨y, dy, nu, fs, U, x, rfl, hy, hnu, gnu, th, hQ, hE⟩ := h
  generalize e1 : spIsI = S1 at c_is_integer
  refine ⟨_, (pss_cons (ps_if (pt_val (pe_fn T.g_is_integer c_is_integer (hr.mono (by first | decide | exact Nat.le_refl _)) (by rfl) (pa_cons (pv 1) pa_nil))) (pss_one (ps_ret (pv 1))) pss_nil)
      (pss_cons (ps_if (PW.pt (pw_and (pt_val (pe_callB call_isi (by rfl) T.b_isinstance (by decide +kernel) (pa_cons (pv 1) (pa_cons (pe_bltn (v := .ty "str") (u := .type "str") (by rfl) T.b_str (by decide +kernel) rfl) pa_nil)))) (pw_and1 (pt_cmp (pc_din (hu_of hr) (pv 1) (pe_fld (pv 0) rfl)))))) (pss_one (ps_ret (pe_dget (hu_of hr) (pe_fld (pv 0) rfl) (pv 1) (fun _ _ => rfl)))) pss_nil)
      (pss_one (RQ.ps_exc rfl (takes_of rfl rfl rfl rfl) T.x_BadLevel c_BadLevel_init (hr.mono (by first | decide | exact Nat.le_refl _)) T.g_BadLevel (by rfl) (pa_cons (pv 1) pa_nil))))), ?_⟩
  walk_at "in"
  walk_at "go"
  refine (?_ : S1 [x] H _ E0)
  rw [← e1]
  refine ⟨x, rfl, th, ?_⟩
  cases th with
  | int i => walk_at "go"; exact hQ i rfl
  | str z =>
    cases e : lkp U z with
    | none =>
      have ge := DGet.k (k := Sum.inr z) gnu
      rw [show valV (intK U) (Sum.inr z) = none from by rw [val_int, e]; rfl] at ge
      walk_at "go"
      refine ⟨T.c_Yard, T.n_Yard_numbers_of, hnu, nu, _, rfl, ge, _, rfl, iteF' rfl ?_⟩
      walk_at "go"
      exact hE e
    | some i =>
      have ge := DGet.k (k := Sum.inr z) gnu
      rw [show valV (intK U) (Sum.inr z) = some (.int i) from by rw [val_int, e]; rfl] at ge
      walk_at "go"
      refine ⟨T.c_Yard, T.n_Yard_numbers_of, hnu, nu, _, rfl, ge, _, rfl, iteT' rfl ?_⟩
      refine ⟨_, rfl, y, _, dy, fs, _, rfl, hy, T.c_Yard, T.n_Yard_numbers_of, hnu, _, rfl, nu, _, rfl, ge, ?_⟩
      exact hQ i e
  | bl b => walk_at "go"; exact hE rfl
  | non => walk_at "go"; exact hE rfl
  | lst h hf hl => walk_at "go"; exact hE rfl
  | tup h hf hl => walk_at "go"; exact hE rfl
  | dct h nd hl => walk_at "go"; exact hE rfl
end
end K17

set_option Elab.async false
set_option linter.all false
set_option maxRecDepth 100000
set_option maxHeartbeats 0

namespace K17
open PySem PySem.Spec PyProof.Rows L2 RC
section
variable {P : Program} {w : World} {K : PySem.W.Frag} {mg : Str → Option Value} {base : Heap}
/-! ### make_record of any args and any extra: BadLevel, then BadExtra -/
abbrev ownL : List Str := ["name", "levelno", "levelname", "msg", "args", "created", "msecs", "message", "asctime"]
def ownB (k : Str) : Bool := decide (k ∈ ownL)
theorem inV_strs (x : Str) (xs : List Str) : L2.inV (.str x) (xs.map V.str) = decide (x ∈ xs) := by
  unfold L2.inV
  rw [List.any_map, Bool.eq_iff_iff, List.any_eq_true, decide_eq_true_eq]
  refine ⟨fun ⟨i, hi, z⟩ => ?_, fun h => ⟨x, h, ?_⟩⟩
  · have z : L2.eqV (.str i) (.str x) = true := z
    simp [L2.eqV] at z
    rw [← z]; exact hi
  · show L2.eqV (.str x) (.str x) = true
    simp [L2.eqV]
theorem own_in (k : Str) : inV (.str k) (ownL.map V.str) = ownB k := inV_strs k ownL
/-- the keys that each record has by itself -/
abbrev badK (ks : List Str) : List Str := ks.filter ownB
def spMakeD (K : PySem.W.Frag) : Sp := fun vs H Q E => ∃ (y dy na nu : Addr) (fs : List (Str × V)) (nms : List (Key × V)) (U : List (Str × Int)) (name msg : Str) (lv args extra : V) (clk : Int) (n : Nat) (f : Nat → Dt) (ks : List Str) (fe : Nat → Dt) (Pa Pe : Addr → Prop), vs = [.ref y, .str name, lv, .str msg, args, extra] ∧ H y = some (.ins (CY K) dy fs) ∧
  fs.lookup ("names_of" : Str) = some (.ref na) ∧ fs.lookup ("numbers_of" : Str) = some (.ref nu) ∧ fs.lookup ("clock" : Str) = some (.int clk) ∧ fs.lookup ("level_of" : Str) = none ∧ fs.lookup ("level_name" : Str) = none ∧ H na = some (.dK nms) ∧ H nu = some (.dK (intK U)) ∧ NmsOk nms ∧ Th H lv ∧ (∀ i, lvO U lv = some i → i.natAbs < 2 ^ 63) ∧
  (HD H (.lst n f) Pa args ∨ HD H (.tup n f) Pa args) ∧ (∀ i, i < n → Dep 3 (f i)) ∧ ((extra = .non ∧ ks = []) ∨ HD H (.dct ks fe) Pe extra) ∧ (∀ i, i < ks.length → Dep 3 (fe i)) ∧
  (∀ i, lvO U lv = some i → badK ks = [] → ∀ (H' : Hp) (r dx : Addr) (g e : V), Same H H' → H r = none → H' r = some (.ins (CR K) dx (recV name i (lvName nms i) msg g clk e)) → HD H' (.tup n f) (fun b => H b = none ∧ b ≠ r) g → HD H' (.dct ks fe) (fun b => H b = none ∧ b ≠ r) e → Q (.ref r) H') ∧
  (∀ i, lvO U lv = some i → ∀ z zs, (z :: zs).Perm (badK ks) → sortedS (z :: zs) = true → ∀ (H' : Hp) (d : Addr), Same H H' → H' d = none → E (.ref (He.ga K "BadExtra")) (some d) (upd H' d (.xd [("name", .str z)]))) ∧
  (lvO U lv = none → ∀ d, H d = none → E (.ref (He.ga K "BadLevel")) (some d) (upd H d (.xd [("level", lv)])))
theorem ok_badextra_init {f : Addr} (T : Txt P w K mg) (F : Stands K "__init__" "BadExtra.__init__" s_BadExtra_init [] f) : Callable P w K mg base 1 f ["self", "name"] [] (RQ.spExcInit K "name") := by
  refine F.call0 sc_BadExtra_init (fun vs H Q E h => ?_) (fun cdv A outer s H vs Q E hr h => ?_) (fun _ _ _ _ _ _ us hl => match us, hl with | [_, _], _ => rfl)
  · obtain ⟨a, C, v, rfl, _⟩ := h; rfl
  obtain ⟨a, C, v, rfl, hx, ha, hQ⟩ := h
  refine ⟨_, (pss_one (ps_ost (pv 0) (pv 1))), ?_⟩
  walk_at "in"
  exact RQ.init_rd hx (fun Q h => ⟨_, rfl, h⟩) (fun Q h => ⟨_, rfl, h⟩) ha hQ
theorem body_make {f : Addr} (T : Txt P w K mg) {cdv : Value} {A : Around} {outer : List Env} {st0 : Shared} {E : XK} {vs : List V} {H : Hp} {Q : VK} (hr : Room 8 (A.deeper (envOfC "Yard.make_record" (defScope s_Yard_make_record) st0.heap.objs.size f cdv))) (h : spMakeD K vs H Q E)
    (c_Yard_level_of : RQ.CallX P w K mg base 3 (He.ma K (He.ga K "Yard") "level_of") ["self", "level"] [] (spLevelX K)) (c_Yard_level_name : Callable P w K mg base 1 (He.ma K (He.ga K "Yard") "level_name") ["self", "level"] [] (spLevelName K))
    (c_BadExtra_init : Callable P w K mg base 1 (He.ma K (He.ga K "BadExtra") "__init__") ["self", "name"] [] (RQ.spExcInit K "name"))
    (c_LogRecord_init : Callable P w K mg base 6 (He.ma K (He.ga K "LogRecord") "__init__") ["self", "name", "levelno", "levelname", "msg", "args", "created", "extra"] [] (spRecD K)) :
    ∃ t, PSs (cxOf (L2.CX P w) P w K mg base nm_Yard_make_record "Yard.make_record" (defScope s_Yard_make_record) f cdv A outer st0 H E) (defBody s_Yard_make_record) t ∧ t { nx := fun _ H' => Q .non H', rt := Q } (start nm_Yard_make_record vs) H := by
  obtain ⟨y, dy, na, nu, fs, nms, U, name, msg, lv, args, extra, clk, n, f, ks, fe, Pa, Pe, rfl, hy, hna, hnu, hck, hlo, hln, gna, gnu, hz, th, hlv0, ha, hda, hx, hde, hQ, hE, hE2⟩ := h
  refine ⟨_, (pss_cons (ps_set (i := 6) sc_Yard_make_record.nd rfl (by first | exact Or.inl rfl | exact Or.inr rfl) (RQ.pe_mtX (takes_of rfl rfl rfl rfl) T.c_Yard T.m_Yard_level_of c_Yard_level_of (hr.mono (by first | decide | exact Nat.le_refl _)) (pv 0) (pa_cons (pv 2) pa_nil)))
      (pss_cons (ps_set (i := 7) sc_Yard_make_record.nd rfl (by first | exact Or.inl rfl | exact Or.inr rfl) (pe_ifExp (pt_cmpR op_isN (pv 5) pe_non (nomark _)) pe_dnewK (pv 5)))
      (pss_cons (ps_set (i := 8) sc_Yard_make_record.nd rfl (by first | exact Or.inl rfl | exact Or.inr rfl) (pe_callB cr_sortedS (by rfl) T.b_sorted (by decide +kernel) (pa_cons (pe_lock (pe_lc (own := [("key", 9)]) (by rfl) sc_Yard_make_record.nd (pi_keys (pv 7)) (blkOk_by (own := [("key", 9)]) (N := nm_Yard_make_record) (sc := defScope s_Yard_make_record) (by decide +kernel)) (fun _ _ _ _ _ => (pg_name (i := 9) sc_Yard_make_record.nd rfl (by first | exact Or.inl rfl | exact Or.inr rfl))) (fun _ _ _ _ _ => (pts_one (pt_cmpR (opK (K := K) (fun K => rIn K false) op_in_seq) (pv 9) (pe_glob (v := .ref _) (by rfl) T.g_OWN_FIELDS rfl) (by rfl)))) (fun _ _ _ _ _ => (pv 9)))) pa_nil)))
      (pss_cons (ps_if (pt_cmpR (RY.op_neE (Nat.lt_of_succ_lt (hu_of hr))) (pv 8) (pe_lst pa_nil) (nomark _)) (pss_one (RQ.ps_exc rfl (takes_of rfl rfl rfl rfl) T.x_BadExtra c_BadExtra_init (hr.mono (by first | decide | exact Nat.le_refl _)) T.g_BadExtra (by rfl) (pa_cons (pe_ix ix_list (pv 8) pe_int (fun _ _ => rfl)) pa_nil))) pss_nil)
      (pss_one (ps_ret (pe_mk T.k_LogRecord T.g_LogRecord c_LogRecord_init (hr.mono (by first | decide | exact Nat.le_refl _)) (by rfl) (pa_cons (pv 1) (pa_cons (pv 6) (pa_cons (pe_mt T.c_Yard T.m_Yard_level_name c_Yard_level_name (hr.mono (by first | decide | exact Nat.le_refl _)) (pv 0) (pa_cons (pv 6) pa_nil)) (pa_cons (pv 3) (pa_cons (pv 4) (pa_cons (pe_fld (pv 0) rfl) (pa_cons (pv 7) pa_nil)))))))))))))), ?_⟩
  -- number = self.level_of(level)
  refine seq_of (fun σ' H1 => H = H1 ∧ ∃ i, lvO U lv = some i ∧ σ' = [some (.ref y), some (.str name), some lv, some (.str msg), some args, some extra, some (.int i), none, none, none]) (fun b' kb => ?_) (fun σ' H1 hm => ?_)
  · refine ⟨_, rfl, y, dy, fs, rfl, hy, hlo, _, rfl, y, dy, nu, fs, U, lv, rfl, hy, hnu, gnu, th, fun i hi => ?_, hE2⟩
    exact kb _ _ ⟨rfl, i, hi, rfl⟩
  obtain ⟨rfl, i, hi, rfl⟩ := hm
  have hQ := hQ i hi
  have hE := hE i hi
  have hlv := hlv0 i hi
  -- more = {} or extra
  refine seq_of (fun σ' H1 => ∃ m Pm, Same H H1 ∧ HD H1 (.dct ks fe) Pm (.ref m) ∧ σ' = [some (.ref y), some (.str name), some lv, some (.str msg), some args, some extra, some (.int i), some (.ref m), none, none]) (fun b' kb => ?_) (fun σ' H1 hm => ?_)
  · rcases hx with ⟨rfl, rfl⟩ | hx
    · refine ⟨_, rfl, rfl, _, rfl, iteT' (by rfl) fun m hm => ?_⟩
      exact kb _ _ ⟨m, fun b => b = m, same_new hm _, ⟨m, [], fun _ => False, rfl, rfl, fun z => z, fun b z => z.elim, upd_same, rfl, List.nodup_nil, (by show 0 < 64; decide), fun i v hv => (by cases hv)⟩, rfl⟩
    · have hx2 := hx
      obtain ⟨m, kvs, P', rfl, _⟩ := hx2
      refine ⟨_, rfl, rfl, _, rfl, iteF' (by rfl) ⟨_, rfl, ?_⟩⟩
      exact kb _ _ ⟨m, Pe, Same.refl H, hx, rfl⟩
  obtain ⟨m, Pm, s1, hm, rfl⟩ := hm
  have hm0 := hm
  obtain ⟨m', kvs, P', em, p1, p2, p3, hmd, hl, hnd, hn, hi2⟩ := hm0
  cases em
  have hkl : kvs.length = ks.length := by rw [← hl, List.length_map]
  -- bad = sorted([..])
  refine ⟨m, _, hmd, trivial, fun od => ?_⟩
  have k0 := upd_same (H := H1) (a := m) (o := .frz od (.dK (dK kvs)))
  have back : ∀ H', Same (upd H1 m (.frz od (.dK (dK kvs)))) H' → Same H1 (upd H' m (.dK (dK kvs))) := fun H' s2 b o e => by
    by_cases c : b = m
    · rw [c, upd_same]; rw [c, hmd] at e; exact e
    · rw [upd_ne c]; exact s2 _ _ (by rw [upd_ne c]; exact e)
  refine ⟨_, rfl, m, od, rfl, ?_⟩
  generalize upd H1 m (.frz od (.dK (dK kvs))) = H0 at k0 back ⊢
  refine .inl ⟨_, k0, fun D hD => ?_⟩
  have nDm : D ≠ m := fun z => by rw [z, k0] at hD; cases hD
  refine lc_it walk_keys (fun i H' => Same H0 H' ∧ H' D = some (.lst ((badK (ks.take i)).map V.str))) ⟨same_new hD _, upd_same⟩ (fun i H' _ h => h.1 _ _ k0) (fun i x H9 H2 hi hP hx => ?_) (fun H2 hP => ?_)
  · obtain ⟨rfl, kx, vx, hx, rfl⟩ := hx
    obtain ⟨s2, d2⟩ := hP
    have hx : (kvs.map fun e => ((Sum.inr e.1 : Key), e.2))[i]? = some (kx, vx) := hx
    rw [List.getElem?_map] at hx
    obtain ⟨e0, he0, hee⟩ := Option.map_eq_some_iff.mp hx
    cases hee
    have hk : ks[i]? = some e0.1 := by rw [← hl, List.getElem?_map, he0]; rfl
    have hlt : i < ks.length := (List.getElem?_eq_some_iff.mp hk).1
    have lan : ((badK (ks.take i)).map V.str).length < PySem.sizeLine := by
      rw [List.length_map, sizeLine_eq]
      have h2 := List.length_filter_le ownB (ks.take i)
      have h3 : (ks.take i).length ≤ ks.length := List.length_take_le' _ _
      show ((ks.take i).filter ownB).length < _
      omega
    have tk : badK (ks.take (i + 1)) = if ownB e0.1 = true then badK (ks.take i) ++ [e0.1] else badK (ks.take i) := by
      show (ks.take (i + 1)).filter ownB = _
      rw [take_more2 hk, List.filter_append]
      by_cases q : ownB e0.1 = true
      · rw [if_pos q, List.filter_cons_of_pos q, List.filter_nil]
      · rw [if_neg q, List.filter_cons_of_neg q, List.filter_nil, List.append_nil]
    refine ⟨rfl, ?_⟩
    have e0v := own_in e0.1
    refine ⟨_, rfl, _, _, rfl, .inr (T.kt_OWN_FIELDS _), rfl, rfl, ?_⟩
    cases q : ownB e0.1 with
    | true =>
      rw [q] at e0v
      rw [if_pos q] at tk
      refine ⟨_, rfl, iteT' e0v ?_⟩
      refine ⟨_, rfl, ?_⟩
      refine ⟨_, d2, lan, fun b o hb => ?_, by rw [upd_same, tk, List.map_append]; rfl⟩
      rw [upd_ne (ne_of_none hb hD)]; exact s2 _ _ hb
    | false =>
      rw [q] at e0v
      rw [if_neg (by rw [q]; exact Bool.false_ne_true)] at tk
      refine ⟨_, rfl, iteF' e0v ?_⟩
      exact ⟨s2, by rw [tk]; exact d2⟩
  obtain ⟨s2, d2⟩ := hP
  refine ⟨s2 _ _ k0, ?_⟩
  have b2 := back _ s2
  have hlk : badK (ks.take (dK kvs).length) = badK ks := by rw [List.take_of_length_le (by rw [List.length_map]; omega)]
  rw [hlk] at d2
  have d3 : upd H2 m (.dK (dK kvs)) D = some (.lst ((badK ks).map V.str)) := by rw [upd_ne nDm]; exact d2
  generalize upd H2 m (.dK (dK kvs)) = H3 at b2 d3 ⊢
  have s3 := s1.trans b2
  have lbk : (badK ks).length < 64 := Nat.lt_of_le_of_lt (List.length_filter_le _ _) (by omega)
  refine ⟨D, badK ks, rfl, SqL.of d3, lbk, fun ys q hp hso hq => ?_⟩
  have s4 := s3.trans (same_new hq (.lst (ys.map V.str)))
  have q4 := upd_same (H := H3) (a := q) (o := .lst (ys.map V.str))
  have m4 : HD (upd H3 q (.lst (ys.map V.str))) (.dct ks fe) Pm (.ref m) := hm.same (b2.trans (same_new hq _))
  generalize upd H3 q (.lst (ys.map V.str)) = H4 at s4 q4 m4 ⊢
  -- if bad != []
  refine ⟨_, rfl, (by show 0 ≤ sizeLine; decide), fun q2 hq2 => ?_⟩
  have s5 := s4.trans (same_new hq2 (.lst []))
  have q5 := same_new hq2 (.lst []) _ _ q4
  have m5 : HD (upd H4 q2 (.lst [])) (.dct ks fe) Pm (.ref m) := m4.same (same_new hq2 _)
  have z5 := upd_same (H := H4) (a := q2) (o := .lst [])
  generalize upd H4 q2 (.lst []) = H5 at s5 q5 m5 z5 ⊢
  refine ⟨q, q2, ys.map V.str, rfl, rfl, SqL.of q5, SqL.of z5, ?_⟩
  cases ys with
  | cons z zs =>
    refine ⟨_, rfl, iteT' rfl ?_⟩
    refine ⟨_, rfl, q, _, 0, V.str z, rfl, rfl, SqL.of q5, (show atI _ ((0 : Nat) : Int) = _ from atI_nat (by simp)), _, rfl, fun d hd => ?_⟩
    exact hE z zs hp hso H5 d s5 hd
  | nil =>
    have eb : badK ks = [] := hp.symm.eq_nil
    refine ⟨_, rfl, iteF' rfl ?_⟩
    have g1 := s5 _ _ hy
    have g2 := s5 _ _ gna
    refine ⟨_, rfl, _, rfl, _, rfl, y, dy, fs, rfl, g1, hln, _, rfl, y, dy, na, fs, nms, i, rfl, g1, hna, g2, hz, hlv, _, rfl, _, rfl, _, rfl, y, _, dy, fs, _, rfl, g1, T.c_Yard, T.n_Yard_clock, hck, _, rfl, fun x dx hx hdx hne => ?_⟩
    have s6 : Same H5 (upd (upd H5 dx (.own x)) x (.ins (CR K) dx [])) := (same_new hdx _).trans (same_new (by rw [upd_ne (Ne.symm hne)]; exact hx) _)
    have ha6 : HD (upd (upd H5 dx (.own x)) x (.ins (CR K) dx [])) (.lst n f) (fun b => Pa b ∧ H b ≠ none) args ∨ HD (upd (upd H5 dx (.own x)) x (.ins (CR K) dx [])) (.tup n f) (fun b => Pa b ∧ H b ≠ none) args := ha.imp (fun h => (h.live.same s5).same s6) (fun h => (h.live.same s5).same s6)
    refine ⟨x, dx, name, _, msg, i, clk, args, .ref m, n, f, .dct ks fe, (fun b => Pa b ∧ H b ≠ none), (fun b => Pm b ∧ H5 b ≠ none), rfl, upd_same, fun z => z.2 (s5.free hx), fun z => z.2 hx, ha6, hda, (m5.live).same s6, hde, fun H' g e b7 h7 hg he => ⟨rfl, ?_⟩⟩
    have sH : Same H5 H' := made_same hx hdx b7
    have f0 : ∀ b, upd (upd H5 dx (.own x)) x (.ins (CR K) dx []) b = none → H b = none ∧ b ≠ x := fun b hb => ⟨s5.free (upd_none (upd_none hb).2).2, (upd_none hb).1⟩
    exact hQ eb H' x dx g e (s5.trans sH) (s5.free hx) h7 (hg.wide f0) (he.wide f0)
theorem len_make : ∀ vs H Q E, spMakeD K vs H Q E → vs.length = 6 := fun vs H Q E h => by
  obtain ⟨y, dy, na, nu, fs, nms, U, name, msg, lv, args, extra, clk, n, f, ks, fe, Pa, Pe, rfl, _⟩ := h; rfl
theorem ok_make_record {f : Addr} (T : Txt P w K mg) (F : Stands K "make_record" "Yard.make_record" s_Yard_make_record [.ref (He.dflAt ("Yard", some "make_record") 0 K), .non] f)
    (c_Yard_level_of : RQ.CallX P w K mg base 3 (He.ma K (He.ga K "Yard") "level_of") ["self", "level"] [] (spLevelX K)) (c_Yard_level_name : Callable P w K mg base 1 (He.ma K (He.ga K "Yard") "level_name") ["self", "level"] [] (spLevelName K))
    (c_BadExtra_init : Callable P w K mg base 1 (He.ma K (He.ga K "BadExtra") "__init__") ["self", "name"] [] (RQ.spExcInit K "name"))
    (c_LogRecord_init : Callable P w K mg base 6 (He.ma K (He.ga K "LogRecord") "__init__") ["self", "name", "levelno", "levelname", "msg", "args", "created", "extra"] [] (spRecD K)) :
    RQ.CallX P w K mg base 9 f ["self", "name", "level", "msg", "args", "extra"] [] (spMakeD K) :=
  RQ.stands_callX F sc_Yard_make_record 6 2 len_make (fun cdv A outer s H vs Q E hr h => body_make T hr h c_Yard_level_of c_Yard_level_name c_BadExtra_init c_LogRecord_init) (fun z => nomatch z) fun _ => ⟨rfl, fun _ _ _ _ _ _ _ us its hl hi => match us, hl, its, hi with | [_, _, _, _, _, _], _, [_, _], _ => ⟨_, rfl, rfl⟩⟩
theorem ok_make_record1 {f : Addr} (T : Txt P w K mg) (F : Stands K "make_record" "Yard.make_record" s_Yard_make_record [.ref (He.dflAt ("Yard", some "make_record") 0 K), .non] f)
    (c_Yard_level_of : RQ.CallX P w K mg base 3 (He.ma K (He.ga K "Yard") "level_of") ["self", "level"] [] (spLevelX K)) (c_Yard_level_name : Callable P w K mg base 1 (He.ma K (He.ga K "Yard") "level_name") ["self", "level"] [] (spLevelName K))
    (c_BadExtra_init : Callable P w K mg base 1 (He.ma K (He.ga K "BadExtra") "__init__") ["self", "name"] [] (RQ.spExcInit K "name"))
    (c_LogRecord_init : Callable P w K mg base 6 (He.ma K (He.ga K "LogRecord") "__init__") ["self", "name", "levelno", "levelname", "msg", "args", "created", "extra"] [] (spRecD K)) :
    RQ.CallX P w K mg base 9 f ["self", "name", "level", "msg", "args", "extra"] [.non] (spMakeD K) :=
  RQ.stands_callX F sc_Yard_make_record 5 1 len_make (fun cdv A outer s H vs Q E hr h => body_make T hr h c_Yard_level_of c_Yard_level_name c_BadExtra_init c_LogRecord_init) (fun z => nomatch z) fun _ => ⟨rfl, fun _ _ _ _ _ _ _ us its hl hi => match us, hl, its, hi with | [_, _, _, _, _], _, [_, _], _ => ⟨_, rfl, rfl⟩⟩
end
end K17

set_option Elab.async false
set_option linter.all false
set_option maxRecDepth 100000
set_option maxHeartbeats 0

namespace K17
open PySem PySem.Spec PyProof.Rows L2 RC
section
variable {P : Program} {w : World} {K : PySem.W.Frag} {mg : Str → Option Value} {base : Heap}
/-! ### a sign of a text, a text -/
def spPickS : Sp := fun vs H Q _ => ∃ (s l : Addr) (n : Nat) (z : Str), vs = [.ref s, .str z] ∧ Stm H s l n ∧ n ≤ 1000000 ∧ 1 ≤ z.length ∧ z.length ≤ 1000 ∧ ∀ (H' : Hp) (c : Nat), c ∈ z.cps.toList → Old s l H H' → Stm H' s l (n + 1) → Q (.str ⟨#[c]⟩) H'
theorem ok_pickS {f : Addr} (T : Txt P w K mg) (F : Stands K "_law_pick" "_law_pick" s__law_pick [] f) (c__law_draw : Callable P w K mg base 1 (He.ga K "_law_draw") ["_law_stream", "_law_many"] [] spDraw) : Callable P w K mg base 2 f ["_law_stream", "_law_some"] [] spPickS := by
  refine F.call0 sc__law_pick (fun vs H Q E h => ?_) (fun cdv A outer s H vs Q E hr h => ?_) (fun _ _ _ _ _ _ us hl => match us, hl with | [_, _], _ => rfl)
  · obtain ⟨s, l, n, z, rfl, _⟩ := h; rfl
  obtain ⟨s, l, n, z, rfl, hs, hn, hx1, hx2, hQ⟩ := h
  refine ⟨_, (pss_one (ps_ret (RA.PE.or (pe_ix ix_list (pv 1) (pe_fn T.g__law_draw c__law_draw (hr.mono (by first | decide | exact Nat.le_refl _)) (by rfl) (pa_cons (pv 0) (pa_cons (pe_callB call_len (by rfl) T.b_len (by decide +kernel) (pa_cons (pv 1) pa_nil)) pa_nil))) (fun _ _ => rfl)) (pe_ix ix_str (pv 1) (pe_fn T.g__law_draw c__law_draw (hr.mono (by first | decide | exact Nat.le_refl _)) (by rfl) (pa_cons (pv 0) (pa_cons (pe_callB call_len (by rfl) T.b_len (by decide +kernel) (pa_cons (pv 1) pa_nil)) pa_nil))) (fun _ _ => rfl))))), ?_⟩
  have hz2 : z.length ≤ sizeLine := by rw [sizeLine_eq]; omega
  have hl : z.cps.toList.length = z.length := Array.length_toList ..
  refine .inr ?_
  walk_at "go"
  refine ⟨⟨hz2, rfl⟩, s, l, n, z.length, rfl, hs, hn, by omega, by omega, fun H' d h1 h2 h3 h4 => ?_⟩
  obtain ⟨j, rfl⟩ := Int.eq_ofNat_of_zero_le h3
  have hj : j < z.cps.toList.length := by omega
  exact ⟨z, _, z.cps.toList[j], rfl, rfl, hz2, atI_nat (by simp [hj]), hQ H' _ (List.getElem_mem hj) h1 h2⟩
theorem join_size (y : Str) : ∀ ps : List Str, (Txt.join y ps).length ≤ (ps.map (·.length)).sum + ps.length * y.length := by
  intro ps
  rw [TL.join_eq, TL.len_tl, TL.tl_join]
  induction ps with
  | nil => exact Nat.zero_le _
  | cons p r ih =>
    cases r with
    | nil => show (TL.tl p).length ≤ _; rw [← TL.len_tl]; simp
    | cons q t =>
      show (TL.tl p ++ (TL.tl y ++ TL.joinL (TL.tl y) ((q :: t).map TL.tl))).length ≤ _
      rw [List.length_append, List.length_append, ← TL.len_tl, ← TL.len_tl]
      simp only [List.map_cons, List.sum_cons, List.length_cons] at ih ⊢
      rw [Nat.succ_mul]
      omega
theorem join_mem : ∀ (ps : List Str) (c : Nat), c ∈ (Txt.join "" ps).cps.toList → ∃ p ∈ ps, c ∈ p.cps.toList := fun ps c h => by
  rw [TL.join_eq] at h
  replace h : c ∈ TL.tl (Str.join "" ps) := h
  rw [TL.tl_join] at h
  induction ps with
  | nil => cases h
  | cons p r ih =>
    cases r with
    | nil => exact ⟨p, List.mem_cons_self, h⟩
    | cons q t =>
      replace h : c ∈ TL.tl p ++ (TL.tl "" ++ TL.joinL (TL.tl "") ((q :: t).map TL.tl)) := h
      rcases List.mem_append.mp h with h | h
      · exact ⟨p, List.mem_cons_self, h⟩
      · rcases List.mem_append.mp h with h | h
        · cases h
        · obtain ⟨x, hx, hc⟩ := ih h
          exact ⟨x, List.mem_cons_of_mem _ hx, hc⟩
def spText : Sp := fun vs H Q _ => ∃ (s l : Addr) (n : Nat) (z : Str) (most : Int), vs = [.ref s, .str z, .int most] ∧ Stm H s l n ∧ n ≤ 900000 ∧ 1 ≤ z.length ∧ z.length ≤ 1000 ∧ 0 ≤ most ∧ most ≤ 50 ∧
  ∀ (H' : Hp) (r : Str), Old s l H H' → Stm H' s l (n + 100) → (r.length : Int) ≤ most → (∀ c ∈ r.cps.toList, c ∈ z.cps.toList) → Q (.str r) H'
theorem ok_text {f : Addr} (T : Txt P w K mg) (F : Stands K "_law_text" "_law_text" s__law_text [] f) (c__law_draw : Callable P w K mg base 1 (He.ga K "_law_draw") ["_law_stream", "_law_many"] [] spDraw)
    (c__law_pick : Callable P w K mg base 2 (He.ga K "_law_pick") ["_law_stream", "_law_some"] [] spPickS) : Callable P w K mg base 3 f ["_law_stream", "_law_signs", "_law_most"] [] spText := by
  refine F.call0 sc__law_text (fun vs H Q E h => ?_) (fun cdv A outer s0 H vs Q E hr h => ?_) (fun _ _ _ _ _ _ us hl => match us, hl with | [_, _, _], _ => rfl)
  · obtain ⟨s, l, n, z, most, rfl, _⟩ := h; rfl
  obtain ⟨s, l, n, z, most, rfl, hs, hn, hz1, hz2, hm1, hm2, hQ⟩ := h
  refine ⟨_, (pss_one (ps_ret (pe_join pe_str (pe_lc (own := [("_law_k", 3)]) (by rfl) sc__law_text.nd (pi_range1 (by rfl) T.b_range (pa_cons (pe_fn T.g__law_draw c__law_draw (hr.mono (by first | decide | exact Nat.le_refl _)) (by rfl) (pa_cons (pv 0) (pa_cons (pe_op op_add (pv 2) pe_int) pa_nil))) pa_nil)) (blkOk_by (own := [("_law_k", 3)]) (N := nm__law_text) (sc := defScope s__law_text) (by decide +kernel)) (fun _ _ _ _ _ => (pg_name (i := 3) sc__law_text.nd rfl (by first | exact Or.inl rfl | exact Or.inr rfl))) (fun _ _ _ _ _ => pts_nil) (fun _ _ _ _ _ => (pe_fn T.g__law_pick c__law_pick (hr.mono (by first | decide | exact Nat.le_refl _)) (by rfl) (pa_cons (pv 0) (pa_cons (pv 1) pa_nil)))))))), ?_⟩
  have eK : (cxOf CX0 P w K mg base nm__law_text "_law_text" (defScope s__law_text) f cdv A outer s0 H E).nox.K = K := rfl
  rw [eK]
  clear eK
  refine ⟨⟨_, rfl⟩, _, rfl, _, rfl, _, _, rfl, rfl, s, l, n, most + 1, rfl, hs, by omega, by omega, by omega, fun H1 d h1 h2 h3 h4 => ?_⟩
  obtain ⟨k, rfl⟩ := Int.eq_ofNat_of_zero_le h3
  refine ⟨(k : Int), rfl, by omega, by omega, fun D hD => ?_⟩
  obtain ⟨nDs, nDl⟩ := stm_new h2 hD
  have en : ((k : Nat) : Int).toNat = k := rfl
  refine lc_it (n := k) walk_range (fun i H' => Old s l H1 H' ∧ Stm H' s l (n + 1 + i) ∧ ∃ ps : List Str, (∀ p ∈ ps, ∀ c ∈ p.cps.toList, c ∈ z.cps.toList) ∧ ps.length = i ∧ (ps.map (·.length)).sum = i ∧ H' D = some (.lst (ps.map V.str))) ⟨Old.of_same (same_new hD _), h2.same (same_new hD _), [], (fun _ h => nomatch h), rfl, rfl, upd_same⟩ (fun _ _ _ _ => trivial) (fun i x H2 H3 hi hp hy => ?_) (fun H2 h => ?_)
  · obtain ⟨rfl, rfl⟩ := hy
    obtain ⟨g1, g2, ps, gm, g3, g4, g5⟩ := hp
    refine ⟨rfl, yes_if ?_⟩
    refine ⟨_, rfl, _, rfl, s, l, n + 1 + i, z, rfl, g2, by omega, hz1, hz2, fun H4 c hc k1 k2 => ?_⟩
    have gD := k1 _ _ nDs nDl g5
    refine ⟨_, gD, by rw [List.length_map, sizeLine_eq]; omega, ?_, ?_, ps ++ [⟨#[c]⟩], (fun p hp d hd => (List.mem_append.mp hp).elim (fun h => gm p h d hd) fun h => by cases List.mem_singleton.mp h; cases List.mem_singleton.mp hd; exact hc), by simp [g3], ?_, by rw [upd_same, List.map_append]; rfl⟩
    · exact old_new (g1.trans k1) hD
    · exact k2.put nDs nDl
    · rw [List.map_append, List.sum_append, g4]; rfl
  · obtain ⟨g1, g2, ps, gm, g3, g4, g5⟩ := h
    have hz0 : (("" : Str)).length = 0 := rfl
    refine ⟨"", D, ps, rfl, rfl, .inl (SqL.of g5), by rw [g4, hz0]; omega, hQ _ _ (h1.trans g1) (g2.mono (by omega)) ?_ fun c hc => ?_⟩
    · have := join_size "" ps
      rw [g4, hz0] at this
      omega
    · obtain ⟨p, hp, hc⟩ := join_mem ps c hc
      exact gm p hp c hc
end
end K17

set_option Elab.async false
set_option linter.all false
set_option maxRecDepth 100000
set_option maxHeartbeats 0
namespace K17
open PySem PySem.Spec PyProof.Rows L2 RC
section
variable {P : Program} {w : World} {K : PySem.W.Frag} {mg : Str → Option Value} {base : Heap}
/-! ### what is shown of data -/
def Dt.py : Dt → PyData
  | .non => .none
  | .bl b => .bool b
  | .int i => .int i
  | .str s => .str s
  | .lst n f => .list ((List.range n).map fun i => (f i).py)
  | .tup n f => .tuple ((List.range n).map fun i => (f i).py)
  | .dct ks f => .dict (ks.zipIdx.map fun p => (.str p.1, (f p.2).py))
theorem pr_of {α β : Type} {F : α → β → Prop} : ∀ (xs : List α) (ys : List β), xs.length = ys.length → (∀ (i : Nat) x y, xs[i]? = some x → ys[i]? = some y → F x y) → Paired F xs ys
  | [], [], _, _ => .nil
  | [], _ :: _, h, _ => by cases h
  | _ :: _, [], h, _ => by cases h
  | x :: xs, y :: ys, h, f => .cons (f 0 x y rfl rfl) (pr_of xs ys (by simpa using h) fun i a b ha hb => f (i + 1) a b ha hb)
theorem nd_of {H : Hp} : ∀ {n : Nat} {t : Dt} {P : Addr → Prop} {x : V}, HD H t P x → Dep n t → RNd.ND H n x t.py
  | 0, t, _, _, _, d => by cases t <;> exact d.elim
  | n + 1, .non, _, _, h, _ => by cases h; exact .inl .non
  | n + 1, .bl b, _, _, h, _ => by cases h; exact .inl (.bl b)
  | n + 1, .int i, _, _, h, _ => by cases h; exact .inl (.int i)
  | n + 1, .str s, _, _, h, _ => by cases h; exact .inl (.str s)
  | n + 1, .lst m f, P, x, h, d => by
    obtain ⟨a, xs, P', rfl, _, _, _, ha, hl, _, hi⟩ := h
    refine .inr (.inl ⟨a, xs, _, rfl, rfl, ha, pr_of _ _ (by rw [List.length_map, List.length_range, hl]) fun i v y hv hy => ?_⟩)
    rw [List.getElem?_map] at hy
    obtain ⟨j, hj, rfl⟩ := Option.map_eq_some_iff.mp hy
    have hij : i = j ∧ j < m := by
      have := List.getElem?_eq_some_iff.mp hj
      obtain ⟨h1, h2⟩ := this
      rw [List.getElem_range] at h2
      exact ⟨h2, by rw [← h2]; simpa using h1⟩
    obtain ⟨rfl, hm⟩ := hij
    exact nd_of (hi i v hv) (d i hm)
  | n + 1, .tup m f, P, x, h, d => by
    obtain ⟨a, xs, P', rfl, _, _, _, ha, hl, _, hi⟩ := h
    refine .inr (.inr (.inl ⟨a, xs, _, rfl, rfl, ha, pr_of _ _ (by rw [List.length_map, List.length_range, hl]) fun i v y hv hy => ?_⟩))
    rw [List.getElem?_map] at hy
    obtain ⟨j, hj, rfl⟩ := Option.map_eq_some_iff.mp hy
    have hij : i = j ∧ j < m := by
      have := List.getElem?_eq_some_iff.mp hj
      obtain ⟨h1, h2⟩ := this
      rw [List.getElem_range] at h2
      exact ⟨h2, by rw [← h2]; simpa using h1⟩
    obtain ⟨rfl, hm⟩ := hij
    exact nd_of (hi i v hv) (d i hm)
  | n + 1, .dct ks f, P, x, h, d => by
    obtain ⟨a, kvs, P', rfl, _, _, _, ha, hl, _, hn, hi⟩ := h
    have hkl : kvs.length = ks.length := by rw [← hl, List.length_map]
    refine .inr (.inr (.inr ⟨a, _, _, rfl, rfl, ha, pr_of _ _ (by rw [List.length_map, List.length_map, List.length_zipIdx, hkl]) fun i v y hv hy => ?_⟩))
    rw [List.getElem?_map] at hv hy
    obtain ⟨e, he, rfl⟩ := Option.map_eq_some_iff.mp hv
    obtain ⟨q, hq, rfl⟩ := Option.map_eq_some_iff.mp hy
    rw [List.getElem?_zipIdx] at hq
    obtain ⟨z, hz, rfl⟩ := Option.map_eq_some_iff.mp hq
    have hez : e.1 = z := by
      have : (kvs.map (·.1))[i]? = some e.1 := by rw [List.getElem?_map, he]; rfl
      rw [hl, hz] at this
      exact (Option.some.inj this).symm
    refine ⟨?_, ?_⟩
    · show RGd.Flat (.str e.1) (.str z)
      rw [hez]; exact .str z
    · have := nd_of (hi i e he) (d i (List.getElem?_eq_some_iff.mp hz).1)
      simpa using this
theorem showAll_map (ds : List PyData) : PyData.showableAll ds = ds.all (·.showable) := by
  induction ds with
  | nil => rw [PyData.showableAll]; rfl
  | cons d ds ih => rw [PyData.showableAll, ih]; rfl
theorem shownAll_map (ds : List PyData) : PyData.shownAll ds = ds.map (·.shown) := by
  induction ds with
  | nil => rw [PyData.shownAll]; rfl
  | cons d ds ih => rw [PyData.shownAll, ih]; rfl
theorem showKv_map (ds : List (PyData × PyData)) : PyData.showableKv ds = ds.all fun p => p.1.showable && p.2.showable := by
  induction ds with
  | nil => rw [PyData.showableKv]; rfl
  | cons d ds ih =>
    obtain ⟨k, v⟩ := d
    rw [PyData.showableKv, ih]; rfl
theorem shownKv_map (ds : List (PyData × PyData)) : PyData.shownKv ds = ds.map fun p => (p.1.shown ++ (": " : Str) ++ p.2.shown : Str) := by
  induction ds with
  | nil => rw [PyData.shownKv]; rfl
  | cons d ds ih =>
    obtain ⟨k, v⟩ := d
    rw [PyData.shownKv, ih]; rfl
theorem log_of {i : Int} (h : i.natAbs < 2 ^ 63) : i.natAbs.log2 < 63 := by
  by_cases c : i.natAbs = 0
  · rw [c]; decide
  · exact (Nat.log2_lt c).mpr h
theorem py_show : ∀ {t : Dt}, Men t → t.py.showable = true
  | .non, _ => by rw [Dt.py, PyData.showable]
  | .bl b, _ => by rw [Dt.py, PyData.showable]
  | .str s, _ => by rw [Dt.py, PyData.showable]
  | .int i, h => by
    have := log_of h
    rw [Dt.py, PyData.showable]; exact decide_eq_true (by omega)
  | .lst n f, h => by
    rw [Dt.py, PyData.showable, showAll_map]
    refine List.all_eq_true.mpr fun d hd => ?_
    obtain ⟨i, hi, rfl⟩ := List.mem_map.mp hd
    exact py_show (h.2 i (List.mem_range.mp hi))
  | .tup n f, h => by
    rw [Dt.py, PyData.showable, showAll_map]
    refine List.all_eq_true.mpr fun d hd => ?_
    obtain ⟨i, hi, rfl⟩ := List.mem_map.mp hd
    exact py_show (h.2 i (List.mem_range.mp hi))
  | .dct ks f, h => by
    rw [Dt.py, PyData.showable, showKv_map]
    refine List.all_eq_true.mpr fun d hd => ?_
    obtain ⟨⟨k, i⟩, hi, rfl⟩ := List.mem_map.mp hd
    have hi2 : i < ks.length := by
      have := List.mem_zipIdx_iff_getElem?.mp hi
      exact (List.getElem?_eq_some_iff.mp this).1
    show (PyData.showable (.str k) && (f i).py.showable) = true
    rw [py_show (h.2 i hi2), PyData.showable]; rfl
def shB : Nat → Nat
  | 0 => 10
  | n + 1 => 10 + 3 * (shB n + 20)
theorem shB_60 (n : Nat) : 80 ≤ shB (n + 1) := by
  have h : ∀ n, 10 ≤ shB n := fun n => by cases n <;> simp [shB] <;> omega
  have := h n
  show 80 ≤ 10 + 3 * (shB n + 20)
  omega
theorem piled_le {b : Nat} : ∀ ts : List Str, (∀ t ∈ ts, t.length ≤ b) → piled ts ≤ ts.length * (b + 2)
  | [], _ => by rw [piled_nil]; omega
  | t :: ts, h => by
    have h1 := h t List.mem_cons_self
    have h2 := piled_le ts fun x hx => h x (List.mem_cons_of_mem _ hx)
    rw [piled_cons, List.length_cons, Nat.succ_mul]; omega
theorem lsts_le (ts : List Str) : (listText ts).length ≤ 2 + piled ts := by
  unfold listText
  rw [strLen_append]
  have e1 : (("]" : Str)).length = 1 := by decide +kernel
  cases ts with
  | nil =>
    show ("[" : Str).length + _ ≤ _
    rw [e1, show ("[" : Str).length = 1 by decide +kernel]; omega
  | cons t r =>
    have := textFrom_length_pos r 1 (("[" : Str) ++ (if 0 > 0 then ", " else "" : String) ++ t) (by decide)
    show (textFrom 1 (("[" : Str) ++ (if 0 > 0 then ", " else "" : String) ++ t) r).length + _ ≤ _
    rw [this, strLen_append, strLen_append, piled_cons, e1]
    have e2 : ("[" : Str).length = 1 := by decide +kernel
    have e3 : (Str.ofString (if 0 > 0 then ", " else "" : String)).length = 0 := by decide +kernel
    rw [e2, e3]; omega
theorem join_le (ts : List Str) : (Str.join ", " ts).length ≤ piled ts := by
  cases ts with
  | nil => exact Nat.zero_le _
  | cons t r => have := join_length_add (t :: r) (by simp); omega
theorem tups_le (ts : List Str) : (tupleText ts).length ≤ 3 + piled ts := by
  unfold tupleText
  rw [strLen_append, strLen_append, show ("(" : Str).length = 1 by decide +kernel]
  have h1 := join_le ts
  have h2 : (Str.ofString (if ts.length == 1 then ",)" else ")" : String)).length ≤ 2 := by split <;> decide +kernel
  omega
theorem dcts_le (ts : List Str) : (dictText ts).length ≤ 2 + piled ts := by
  unfold dictText
  rw [strLen_append, strLen_append, show ("{" : Str).length = 1 by decide +kernel, show ("}" : Str).length = 1 by decide +kernel]
  have h1 := join_le ts
  omega
theorem py_len : ∀ {n : Nat} {t : Dt}, Dep n t → Men t → t.py.shown.length ≤ shB n
  | 0, t, d, _ => by cases t <;> exact d.elim
  | n + 1, .non, _, _ => by
    have := shB_60 n
    rw [Dt.py, PyData.shown, show ("None" : Str).length = 4 by decide +kernel]; omega
  | n + 1, .bl b, _, _ => by
    have := shB_60 n
    rw [Dt.py, PyData.shown]
    have : ∀ b : Bool, (Str.ofString (if b = true then "True" else "False")).length ≤ 5 := by decide +kernel
    have := this b
    cases b <;> simp_all <;> omega
  | n + 1, .int i, _, h => by
    have h0 := shB_60 n
    have h1 := log_of h
    have h2 := RN.len_toString i
    rw [Dt.py, PyData.shown]
    omega
  | n + 1, .str s, _, h => by
    have h0 := shB_60 n
    have h1 := h.2
    rw [Dt.py, PyData.shown]; omega
  | n + 1, .lst m f, d, h => by
    rw [Dt.py, PyData.shown, shownAll_map]
    have h1 := lsts_le (((List.range m).map fun i => (f i).py).map (·.shown))
    have h2 := piled_le (b := shB n) (((List.range m).map fun i => (f i).py).map (·.shown)) fun t ht => by
      obtain ⟨p, hp, rfl⟩ := List.mem_map.mp ht
      obtain ⟨i, hi, rfl⟩ := List.mem_map.mp hp
      exact py_len (d i (List.mem_range.mp hi)) (h.2 i (List.mem_range.mp hi))
    rw [List.length_map, List.length_map, List.length_range] at h2
    have h3 : m * (shB n + 2) ≤ 3 * (shB n + 2) := Nat.mul_le_mul_right _ h.1
    show _ ≤ 10 + 3 * (shB n + 20)
    omega
  | n + 1, .tup m f, d, h => by
    rw [Dt.py, PyData.shown, shownAll_map]
    have h1 := tups_le (((List.range m).map fun i => (f i).py).map (·.shown))
    have h2 := piled_le (b := shB n) (((List.range m).map fun i => (f i).py).map (·.shown)) fun t ht => by
      obtain ⟨p, hp, rfl⟩ := List.mem_map.mp ht
      obtain ⟨i, hi, rfl⟩ := List.mem_map.mp hp
      exact py_len (d i (List.mem_range.mp hi)) (h.2 i (List.mem_range.mp hi))
    rw [List.length_map, List.length_map, List.length_range] at h2
    have h3 : m * (shB n + 2) ≤ 3 * (shB n + 2) := Nat.mul_le_mul_right _ h.1
    show _ ≤ 10 + 3 * (shB n + 20)
    omega
  | n + 1, .dct ks f, d, h => by
    rw [Dt.py, PyData.shown, shownKv_map]
    have h1 := dcts_le ((ks.zipIdx.map fun p => ((.str p.1 : PyData), (f p.2).py)).map fun p => (p.1.shown ++ (": " : Str) ++ p.2.shown : Str))
    have h2 := piled_le (b := shB n + 14) ((ks.zipIdx.map fun p => ((.str p.1 : PyData), (f p.2).py)).map fun p => (p.1.shown ++ (": " : Str) ++ p.2.shown : Str)) fun t ht => by
      obtain ⟨p, hp, rfl⟩ := List.mem_map.mp ht
      obtain ⟨⟨k, i⟩, hi, rfl⟩ := List.mem_map.mp hp
      have hk := List.mem_zipIdx_iff_getElem?.mp hi
      have hi2 : i < ks.length := (List.getElem?_eq_some_iff.mp hk).1
      have h5 := py_len (d i hi2) (h.2 i hi2)
      have h6 := (h.1.2 k (List.mem_of_getElem? hk)).2
      rw [strLen_append, strLen_append, PyData.shown, show (": " : Str).length = 2 by decide +kernel]
      show (reprText k).length + 2 + (f i).py.shown.length ≤ _
      omega
    rw [List.length_map, List.length_map, List.length_zipIdx] at h2
    have h3 : ks.length * (shB n + 14 + 2) ≤ 3 * (shB n + 14 + 2) := Nat.mul_le_mul_right _ h.1.1
    show _ ≤ 10 + 3 * (shB n + 20)
    omega
theorem py_depth : ∀ {n : Nat} {t : Dt}, Dep n t → t.py.depth ≤ n
  | 0, t, d => by cases t <;> exact d.elim
  | n + 1, .non, _ => by rw [Dt.py, PyData.depth]; omega
  | n + 1, .bl b, _ => by rw [Dt.py, PyData.depth]; omega
  | n + 1, .int i, _ => by rw [Dt.py, PyData.depth]; omega
  | n + 1, .str s, _ => by rw [Dt.py, PyData.depth]; omega
  | n + 1, .lst m f, d => by
    rw [Dt.py, PyData.depth]
    have : ∀ l : List Nat, (∀ i ∈ l, (f i).py.depth ≤ n) → PyData.depthAll (l.map fun i => (f i).py) ≤ n := fun l => by
      induction l with
      | nil => intro _; rw [List.map_nil, PyData.depthAll]; omega
      | cons i l ih =>
        intro h
        rw [List.map_cons, PyData.depthAll]
        exact Nat.max_le.mpr ⟨h i List.mem_cons_self, ih fun j hj => h j (List.mem_cons_of_mem _ hj)⟩
    have := this (List.range m) fun i hi => py_depth (d i (List.mem_range.mp hi))
    omega
  | n + 1, .tup m f, d => by
    rw [Dt.py, PyData.depth]
    have : ∀ l : List Nat, (∀ i ∈ l, (f i).py.depth ≤ n) → PyData.depthAll (l.map fun i => (f i).py) ≤ n := fun l => by
      induction l with
      | nil => intro _; rw [List.map_nil, PyData.depthAll]; omega
      | cons i l ih =>
        intro h
        rw [List.map_cons, PyData.depthAll]
        exact Nat.max_le.mpr ⟨h i List.mem_cons_self, ih fun j hj => h j (List.mem_cons_of_mem _ hj)⟩
    have := this (List.range m) fun i hi => py_depth (d i (List.mem_range.mp hi))
    omega
  | n + 1, .dct ks f, d => by
    rw [Dt.py, PyData.depth]
    have : ∀ l : List (Str × Nat), (∀ p ∈ l, (f p.2).py.depth ≤ n) → PyData.depthKv (l.map fun p => ((.str p.1 : PyData), (f p.2).py)) ≤ n := fun l => by
      induction l with
      | nil => intro _; rw [List.map_nil, PyData.depthKv]; omega
      | cons i l ih =>
        intro h
        rw [List.map_cons, PyData.depthKv]
        have h1 := h i List.mem_cons_self
        have h2 := ih fun j hj => h j (List.mem_cons_of_mem _ hj)
        have h3 : PyData.depth (.str i.1) = 0 := by rw [PyData.depth]
        omega
    have := this ks.zipIdx fun p hp => py_depth (d p.2 (List.getElem?_eq_some_iff.mp (List.mem_zipIdx_iff_getElem?.mp hp)).1)
    omega
end
end K17

set_option Elab.async false
set_option linter.all false
set_option maxRecDepth 100000
set_option maxHeartbeats 0
namespace K17
open PySem PySem.Spec PyProof.Rows L2 RC
section
variable {P : Program} {w : World} {K : PySem.W.Frag} {mg : Str → Option Value} {base : Heap}
/-! ### the plain law of messages -/
abbrev SS := List Nat
abbrev tx (l : List Nat) : Str := ⟨l.toArray⟩
/-- a message read from the left, with the texts of its args -/
inductive PM : SS → List SS → Option SS → Prop
  | nil : PM [] [] (some [])
  | left {a : SS} {as : List SS} : PM [] (a :: as) none
  | two {c : Nat} {r : SS} {as : List SS} {o : Option SS} : c = 123 ∨ c = 125 → PM r as o → PM (c :: c :: r) as (o.map (c :: ·))
  | ch {c : Nat} {r : SS} {as : List SS} {o : Option SS} : c ≠ 123 → c ≠ 125 → PM r as o → PM (c :: r) as (o.map (c :: ·))
  | arg {r a : SS} {as : List SS} {o : Option SS} : PM r as o → PM (123 :: 125 :: r) (a :: as) (o.map (a ++ ·))
  | bad {c : Nat} {r : SS} {as : List SS} : c = 123 ∨ c = 125 → r.head? ≠ some c → (c = 125 ∨ r.head? ≠ some 125 ∨ as = []) → PM (c :: r) as none
theorem PM.plain {as : List SS} : ∀ {s : SS}, (∀ c ∈ s, c ≠ 123 ∧ c ≠ 125) → as ≠ [] → PM s as none
  | [], _, h => by
    cases as with
    | nil => exact absurd rfl h
    | cons a as => exact .left
  | c :: r, h, k => by
    obtain ⟨h1, h2⟩ := h c List.mem_cons_self
    exact PM.ch (o := none) h1 h2 (PM.plain (fun d hd => h d (List.mem_cons_of_mem _ hd)) k)
theorem PM.total : ∀ (n : Nat) (s : SS) (as : List SS), s.length ≤ n → ∃ o, PM s as o
  | _, [], [], _ => ⟨_, .nil⟩
  | _, [], _ :: _, _ => ⟨_, .left⟩
  | 0, _ :: _, _, h => absurd h (Nat.not_succ_le_zero _)
  | n + 1, c :: r, as, h => by
    have hr : r.length ≤ n := Nat.le_of_succ_le_succ h
    by_cases hc : c = 123 ∨ c = 125
    · by_cases e : r.head? = some c
      · cases r with
        | nil => cases e
        | cons d r =>
          cases e
          obtain ⟨o, ho⟩ := PM.total n r as (Nat.le_of_succ_le hr)
          exact ⟨_, .two hc ho⟩
      · by_cases b : c = 125 ∨ r.head? ≠ some 125 ∨ as = []
        · exact ⟨_, .bad hc e b⟩
        · have c1 : c = 123 := hc.elim id fun z => absurd (.inl z) b
          have c2 : r.head? = some 125 := Classical.byContradiction fun z => b (.inr (.inl z))
          cases as with
          | nil => exact absurd (.inr (.inr rfl)) b
          | cons a as =>
            cases r with
            | nil => cases c2
            | cons d r =>
              cases c2
              obtain ⟨o, ho⟩ := PM.total n r as (Nat.le_of_succ_le hr)
              rw [c1]
              exact ⟨_, .arg ho⟩
    · obtain ⟨o, ho⟩ := PM.total n r as hr
      exact ⟨_, .ch (fun z => hc (.inl z)) (fun z => hc (.inr z)) ho⟩
/-- the text of an arg -/
def argS : V → SS
  | .str z => z.cps.toList
  | .int i => (Str.ofString (toString i)).cps.toList
  | _ => []
/-- args as the text model takes them -/
def PArg (v : V) : Prop := (∃ z : Str, v = .str z ∧ z.length ≤ 2000) ∨ ∃ i : Int, v = .int i ∧ i.natAbs < 2 ^ 63
def catS (vs : List Str) : SS := (vs.map fun z => z.cps.toList).flatten
theorem tx_toList (z : Str) : tx z.cps.toList = z := by
  show (⟨z.cps.toList.toArray⟩ : Str) = z
  rw [Array.toArray_toList]
theorem join_cat : ∀ vs : List Str, Txt.join "" vs = tx (catS vs) := fun vs => by
  refine TL.ext_tl ?_
  rw [TL.join_eq, TL.tl_join]
  show TL.joinL [] (vs.map TL.tl) = TL.tl (tx (catS vs))
  have e : TL.tl (tx (catS vs)) = catS vs := rfl
  rw [e]
  unfold catS
  have e2 : ∀ ws : List (List Nat), TL.joinL [] ws = ws.flatten := fun ws => by
    induction ws with
    | nil => rfl
    | cons a r ih =>
      cases r with
      | nil => show a = a ++ []; rw [List.append_nil]
      | cons b r => show a ++ ([] ++ TL.joinL [] (b :: r)) = _; rw [ih]; rfl
  rw [e2]
theorem catS_len (vs : List Str) : (vs.map (·.length)).sum = (catS vs).length := by
  unfold catS
  rw [List.length_flatten, List.map_map]; rfl
theorem catS_snoc (vs : List Str) (z : Str) : catS (vs ++ [z]) = catS vs ++ z.cps.toList := by unfold catS; simp
end
end K17

set_option Elab.async false
set_option linter.all false
set_option maxRecDepth 100000
set_option maxHeartbeats 0
namespace K17
open PySem PySem.Spec PyProof.Rows L2 RC
section
variable {P : Program} {w : World} {K : PySem.W.Frag} {mg : Str → Option Value} {base : Heap}
/-! ### cuts of texts -/
theorem sIx_nat' {n d k : Nat} (h : k ≤ n) : HT.sIx n d (some (k : Int)) = k := by
  unfold HT.sIx; dsimp only; rw [if_neg (by omega)]; show min ((k : Int).toNat) n = k; omega
theorem cut_nat {z : Str} {a b : Nat} (ha : a ≤ z.length) (hb : b ≤ z.length) : cutS z (some (a : Int)) (some (b : Int)) = tx ((z.cps.toList.drop a).take (b - a)) := by
  unfold cutS
  rw [sIx_nat' ha, sIx_nat' hb]
theorem cut_one {z : Str} {a : Nat} (ha : a ≤ z.length) : cutS z (some (a : Int)) (some ((a : Int) + 1)) = tx ((z.cps.toList.drop a).take 1) := by
  have hl : z.cps.toList.length = z.length := Array.length_toList ..
  by_cases c : a + 1 ≤ z.length
  · have := cut_nat ha c
    rw [show ((a + 1 : Nat) : Int) = (a : Int) + 1 by omega, show a + 1 - a = 1 by omega] at this
    exact this
  · unfold cutS
    have d0 : z.cps.toList.drop a = [] := List.drop_eq_nil_of_le (by omega)
    rw [sIx_nat' ha, d0, List.take_nil, List.take_nil]
theorem tx_inj {a b : List Nat} (h : tx a = tx b) : a = b := congrArg (fun s => s.cps.toList) h
theorem take_snoc {α : Type} {xs : List α} {i : Nat} {x : α} (h : xs[i]? = some x) : xs.take (i + 1) = xs.take i ++ [x] := by
  obtain ⟨h1, h2⟩ := List.getElem?_eq_some_iff.mp h
  rw [← h2, List.take_append_getElem]
theorem cut_list (l : List Nat) {a b : Nat} (h : a ≤ b) : (l.drop (min a l.length)).take (min b l.length - min a l.length) = (l.drop a).take (b - a) := by
  by_cases ha : a ≤ l.length
  · rw [Nat.min_eq_left ha]
    by_cases hb : b ≤ l.length
    · rw [Nat.min_eq_left hb]
    · rw [Nat.min_eq_right (by omega), List.take_of_length_le (by rw [List.length_drop]; exact Nat.le_refl _), List.take_of_length_le (by rw [List.length_drop]; omega)]
  · rw [List.drop_eq_nil_of_le (by omega), List.drop_eq_nil_of_le (show l.length ≤ a by omega), List.take_nil, List.take_nil]
theorem cut_ab {z : Str} {a b : Nat} (h : a ≤ b) : cutS z (some (a : Int)) (some (b : Int)) = tx ((z.cps.toList.drop a).take (b - a)) := by
  have hl : z.cps.toList.length = z.length := Array.length_toList ..
  unfold cutS
  rw [HT.sIx_nat, HT.sIx_nat, ← hl, cut_list _ h]
theorem cut_to {z : Str} {b : Nat} : cutS z none (some (b : Int)) = tx (z.cps.toList.take b) := by
  have hl : z.cps.toList.length = z.length := Array.length_toList ..
  have := cut_list z.cps.toList (Nat.zero_le b)
  unfold cutS
  rw [HT.sIx_nat, ← hl]
  rw [Nat.zero_min] at this
  exact congrArg tx this
theorem cut_from {z : Str} {a : Nat} : cutS z (some (a : Int)) none = tx (z.cps.toList.drop a) := by
  have hl : z.cps.toList.length = z.length := Array.length_toList ..
  unfold cutS
  rw [HT.sIx_nat, ← hl]
  show tx ((z.cps.toList.drop (min a z.cps.toList.length)).take (z.length - min a z.cps.toList.length)) = _
  refine congrArg tx ?_
  by_cases ha : a ≤ z.cps.toList.length
  · rw [Nat.min_eq_left ha, List.take_of_length_le (by rw [List.length_drop]; omega)]
  · rw [Nat.min_eq_right (by omega), List.drop_length, List.take_nil, List.drop_eq_nil_of_le (by omega)]
theorem tx_of (z : Str) : tx z.cps.toList = z := by
  show (⟨z.cps.toList.toArray⟩ : Str) = z
  rw [Array.toArray_toList]
theorem tx_len (l : List Nat) : (tx l).length = l.length := List.size_toArray ..
theorem tx_beq (a b : List Nat) : (tx a == tx b) = decide (a = b) := by
  by_cases h : a = b
  · subst h; rw [decide_eq_true rfl]; exact beq_self_eq_true _
  · rw [decide_eq_false h]; exact beq_eq_false_iff_ne.mpr fun e => h (tx_inj e)
theorem tx_dec (a b : List Nat) : decide (V.str (tx a) = V.str (tx b)) = decide (a = b) := by
  by_cases h : a = b
  · subst h; rw [decide_eq_true rfl, decide_eq_true rfl]
  · rw [decide_eq_false h, decide_eq_false fun e => h (tx_inj (V.str.inj e))]
theorem inV_tx (l : List Nat) : ∀ ls : List (List Nat), inV (.str (tx l)) (ls.map fun m => V.str (tx m)) = decide (l ∈ ls)
  | [] => rfl
  | m :: r => by
    have ih := inV_tx l r
    unfold inV at ih ⊢
    rw [List.map_cons, List.any_cons, ih]
    show ((tx m == tx l) || _) = _
    rw [tx_beq]
    by_cases h : m = l
    · subst h
      rw [decide_eq_true rfl, decide_eq_true List.mem_cons_self]; rfl
    · rw [decide_eq_false h, Bool.false_or]
      exact decide_eq_decide.mpr ⟨fun q => List.mem_cons_of_mem _ q, fun q => (List.mem_cons.mp q).resolve_left fun e => h e.symm⟩
theorem s_empty : Str.ofString "" = tx [] := by decide +kernel
theorem s_open : Str.ofString "{" = tx [123] := by decide +kernel
theorem s_close : Str.ofString "}" = tx [125] := by decide +kernel
theorem s_open2 : Str.ofString "{{" = tx [123, 123] := by decide +kernel
theorem s_close2 : Str.ofString "}}" = tx [125, 125] := by decide +kernel
theorem s_blank : Str.ofString " " = tx [32] := by decide +kernel
theorem s_bangr : Str.ofString "!r" = tx [33, 114] := by decide +kernel
theorem s_bangs : Str.ofString "!s" = tx [33, 115] := by decide +kernel
theorem s_bang : Str.ofString "!" = tx [33] := by decide +kernel
theorem s_colon : Str.ofString ":" = tx [58] := by decide +kernel
theorem seq_doc {u : TS} {D : Ends} {σ : L2.St} {H : Hp} (h : u D σ H) : tSeq tNext u D σ H := h
theorem cut_two {z : Str} {a : Nat} (ha : a ≤ z.length) : cutS z (some (a : Int)) (some ((a : Int) + 2)) = tx ((z.cps.toList.drop a).take 2) := by
  have hl : z.cps.toList.length = z.length := Array.length_toList ..
  by_cases c : a + 2 ≤ z.length
  · have := cut_nat ha c
    rw [show ((a + 2 : Nat) : Int) = (a : Int) + 2 by omega, show a + 2 - a = 2 by omega] at this
    exact this
  · have e : HT.sIx z.length z.length (some ((a : Int) + 2)) = z.length := by
      have := HT.sIx_nat z.length z.length (a + 2)
      rw [show ((a + 2 : Nat) : Int) = (a : Int) + 2 by omega] at this
      rw [this]; omega
    unfold cutS
    rw [e, sIx_nat' ha, List.take_of_length_le (by rw [List.length_drop, hl]; exact Nat.le_refl _), List.take_of_length_le (by rw [List.length_drop, hl]; omega)]
end
end K17

set_option Elab.async false
set_option linter.all false
set_option maxRecDepth 100000
set_option maxHeartbeats 0

namespace K17
open PySem PySem.Spec PyProof.Rows L2 RC
section
variable {P : Program} {w : World} {K : PySem.W.Frag} {mg : Str → Option Value} {base : Heap}
/-! ### messages -/
abbrev CBm (K : PySem.W.Frag) : Addr := He.ga K "BadMessage"
abbrev CBf (K : PySem.W.Frag) : Addr := He.ga K "BadField"
theorem ok_badmessage_init {f : Addr} (T : Txt P w K mg) (F : Stands K "__init__" "BadMessage.__init__" s_BadMessage_init [] f) : Callable P w K mg base 1 f ["self", "msg"] [] (RQ.spExcInit K "msg") := by
  refine F.call0 sc_BadMessage_init (fun vs H Q E h => ?_) (fun cdv A outer s H vs Q E hr h => ?_) (fun _ _ _ _ _ _ us hl => match us, hl with | [_, _], _ => rfl)
  · obtain ⟨a, C, v, rfl, _⟩ := h; rfl
  obtain ⟨a, C, v, rfl, hx, ha, hQ⟩ := h
  refine ⟨_, (pss_one (ps_ost (pv 0) (pv 1))), ?_⟩
  walk_at "in"
  exact RQ.init_rd hx (fun Q h => ⟨_, rfl, h⟩) (fun Q h => ⟨_, rfl, h⟩) ha hQ
theorem ok_badfield_init {f : Addr} (T : Txt P w K mg) (F : Stands K "__init__" "BadField.__init__" s_BadField_init [] f) : Callable P w K mg base 1 f ["self", "name"] [] (RQ.spExcInit K "name") := by
  refine F.call0 sc_BadField_init (fun vs H Q E h => ?_) (fun cdv A outer s H vs Q E hr h => ?_) (fun _ _ _ _ _ _ us hl => match us, hl with | [_, _], _ => rfl)
  · obtain ⟨a, C, v, rfl, _⟩ := h; rfl
  obtain ⟨a, C, v, rfl, hx, ha, hQ⟩ := h
  refine ⟨_, (pss_one (ps_ost (pv 0) (pv 1))), ?_⟩
  walk_at "in"
  exact RQ.init_rd hx (fun Q h => ⟨_, rfl, h⟩) (fun Q h => ⟨_, rfl, h⟩) ha hQ
theorem two_invM : ∀ {s : SS} {as : List SS} {o : Option SS}, PM s as o → ∀ {c : Nat} {r : SS}, s = c :: c :: r → (c = 123 ∨ c = 125) → ∃ o2, PM r as o2 ∧ o = o2.map (c :: ·)
  | _, _, _, .nil, _, _, e, _ => by cases e
  | _, _, _, .left, _, _, e, _ => by cases e
  | _, _, _, .two _ h, _, _, e, _ => by cases e; exact ⟨_, h, rfl⟩
  | _, _, _, .ch h1 h2 _, _, _, e, hc => by cases e; exact (hc.elim h1 h2).elim
  | _, _, _, .arg h, _, _, e, _ => by cases e
  | _, _, _, .bad _ h _, _, _, e, _ => by cases e; exact absurd rfl h
theorem nd_same {H H' : Hp} (e : Same H H') : ∀ {n : Nat} {v : V} {d : PyData}, RNd.ND H n v d → RNd.ND H' n v d
  | 0, _, _, h => h
  | n + 1, v, d, h => by
    rcases h with f | ⟨a, xs, ds, h1, h2, h3, h4⟩ | ⟨a, xs, ds, h1, h2, h3, h4⟩ | ⟨a, kvs, ds, h1, h2, h3, h4⟩
    · exact .inl f
    · exact .inr (.inl ⟨a, xs, ds, h1, h2, e _ _ h3, Paired.mapP h4 fun _ _ q => nd_same e q⟩)
    · exact .inr (.inr (.inl ⟨a, xs, ds, h1, h2, e _ _ h3, Paired.mapP h4 fun _ _ q => nd_same e q⟩))
    · exact .inr (.inr (.inr ⟨a, kvs, ds, h1, h2, e _ _ h3, Paired.mapP h4 fun _ _ q => ⟨q.1, nd_same e q.2⟩⟩))
theorem pr_get {α β : Type} {F : α → β → Prop} : ∀ {xs : List α} {ys : List β}, Paired F xs ys → ∀ {i : Nat} {x : α} {y : β}, xs[i]? = some x → ys[i]? = some y → F x y
  | _, _, .nil, _, _, _, h, _ => by cases h
  | _, _, .cons h t, 0, _, _, hx, hy => by cases hx; cases hy; exact h
  | _, _, .cons h t, i + 1, _, _, hx, hy => pr_get t (i := i) hx hy
/-- the texts of args -/
def ArgAt (H : Hp) (x : V) (s : SS) : Prop := ∃ d : PyData, RNd.ND H 4 x d ∧ d.depth ≤ 20 ∧ d.showable = true ∧ d.shown.length ≤ sizeLine ∧ s = (RGm.strD d).cps.toList ∧ s.length ≤ 2000
def spMsgOf (K : PySem.W.Frag) : Sp := fun vs H Q E => ∃ (z : Str) (a : Addr) (xs : List V) (ss : List SS) (o : Option SS), vs = [.str z, .ref a] ∧ H a = some (.tup xs) ∧ Paired (ArgAt H) xs ss ∧ z.length ≤ 2000 ∧ xs.length ≤ 100 ∧ PM z.cps.toList ss o ∧
  (∀ (t : SS) (H' : Hp), o = some t → Same H H' → Q (.str (tx t)) H') ∧ (∀ (d : Addr) (H1 : Hp), o = none → Same H H1 → H1 d = none → E (.ref (CBm K)) (some d) (upd H1 d (.xd [("msg", .str z)])))
theorem s_pair : Str.ofString "{}" = tx [123, 125] := by decide +kernel
/-- what holds in the loop -/
def MInv (H : Hp) (z : Str) (a p : Addr) (xs : List V) (ss : List SS) (o : Option SS) (m : Nat) (σ : L2.St) (H' : Hp) : Prop := Same H H' ∧ ∃ (i u : Nat) (ws : List Str) (o' : Option SS) (a1 b1 : Option V), m = z.length - i ∧ i ≤ z.length ∧ u ≤ xs.length ∧ ws.length ≤ i ∧ (catS ws).length ≤ i + 2000 * u ∧ H' p = some (.lst (ws.map V.str)) ∧ PM (z.cps.toList.drop i) (ss.drop u) o' ∧ o = o'.map (catS ws ++ ·) ∧
    σ = [some (.str z), some (.ref a), some (.ref p), some (.int (i : Nat)), some (.int (u : Nat)), a1, b1]
theorem cxKX {CX : CXT} {P : Program} {w : World} {K : PySem.W.Frag} {mg : Str → Option Value} {base : Heap} {N : List Str} {qual : Str} {scope : Scope} {f : Addr} {cd : Value} {A : Around} {outer : List Env} {sh : Shared} {H : Hp} {E : XK} : (cxOf CX P w K mg base N qual scope f cd A outer sh H E).K = K := rfl
theorem ok_message_of {f : Addr} (T : Txt P w K mg) (F : Stands K "message_of" "message_of" s_message_of [] f) (c_BadMessage_init : Callable P w K mg base 1 (He.ma K (He.ga K "BadMessage") "__init__") ["self", "msg"] [] (RQ.spExcInit K "msg")) : RGn.CallNG P w K mg base 4 f ["msg", "args"] (spMsgOf K) := by
  refine RGn.stands_callNG0 F sc_message_of (fun vs H Q E h => ?_) (fun cdv A outer s H vs Q E hr gd h => ?_) (fun _ _ _ _ _ _ us hl => match us, hl with | [_, _], _ => rfl)
  · obtain ⟨z, a, xs, ss, o, rfl, _⟩ := h; rfl
  obtain ⟨z, a, xs, ss, o, rfl, ha, hx, hz, hl, hP, hQ, hE⟩ := h
  have hsl : xs.length = ss.length := Paired.length hx
  refine ⟨_, (pss_cons (ps_par3 (by rfl) sc_message_of.nd (i := 2) (j := 3) (l := 4) rfl rfl rfl (by decide) (by decide) (by decide) rfl rfl rfl (pa_cons (pe_lst pa_nil) (pa_cons pe_int (pa_cons pe_int pa_nil))) (by rfl))
      (pss_cons (ps_while (passes_of rfl) (pt_cmpR op_lt (pv 3) (pe_callB call_len_str (by rfl) T.b_len (by decide +kernel) (pa_cons (pv 0) pa_nil)) (nomark _)) (pss_cons (ps_par (by rfl) sc_message_of.nd (i := 5) (j := 6) rfl rfl (by decide) rfl rfl (pa_cons (pe_ix ix_str (pv 0) (pv 3) (fun _ _ => rfl)) (pa_cons (pe_slice sl_str (pv 0) (po_some (pv 3)) (po_some (pe_op op_add (pv 3) pe_int))) pa_nil)) (by rfl))
      (pss_one (ps_if (pt_cmpR op_notIn_seq (pv 5) (pe_tup (pa_cons pe_str (pa_cons pe_str pa_nil))) (by rfl)) (pss_cons (ps_expr (pe_bm PySem.F.plainAttrs_list PySem.F.slot_list_append PySem.F.type_list_append mt_append (pv 2) (pa_cons (pv 5) pa_nil)))
      (pss_one (ps_aug (i := 3) sc_message_of.nd rfl (by first | exact Or.inl rfl | exact Or.inr rfl) pe_int ip_add))) (pss_one (ps_if (pt_cmpR op_in_seq (pv 6) (pe_tup (pa_cons pe_str (pa_cons pe_str pa_nil))) (by rfl)) (pss_cons (ps_expr (pe_bm PySem.F.plainAttrs_list PySem.F.slot_list_append PySem.F.type_list_append mt_append (pv 2) (pa_cons (pv 5) pa_nil)))
      (pss_one (ps_aug (i := 3) sc_message_of.nd rfl (by first | exact Or.inl rfl | exact Or.inr rfl) pe_int ip_add))) (pss_one (ps_if (PW.pt (pw_and (pt_cmpR op_eq (pv 6) pe_str (nomark _)) (pw_and1 (pt_cmpR op_lt (pv 4) (pe_callB call_len (by rfl) T.b_len (by decide +kernel) (pa_cons (pv 1) pa_nil)) (nomark _))))) (pss_cons (ps_expr (pe_bm PySem.F.plainAttrs_list PySem.F.slot_list_append PySem.F.type_list_append mt_append (pv 2) (pa_cons (pe_callTy (RGm.call_strN (n := 4) gd (RGm.hu24 hr)) (by rfl) T.b_str (by decide +kernel) (pa_cons (pe_ix ix_tup (pv 1) (pv 4) (fun _ _ => rfl)) pa_nil)) pa_nil)))
      (pss_cons (ps_aug (i := 4) sc_message_of.nd rfl (by first | exact Or.inl rfl | exact Or.inr rfl) pe_int ip_add)
      (pss_one (ps_aug (i := 3) sc_message_of.nd rfl (by first | exact Or.inl rfl | exact Or.inr rfl) pe_int ip_add)))) (pss_one (RH.ps_excN rfl (L2N.takes_of rfl rfl rfl rfl) T.x_BadMessage c_BadMessage_init (hr.mono (by first | decide | exact Nat.le_refl _)) T.g_BadMessage (by rfl) (pa_cons (pv 0) pa_nil)))))))))))
      (pss_cons (ps_if (pt_cmpR op_lt (pv 4) (pe_callB call_len (by rfl) T.b_len (by decide +kernel) (pa_cons (pv 1) pa_nil)) (nomark _)) (pss_one (RH.ps_excN rfl (L2N.takes_of rfl rfl rfl rfl) T.x_BadMessage c_BadMessage_init (hr.mono (by first | decide | exact Nat.le_refl _)) T.g_BadMessage (by rfl) (pa_cons (pv 0) pa_nil))) pss_nil)
      (pss_one (ps_ret (pe_join pe_str (pv 2))))))), ?_⟩
  walk_at "in"
  dsimp only [cxKX]
  have hlz : z.cps.toList.length = z.length := Array.length_toList ..
  have hz2 : z.length ≤ sizeLine := by rw [sizeLine_eq]; omega
  walk_at "go"
  intro p fp
  walk_at "go"
  have npa : p ≠ a := fun e => by rw [e, ha] at fp; cases fp
  refine ⟨MInv H z a p xs ss o, ⟨_, same_new fp _, 0, 0, [], o, _, _, rfl, Nat.zero_le _, Nat.zero_le _, Nat.zero_le _, Nat.zero_le _, upd_same, hP, by cases o <;> rfl, rfl⟩, ?_⟩
  rintro m σ H1 ⟨s1, i, u, ws, o', a1, b1, rfl, hi, hu, hw, hcl, hp, hd, ho, rfl⟩
  have ha1 := s1 _ _ ha
  rw [s_open2, s_close2, s_open, s_close, s_pair]
  by_cases c : i < z.length
  · have t1 : decide (((i : Nat) : Int) < (z.length : Nat)) = true := decide_eq_true (by omega)
    have c2 : cutS z (some (i : Int)) (some ((i : Int) + 2)) = tx ((z.cps.toList.drop i).take 2) := cut_two hi
    obtain ⟨ch, hc⟩ : ∃ ch, z.cps.toList[i]? = some ch := ⟨_, List.getElem?_eq_getElem (by rw [hlz]; exact c)⟩
    have hat : atI z.cps.toList ((i : Nat) : Int) = some ch := atI_nat hc
    have hdr : z.cps.toList.drop i = ch :: z.cps.toList.drop (i + 1) := by
      obtain ⟨h1, h2⟩ := List.getElem?_eq_some_iff.mp hc
      rw [← h2]; exact List.drop_eq_getElem_cons h1
    generalize hr0 : z.cps.toList.drop (i + 1) = r at hdr
    have hlr : r.length = z.length - (i + 1) := by rw [← hr0, List.length_drop, hlz]
    rw [hdr] at hd c2
    have hsz : (ws.map V.str).length < sizeLine := by rw [List.length_map, sizeLine_eq]; omega
    have next : ∀ (j u2 : Nat) (e e2 : Int) (w : Str) (H2 : Hp) (o2 : Option SS) (a2 b2 : Option V), e = (j : Int) → e2 = (u2 : Int) → i < j → j ≤ z.length → u2 ≤ xs.length → (catS ws).length + w.length ≤ j + 2000 * u2 → Same H1 H2 → PM (z.cps.toList.drop j) (ss.drop u2) o2 → o = o2.map ((catS ws ++ w.cps.toList) ++ ·) →
        ∃ m', m' < z.length - i ∧ MInv H z a p xs ss o m' [some (.str z), some (.ref a), some (.ref p), some (.int e), some (.int e2), a2, b2] (upd H2 p (.lst (ws.map V.str ++ [.str w]))) := fun j u2 e e2 w H2 o2 a2 b2 h1 h2 h3 h4 h5 h6 h7 h8 h9 =>
      ⟨z.length - j, by omega, fun b v hb => (by rw [upd_ne (ne_of_none hb fp)]; exact h7 _ _ (s1 _ _ hb)), j, u2, ws ++ [w], o2, a2, b2, rfl, h4, h5, by rw [List.length_append]; show ws.length + 1 ≤ j; omega, by
        have hw2 : w.cps.toList.length = w.length := Array.length_toList ..
        rw [catS_snoc, List.length_append, hw2]; exact h6, by rw [upd_same, List.map_append]; rfl, h8, by rw [catS_snoc]; exact h9, by rw [h1, h2]⟩
    walk_at "go"
    obtain ⟨N, hN⟩ : ∃ N : L2.St → Hp → Prop, N = fun σ' H' => ∃ m', m' < z.length - i ∧ MInv H z a p xs ss o m' σ' H' := ⟨_, rfl⟩
    refine ⟨N, fun σ' H' h => by rw [hN] at h; exact h, ?_⟩
    walk_at "go"
    intro q fq
    have s2 : Same H1 (upd H1 q (.tup [.str (tx [123]), .str (tx [125])])) := same_new fq _
    have hq : (upd H1 q (.tup [.str (tx [123]), .str (tx [125])])) q = some (.tup [.str (tx [123]), .str (tx [125])]) := upd_same
    generalize upd H1 q (.tup [.str (tx [123]), .str (tx [125])]) = H2 at s2 hq ⊢
    have hp2 := s2 _ _ hp
    have ha2 := s2 _ _ ha1
    refine ⟨q, _, rfl, .inr (SqT.of hq), rfl, rfl, _, rfl, ?_⟩
    have vG : inV (.str ⟨#[ch]⟩) [V.str (tx [123]), V.str (tx [125])] = decide ([ch] ∈ ([[123], [125]] : List (List Nat))) := inV_tx [ch] [[123], [125]]
    have mG : (ch = 123 ∨ ch = 125) → [ch] ∈ ([[123], [125]] : List (List Nat)) := fun h => by rcases h with rfl | rfl <;> decide
    generalize hg : ss.drop u = as at hd
    have e1 : tx [ch] = ⟨#[ch]⟩ := rfl
    have l1 : (⟨#[ch]⟩ : Str).length = 1 := rfl
    cases hd with
    | @ch _ _ _ o2 h1 h2 h3 =>
      have v1 : (!inV (.str ⟨#[ch]⟩) [V.str (tx [123]), V.str (tx [125])]) = true := by
        rw [vG, decide_eq_false fun h => ?_]; rfl
        rcases List.mem_cons.mp h with h | h
        · cases h; exact h1 rfl
        · cases List.mem_singleton.mp h; exact h2 rfl
      refine iteT' v1 ?_
      walk_at "go"
      rw [hN]
      refine next (i + 1) u ((i : Int) + 1) (u : Nat) ⟨#[ch]⟩ H2 o2 _ _ (by omega) rfl (by omega) (by omega) hu (by rw [l1]; omega) s2 (by rw [hr0, hg]; exact h3) ?_
      rw [ho]; cases o2 <;> simp
    | @two _ r2 _ o2 h1 h3 =>
      have v1 : (!inV (.str ⟨#[ch]⟩) [V.str (tx [123]), V.str (tx [125])]) = false := by rw [vG, decide_eq_true (mG h1)]; rfl
      refine iteF' v1 ?_
      walk_at "go"
      intro q2 fq2
      have s3 := s2.trans (same_new fq2 (.tup [.str (tx [123, 123]), .str (tx [125, 125])]))
      have hp3 := same_new fq2 (.tup [.str (tx [123, 123]), .str (tx [125, 125])]) _ _ hp2
      have hq2 : (upd H2 q2 (.tup [.str (tx [123, 123]), .str (tx [125, 125])])) q2 = some (.tup [.str (tx [123, 123]), .str (tx [125, 125])]) := upd_same
      generalize upd H2 q2 (.tup [.str (tx [123, 123]), .str (tx [125, 125])]) = H3 at s3 hp3 hq2 ⊢
      refine ⟨q2, _, rfl, .inr (SqT.of hq2), rfl, rfl, _, rfl, ?_⟩
      have vF : inV (.str (cutS z (some (i : Int)) (some ((i : Int) + 2)))) [V.str (tx [123, 123]), V.str (tx [125, 125])] = true := by
        rw [c2]
        refine (inV_tx _ [[123, 123], [125, 125]]).trans (decide_eq_true ?_)
        rcases h1 with rfl | rfl
        · exact List.mem_cons_self
        · exact List.mem_cons_of_mem _ List.mem_cons_self
      refine iteT' vF ?_
      walk_at "go"
      rw [List.length_cons] at hlr
      rw [hN]
      refine next (i + 2) u ((i : Int) + 2) (u : Nat) ⟨#[ch]⟩ H3 o2 _ _ (by omega) rfl (by omega) (by omega) hu (by rw [l1]; omega) s3 (by rw [show i + 2 = (i + 1) + 1 by omega, ← List.drop_drop, hr0, hg]; exact h3) ?_
      rw [ho]; cases o2 <;> simp
    | @arg r2 a0 as o2 h3 =>
      have v1 : (!inV (.str ⟨#[123]⟩) [V.str (tx [123]), V.str (tx [125])]) = false := by rw [vG, decide_eq_true (mG (.inl rfl))]; rfl
      refine iteF' v1 ?_
      walk_at "go"
      intro q2 fq2
      have s3 := s2.trans (same_new fq2 (.tup [.str (tx [123, 123]), .str (tx [125, 125])]))
      have hp3 := same_new fq2 (.tup [.str (tx [123, 123]), .str (tx [125, 125])]) _ _ hp2
      have hq2 : (upd H2 q2 (.tup [.str (tx [123, 123]), .str (tx [125, 125])])) q2 = some (.tup [.str (tx [123, 123]), .str (tx [125, 125])]) := upd_same
      generalize upd H2 q2 (.tup [.str (tx [123, 123]), .str (tx [125, 125])]) = H3 at s3 hp3 hq2 ⊢
      refine ⟨q2, _, rfl, .inr (SqT.of hq2), rfl, rfl, _, rfl, ?_⟩
      have vF : inV (.str (cutS z (some (i : Int)) (some ((i : Int) + 2)))) [V.str (tx [123, 123]), V.str (tx [125, 125])] = false := by
        rw [c2]
        exact (inV_tx _ [[123, 123], [125, 125]]).trans (decide_eq_false (by show ¬ ([123, 125] : List Nat) ∈ ([[123, 123], [125, 125]] : List (List Nat)); decide))
      refine iteF' vF ?_
      have cu : u < xs.length := by
        rcases Nat.lt_or_ge u xs.length with h | h
        · exact h
        · rw [List.drop_eq_nil_of_le (by omega)] at hg; cases hg
      obtain ⟨x, hxu⟩ : ∃ x, xs[u]? = some x := ⟨_, List.getElem?_eq_getElem cu⟩
      have hau : ss[u]? = some a0 := by
        have := congrArg (·[0]?) hg
        simpa using this
      have hdu : ss.drop (u + 1) = as := by
        have := congrArg List.tail hg
        simpa using this
      obtain ⟨dd, nd, dp, sh, sl, ea0, la0⟩ := pr_get hx hxu hau
      have ha3 := s3 _ _ ha1
      have t3 : decide (V.str (cutS z (some (i : Int)) (some ((i : Int) + 2))) = V.str (tx [123, 125])) = true := by rw [c2]; exact decide_eq_true rfl
      have t4 : decide (((u : Nat) : Int) < (xs.length : Nat)) = true := decide_eq_true (by omega)
      have hat2 : atI xs ((u : Nat) : Int) = some x := atI_nat hxu
      rw [List.length_cons] at hlr
      have fin : ∀ (w : Str) (a2 b2 : Option V), w.cps.toList = a0 → w.length ≤ 2000 → ∃ m', m' < z.length - i ∧ MInv H z a p xs ss o m' [some (.str z), some (.ref a), some (.ref p), some (.int ((i : Int) + 2)), some (.int ((u : Int) + 1)), a2, b2] (upd H3 p (.lst (ws.map V.str ++ [.str w]))) := fun w a2 b2 hw2 hw3 => by
        refine next (i + 2) (u + 1) _ _ w H3 o2 a2 b2 (by omega) (by omega) (by omega) (by omega) (by omega) (by omega) s3 (by rw [show i + 2 = (i + 1) + 1 by omega, ← List.drop_drop, hr0, hdu]; exact h3) ?_
        rw [ho, hw2]; cases o2 <;> simp
      walk_at "go"
      refine ⟨nd_same (s1.trans s3) nd, dp, sh, sl, ?_⟩
      walk_at "go"
      rw [hN]
      exact fin _ _ _ ea0.symm (by rw [ea0] at la0; have : (RGm.strD dd).cps.toList.length = (RGm.strD dd).length := Array.length_toList ..; omega)
    | bad h1 h2 h3 =>
      have v1 : (!inV (.str ⟨#[ch]⟩) [V.str (tx [123]), V.str (tx [125])]) = false := by rw [vG, decide_eq_true (mG h1)]; rfl
      refine iteF' v1 ?_
      walk_at "go"
      intro q2 fq2
      have s3 := s2.trans (same_new fq2 (.tup [.str (tx [123, 123]), .str (tx [125, 125])]))
      have hp3 := same_new fq2 (.tup [.str (tx [123, 123]), .str (tx [125, 125])]) _ _ hp2
      have hq2 : (upd H2 q2 (.tup [.str (tx [123, 123]), .str (tx [125, 125])])) q2 = some (.tup [.str (tx [123, 123]), .str (tx [125, 125])]) := upd_same
      generalize upd H2 q2 (.tup [.str (tx [123, 123]), .str (tx [125, 125])]) = H3 at s3 hp3 hq2 ⊢
      refine ⟨q2, _, rfl, .inr (SqT.of hq2), rfl, rfl, _, rfl, ?_⟩
      have tk : ∀ x y : Nat, (ch :: r).take 2 = [x, y] → ch = x ∧ r.head? = some y := fun x y h => by
        cases r with
        | nil => cases h
        | cons d r => cases h; exact ⟨rfl, rfl⟩
      have vF : inV (.str (cutS z (some (i : Int)) (some ((i : Int) + 2)))) [V.str (tx [123, 123]), V.str (tx [125, 125])] = false := by
        rw [c2]
        refine (inV_tx _ [[123, 123], [125, 125]]).trans (decide_eq_false fun h => ?_)
        rcases List.mem_cons.mp h with h | h
        · obtain ⟨e1, e2⟩ := tk _ _ h; rw [e1] at h2; exact h2 e2
        · obtain ⟨e1, e2⟩ := tk _ _ (List.mem_singleton.mp h); rw [e1] at h2; exact h2 e2
      refine iteF' vF ?_
      have s13 : Same H H3 := s1.trans s3
      have ha3 := s3 _ _ ha1
      have on : o = none := by rw [ho]; rfl
      by_cases e : (ch :: r).take 2 = [123, 125]
      · have t3 : decide (V.str (cutS z (some (i : Int)) (some ((i : Int) + 2))) = V.str (tx [123, 125])) = true := by rw [c2, tx_dec]; exact decide_eq_true e
        obtain ⟨e1, e2⟩ := tk _ _ e
        have ea : as = [] := by
          rcases h3 with h | h | h
          · rw [e1] at h; cases h
          · exact absurd e2 h
          · exact h
        have t4 : decide (((u : Nat) : Int) < (xs.length : Nat)) = false := decide_eq_false fun h => by
          have cu : u < ss.length := by omega
          rw [List.drop_eq_getElem_cons cu, ea] at hg
          cases hg
        walk_at "go"
        intro d fd
        exact hE d _ on s13 fd
      · have t3 : decide (V.str (cutS z (some (i : Int)) (some ((i : Int) + 2))) = V.str (tx [123, 125])) = false := by rw [c2, tx_dec]; exact decide_eq_false e
        walk_at "go"
        intro d fd
        exact hE d _ on s13 fd
  · have t1 : decide (((i : Nat) : Int) < (z.length : Nat)) = false := decide_eq_false (by omega)
    have d0 : z.cps.toList.drop i = [] := List.drop_eq_nil_of_le (by omega)
    rw [d0] at hd
    by_cases cu : u < xs.length
    · have t2 : decide (((u : Nat) : Int) < (xs.length : Nat)) = true := decide_eq_true (by omega)
      have on : o = none := by
        obtain ⟨x, r, hx⟩ : ∃ x r, ss.drop u = x :: r := ⟨_, _, List.drop_eq_getElem_cons (by omega)⟩
        rw [hx] at hd
        cases hd; rw [ho]; rfl
      walk_at "go"
      intro d fd
      exact hE d _ on s1 fd
    · have t2 : decide (((u : Nat) : Int) < (xs.length : Nat)) = false := decide_eq_false (by omega)
      have os : o = some (catS ws) := by
        rw [List.drop_eq_nil_of_le (by omega)] at hd
        cases hd; rw [ho]; show some (catS ws ++ []) = _; rw [List.append_nil]
      walk_at "go"
      refine ⟨⟨_, rfl⟩, _, rfl, "", p, ws, rfl, rfl, .inl (SqL.of hp), ?_, ?_⟩
      · rw [catS_len]; show _ + ws.length * 0 ≤ _; omega
      · rw [join_cat]; exact hQ _ _ os s1
end
end K17

set_option Elab.async false
set_option linter.all false
set_option maxRecDepth 100000
set_option maxHeartbeats 0
namespace K17
open PySem PySem.Spec PyProof.Rows L2 RC
section
variable {P : Program} {w : World} {K : PySem.W.Frag} {mg : Str → Option Value} {base : Heap}
/-! ### characters of what is shown -/
theorem okc_of (s : String) : OkC (Str.ofString s) := fun c hc => by
  rw [PySem.Str.ofString_eq_toList] at hc
  have hc : c ∈ s.toList.map Char.toNat := by simpa using hc
  obtain ⟨ch, _, rfl⟩ := List.mem_map.mp hc
  exact Nat.lt_of_lt_of_le (UInt32.toNat_lt ch.val) (by decide)
theorem okc_add {a b : Str} (ha : OkC a) (hb : OkC b) : OkC (a ++ b) := fun c hc => by
  have e : (a ++ b).cps.toList = a.cps.toList ++ b.cps.toList := TL.tl_append a b
  rw [e] at hc
  rcases List.mem_append.mp hc with h | h
  · exact ha c h
  · exact hb c h
theorem hexd (w c : Nat) : ∀ d ∈ List.replicate w 48 ++ (Nat.toDigits 16 c).map Char.toNat, d < 16 ^ 8 := fun d hd => by
  rcases List.mem_append.mp hd with h | h
  · rw [List.eq_of_mem_replicate h]; decide
  · obtain ⟨ch, _, rfl⟩ := List.mem_map.mp h
    exact Nat.lt_of_lt_of_le (UInt32.toNat_lt ch.val) (by decide)
theorem repr_ch {q c : Nat} (hc : c < 16 ^ 8) : ∀ d ∈ Builtin.Str.reprChar q c, d < 16 ^ 8 := fun d hd => by
  unfold Builtin.Str.reprChar at hd
  dsimp only at hd
  have h8 : ∀ l : List Nat, (∀ e ∈ l, e < 16 ^ 8) → ∀ (w : Nat), d ∈ l ++ (List.replicate w 48 ++ (Nat.toDigits 16 c).map Char.toNat) → d < 16 ^ 8 := fun l hl w h => by
    rcases List.mem_append.mp h with h | h
    · exact hl d h
    · exact hexd w c d h
  split at hd
  · rcases List.mem_cons.mp hd with rfl | h
    · decide
    · rw [List.mem_singleton.mp h]; exact hc
  split at hd
  · simp at hd; omega
  split at hd
  · simp at hd; omega
  split at hd
  · simp at hd; omega
  split at hd
  · rw [List.mem_singleton.mp hd]; exact hc
  split at hd
  · exact h8 _ (by decide) _ hd
  split at hd
  · exact h8 _ (by decide) _ hd
  · exact h8 _ (by decide) _ hd
theorem okc_fold (q : Nat) : ∀ (l : List Nat) (acc : Array Nat), (∀ c ∈ l, c < 16 ^ 8) → (∀ c ∈ acc.toList, c < 16 ^ 8) → ∀ c ∈ (l.foldl (fun out c => out ++ (Builtin.Str.reprChar q c).toArray) acc).toList, c < 16 ^ 8
  | [], acc, _, h => h
  | c :: r, acc, h1, h2 => okc_fold q r _ (fun d hd => h1 d (List.mem_cons_of_mem _ hd)) fun d hd => by
    rw [Array.toList_append] at hd
    rcases List.mem_append.mp hd with h | h
    · exact h2 d h
    · exact repr_ch (h1 c List.mem_cons_self) d (by simpa using h)
theorem quote_lt (z : Str) : reprQuote z < 16 ^ 8 := by unfold reprQuote; split <;> decide
theorem okc_repr {z : Str} (h : OkC z) : OkC (reprText z) := fun c hc => by
  unfold reprText at hc
  rw [← Array.foldl_toList] at hc
  have hc : c ∈ ((z.cps.toList.foldl (fun out c => out ++ (Builtin.Str.reprChar (reprQuote z) c).toArray) #[reprQuote z]).push (reprQuote z)).toList := hc
  rw [Array.toList_push] at hc
  rcases List.mem_append.mp hc with g | g
  · exact okc_fold _ _ _ h (fun d hd => by have hd2 : d = reprQuote z := (by simpa using hd); rw [hd2]; exact quote_lt z) c g
  · rw [List.mem_singleton.mp g]; exact quote_lt z
theorem okc_join : ∀ ts : List Str, (∀ t ∈ ts, OkC t) → OkC (Str.join ", " ts)
  | [], _ => fun c hc => by cases hc
  | [x], h => h x List.mem_cons_self
  | x :: y :: r, h => by
    show OkC (x ++ (", " : Str) ++ Str.join ", " (y :: r))
    exact okc_add (okc_add (h x List.mem_cons_self) (okc_of ", ")) (okc_join (y :: r) fun t ht => h t (List.mem_cons_of_mem _ ht))
theorem okc_from : ∀ (ts : List Str) (k : Nat) (acc : Str), OkC acc → (∀ t ∈ ts, OkC t) → OkC (textFrom k acc ts)
  | [], _, _, h, _ => h
  | t :: r, k, acc, h, ht => by
    show OkC (textFrom (k + 1) (acc ++ (if k > 0 then ", " else "" : String) ++ t) r)
    exact okc_from r _ _ (okc_add (okc_add h (okc_of _)) (ht t List.mem_cons_self)) fun u hu => ht u (List.mem_cons_of_mem _ hu)
theorem okc_list {ts : List Str} (h : ∀ t ∈ ts, OkC t) : OkC (listText ts) := okc_add (okc_from ts 0 _ (okc_of "[") h) (okc_of "]")
theorem okc_tup {ts : List Str} (h : ∀ t ∈ ts, OkC t) : OkC (tupleText ts) := okc_add (okc_add (okc_of "(") (okc_join ts h)) (okc_of _)
theorem okc_dict {ts : List Str} (h : ∀ t ∈ ts, OkC t) : OkC (dictText ts) := okc_add (okc_add (okc_of "{") (okc_join ts h)) (okc_of "}")
theorem py_okc : ∀ {n : Nat} {t : Dt}, Dep n t → Men t → OkC t.py.shown
  | 0, t, d, _ => by cases t <;> exact d.elim
  | n + 1, .non, _, _ => by rw [Dt.py, PyData.shown]; exact okc_of _
  | n + 1, .bl b, _, _ => by rw [Dt.py, PyData.shown]; cases b <;> exact okc_of _
  | n + 1, .int i, _, h => by rw [Dt.py, PyData.shown]; exact okc_of _
  | n + 1, .str s, _, h => by rw [Dt.py, PyData.shown]; exact okc_repr h.1.2
  | n + 1, .lst m f, d, h => by
    rw [Dt.py, PyData.shown, shownAll_map]
    refine okc_list fun t ht => ?_
    obtain ⟨p, hp, rfl⟩ := List.mem_map.mp ht
    obtain ⟨i, hi, rfl⟩ := List.mem_map.mp hp
    exact py_okc (d i (List.mem_range.mp hi)) (h.2 i (List.mem_range.mp hi))
  | n + 1, .tup m f, d, h => by
    rw [Dt.py, PyData.shown, shownAll_map]
    refine okc_tup fun t ht => ?_
    obtain ⟨p, hp, rfl⟩ := List.mem_map.mp ht
    obtain ⟨i, hi, rfl⟩ := List.mem_map.mp hp
    exact py_okc (d i (List.mem_range.mp hi)) (h.2 i (List.mem_range.mp hi))
  | n + 1, .dct ks f, d, h => by
    rw [Dt.py, PyData.shown, shownKv_map]
    refine okc_dict fun t ht => ?_
    obtain ⟨p, hp, rfl⟩ := List.mem_map.mp ht
    obtain ⟨⟨k, i⟩, hi, rfl⟩ := List.mem_map.mp hp
    have hk := List.mem_zipIdx_iff_getElem?.mp hi
    have hi2 : i < ks.length := (List.getElem?_eq_some_iff.mp hk).1
    have h6 := (h.1.2 k (List.mem_of_getElem? hk)).1.2
    refine okc_add (okc_add ?_ (okc_of ": ")) (py_okc (d i hi2) (h.2 i hi2))
    rw [PyData.shown]
    exact okc_repr h6
theorem strD_okc {t : Dt} {n : Nat} (d : Dep n t) (m : Men t) : OkC (RGm.strD t.py) := by
  have h := py_okc d m
  cases t with
  | str s => rw [Dt.py]; exact m.1.2
  | _ => rw [Dt.py] at h ⊢; exact h
end
end K17

set_option Elab.async false
set_option linter.all false
set_option maxRecDepth 100000
set_option maxHeartbeats 0

namespace K17
open PySem PySem.Spec PyProof.Rows L2 RC
section
variable {P : Program} {w : World} {K : PySem.W.Frag} {mg : Str → Option Value} {base : Heap}
/-! ### a record's data, its message, its fields -/
structure RD where
  nm : Str
  ln : Str
  msg : Str
  lv : Int
  clk : Int
  n : Nat
  f : Nat → Dt
  ks : List Str
  fe : Nat → Dt
def rowD : List Str → (Nat → Dt) → List (Str × Dt)
  | [], _ => []
  | k :: r, f => (k, f 0) :: rowD r fun i => f (i + 1)
theorem rowD_keys : ∀ (ks : List Str) (f : Nat → Dt), (rowD ks f).map (·.1) = ks
  | [], _ => rfl
  | k :: r, f => by show k :: (rowD r _).map (·.1) = _; rw [rowD_keys r]
theorem rowD_len : ∀ (ks : List Str) (f : Nat → Dt), (rowD ks f).length = ks.length
  | [], _ => rfl
  | k :: r, f => by show (rowD r _).length + 1 = _; rw [rowD_len r]; rfl
theorem rowD_get : ∀ (ks : List Str) (f : Nat → Dt) (i : Nat), (rowD ks f)[i]? = (ks[i]?).map fun k => (k, f i)
  | [], _, i => by simp [rowD]
  | k :: r, f, 0 => by simp [rowD]
  | k :: r, f, i + 1 => by
    show (rowD r _)[i]? = _
    rw [rowD_get r _ i]; rfl
def RD.own (R : RD) : List (Str × Dt) := [("name", .str R.nm), ("levelno", .int R.lv), ("levelname", .str R.ln), ("msg", .str R.msg), ("args", .tup R.n R.f), ("created", .int R.clk), ("msecs", .int (R.clk % 1000))]
def RD.fld (R : RD) (z : Str) : Option Dt := (lkp R.own z).or (lkp (rowD R.ks R.fe) z)
structure RD.Dp (R : RD) : Prop where
  f : ∀ i, i < R.n → Dep 3 (R.f i)
  e : ∀ i, i < R.ks.length → Dep 3 (R.fe i)
  m : ∀ i, i < R.n → Men (R.f i)
  nl : R.n ≤ 100
  zl : R.msg.length ≤ 2000
/-- the texts of the args -/
def RD.args (R : RD) : List SS := (List.range R.n).map fun i => (RGm.strD (R.f i).py).cps.toList
/-- what message() tells, or none: BadMessage -/
def RD.MsgO (R : RD) (o : Option SS) : Prop := (R.n = 0 ∧ o = some R.msg.cps.toList) ∨ (R.n ≠ 0 ∧ PM R.msg.cps.toList R.args o)
def ErrM (K : PySem.W.Frag) (H : Hp) (E : XK) (z : Str) : Prop := ∀ (d : Addr) (H1 : Hp), Same H H1 → H1 d = none → E (.ref (CBm K)) (some d) (upd H1 d (.xd [("msg", .str z)]))
structure RecD (K : PySem.W.Frag) (H : Hp) (r : Addr) (R : RD) (P : Addr → Prop) : Prop where
  ex : ∃ (dx : Addr) (g e : V), H r = some (.ins (CR K) dx (recV R.nm R.lv R.ln R.msg g R.clk e)) ∧ HD H (.tup R.n R.f) P g ∧ HD H (.dct R.ks R.fe) P e
  np : ¬ P r
theorem lkp_two {α β γ : Type} [DecidableEq α] {Rl : β → γ → Prop} (z : α) : ∀ {ra : List (α × β)} {rb : List (α × γ)}, Paired (fun a b => a.1 = b.1 ∧ Rl a.2 b.2) ra rb → (lkp ra z = none ∧ lkp rb z = none) ∨ ∃ v t, lkp ra z = some v ∧ lkp rb z = some t ∧ Rl v t
  | _, _, .nil => .inl ⟨rfl, rfl⟩
  | (x :: _), (y :: _), .cons h t => by
    rw [lk_cons, lk_cons, ← h.1]
    by_cases c : x.1 = z
    · rw [if_pos c, if_pos c]; exact .inr ⟨_, _, rfl, rfl, h.2⟩
    · rw [if_neg c, if_neg c]; exact lkp_two z t
theorem pr_kvs {β : Type} {Rl : β → Dt → Prop} : ∀ (kvs : List (Str × β)) (f : Nat → Dt), (∀ i v, kvs[i]? = some v → Rl v.2 (f i)) → Paired (fun a b => a.1 = b.1 ∧ Rl a.2 b.2) kvs (rowD (kvs.map (·.1)) f)
  | [], _, _ => .nil
  | (k, v) :: r, f, h => .cons ⟨rfl, h 0 _ rfl⟩ (pr_kvs r (fun i => f (i + 1)) fun i w hw => h (i + 1) w hw)
theorem lkp_at {β : Type} {z : Str} {t : β} : ∀ {rows : List (Str × β)}, lkp rows z = some t → ∃ i : Nat, rows[i]? = some (z, t)
  | rows, h => List.getElem?_of_mem (mem_lk h)
theorem RD.fld_dep {R : RD} (d : R.Dp) {z : Str} {t : Dt} (h : R.fld z = some t) : Dep 4 t := by
  unfold RD.fld at h
  cases e : lkp R.own z with
  | some u =>
    rw [e] at h
    cases h
    have hm := mem_lk e
    simp only [RD.own, List.mem_cons, List.not_mem_nil, or_false, Prod.mk.injEq] at hm
    rcases hm with ⟨_, rfl⟩ | ⟨_, rfl⟩ | ⟨_, rfl⟩ | ⟨_, rfl⟩ | ⟨_, rfl⟩ | ⟨_, rfl⟩ | ⟨_, rfl⟩
    · trivial
    · trivial
    · trivial
    · trivial
    · exact d.f
    · trivial
    · trivial
  | none =>
    rw [e] at h
    obtain ⟨i, hi⟩ := lkp_at h
    rw [rowD_get] at hi
    obtain ⟨k, hk, e2⟩ := Option.map_eq_some_iff.mp hi
    cases e2
    exact (d.e i (List.getElem?_eq_some_iff.mp hk).1).mono
theorem tx_add (a b : SS) : tx a ++ tx b = tx (a ++ b) := by
  refine TL.ext_tl ?_
  rw [TL.tl_append]
theorem strD_le {t : Dt} {n : Nat} (d : Dep n t) (m : Men t) : (RGm.strD t.py).length ≤ shB n := by
  have h := py_len d m
  cases t with
  | str s =>
    rw [Dt.py, PyData.shown] at h
    show s.length ≤ _
    have h1 := m.1.1
    cases n with
    | zero => exact d.elim
    | succ n => have := shB_60 n; omega
  | _ => rw [Dt.py] at h ⊢; exact h
theorem ArgAt.same {H H' : Hp} (s : Same H H') {x : V} {t : SS} (h : ArgAt H x t) : ArgAt H' x t := by
  obtain ⟨d, h1, h2⟩ := h
  exact ⟨d, nd_same s h1, h2⟩
theorem RecD.same {K : PySem.W.Frag} {H H' : Hp} (s : Same H H') {r : Addr} {R : RD} {P : Addr → Prop} (h : RecD K H r R P) : RecD K H' r R P := by
  obtain ⟨⟨dx, g, e, h1, h2, h3⟩, n⟩ := h
  exact ⟨⟨dx, g, e, s _ _ h1, h2.same s, h3.same s⟩, n⟩
theorem RD.Dp.args_at {R : RD} (d : R.Dp) {H : Hp} {P : Addr → Prop} {xs : List V} (hl : xs.length = R.n) (h : ∀ (i : Nat) (v : V), xs[i]? = some v → HD H (R.f i) P v) : Paired (ArgAt H) xs R.args := by
  refine pr_of xs R.args (by rw [hl, RD.args, List.length_map, List.length_range]) fun i x y hx hy => ?_
  have hi : i < R.n := by rw [← hl]; exact (List.getElem?_eq_some_iff.mp hx).1
  rw [RD.args, List.getElem?_map, List.getElem?_range hi] at hy
  cases hy
  have h1 := d.f i hi
  have h2 := d.m i hi
  have h3 := py_len h1 h2
  have h4 := strD_le h1 h2
  have h5 : (RGm.strD (R.f i).py).cps.toList.length = (RGm.strD (R.f i).py).length := Array.length_toList ..
  have h6 := py_depth h1
  have hB : shB 3 = 1180 := by decide +kernel
  rw [hB] at h3 h4
  exact ⟨_, nd_of (h i x hx) h1.mono, by omega, py_show h2, by rw [sizeLine_eq]; omega, rfl, by show (RGm.strD (R.f i).py).cps.toList.length ≤ 2000; omega⟩
def spMessage (K : PySem.W.Frag) : Sp := fun vs H Q E => ∃ (r : Addr) (R : RD) (P : Addr → Prop) (o : Option SS), vs = [.ref r] ∧ RecD K H r R P ∧ R.Dp ∧ R.MsgO o ∧
  (∀ (t : SS) (H' : Hp), o = some t → Same H H' → Q (.str (tx t)) H') ∧ (o = none → ErrM K H E R.msg)
theorem ok_message {f : Addr} (T : Txt P w K mg) (F : Stands K "message" "LogRecord.message" s_LogRecord_message [] f) (c_message_of : RGn.CallNG P w K mg base 4 (He.ga K "message_of") ["msg", "args"] (spMsgOf K)) : RGn.CallNG P w K mg base 5 f ["self"] (spMessage K) := by
  refine RGn.stands_callNG0 F sc_LogRecord_message (fun vs H Q E h => ?_) (fun cdv A outer s H vs Q E hr gd h => ?_) (fun _ _ _ _ _ _ us hl => match us, hl with | [_], _ => rfl)
  · obtain ⟨r, R, P, o, rfl, _⟩ := h; rfl
  generalize e1 : spMsgOf K = S1 at c_message_of
  obtain ⟨r, R, P, o, rfl, ⟨⟨dx, g, e, hrr, hg, he⟩, _⟩, hD, hO, hQ, hE⟩ := h
  obtain ⟨a, xs, P', rfl, _, _, hP', ha, hln, hl1, hxi⟩ := hg
  have hx : Paired (ArgAt H) xs R.args := hD.args_at hln hxi
  have hz := hD.zl
  have hxl : xs.length ≤ 100 := by rw [hln]; exact hD.nl
  refine ⟨_, (pss_one (ps_ret (pe_ifExp (pt_cmpR (RTe.op_eqTE (Nat.lt_of_succ_lt (hu_of hr))) (pe_fld (pv 0) rfl) (pe_tup pa_nil) (nomark _)) (pe_fld (pv 0) rfl) (RGn.pe_fnNG gd (L2N.takes_of rfl rfl rfl rfl) T.g_message_of c_message_of (hr.mono (by first | decide | exact Nat.le_refl _)) (by rfl) (pa_cons (pe_fld (pv 0) rfl) (pa_cons (pe_fld (pv 0) rfl) pa_nil)))))), ?_⟩
  dsimp only [cxKX]
  have hsl : xs.length = R.n := hln
  walk_at "go"
  intro q fq
  have s1 := same_new fq (.tup [])
  have q1 := upd_same (H := H) (a := q) (o := .tup [])
  have h1 := s1 _ _ ha
  have hr1 := s1 _ _ hrr
  have hx1 : Paired (ArgAt (upd H q (.tup []))) xs R.args := Paired.mapP hx fun _ _ q => q.same s1
  generalize upd H q (.tup []) = H1 at s1 q1 h1 hr1 hx1 ⊢
  refine ⟨a, q, xs, rfl, rfl, SqT.of h1, SqT.of q1, ?_⟩
  rcases hO with ⟨hs, ho⟩ | ⟨hs, hP⟩
  · have hx0 : xs = [] := List.eq_nil_of_length_eq_zero (by rw [hsl, hs])
    subst hx0
    refine ⟨_, rfl, iteT' rfl ?_⟩
    walk_at "go"
    have e2 : tx R.msg.cps.toList = R.msg := by cases R.msg; rfl
    have := hQ _ H1 ho s1
    rw [e2] at this
    exact this
  · have hx0 : xs ≠ [] := fun h => hs (by rw [← hsl, h]; rfl)
    refine ⟨_, rfl, iteF' (by cases xs with | nil => exact absurd rfl hx0 | cons _ _ => rfl) ?_⟩
    walk_at "go"
    refine (?_ : S1 [.str R.msg, .ref a] H1 _ _)
    rw [← e1]
    exact ⟨R.msg, a, xs, R.args, o, rfl, h1, hx1, hz, hxl, hP, fun t H2 ho s2 => hQ t H2 ho (s1.trans s2), fun d H2 ho s2 fd => hE ho d H2 (s1.trans s2) fd⟩
def spField (K : PySem.W.Frag) : Sp := fun vs H Q E => ∃ (r : Addr) (R : RD) (P : Addr → Prop) (z : Str), vs = [.ref r, .str z] ∧ RecD K H r R P ∧ R.Dp ∧
  (z = "message" → ∃ o, R.MsgO o ∧ (∀ (t : SS) (H' : Hp), o = some t → Same H H' → Q (.str (tx t)) H') ∧ (o = none → ErrM K H E R.msg)) ∧
  (z ≠ "message" → ∀ t, R.fld z = some t → ∀ H' v, Same H H' → HD H' t (fun b => H b = none) v → Q v H') ∧ (z ≠ "message" → R.fld z = none → ∀ H' d, Same H H' → H' d = none → E (.ref (He.ga K "BadField")) (some d) (upd H' d (.xd [("name", .str z)])))
theorem ok_field {f : Addr} (T : Txt P w K mg) (F : Stands K "field" "LogRecord.field" s_LogRecord_field [] f) (c_BadField_init : Callable P w K mg base 1 (He.ma K (He.ga K "BadField") "__init__") ["self", "name"] [] (RQ.spExcInit K "name")) (c_copied_value : Callable P w K mg base 5 (He.ga K "copied_value") ["thing"] [] (spCopD 4)) (c_LogRecord_message : RGn.CallNG P w K mg base 5 (He.ma K (He.ga K "LogRecord") "message") ["self"] (spMessage K)) : RGn.CallNG P w K mg base 6 f ["self", "name"] (spField K) := by
  refine RGn.stands_callNG0 F sc_LogRecord_field (fun vs H Q E h => ?_) (fun cdv A outer s0 H vs Q E hr gd h => ?_) (fun _ _ _ _ _ _ us hl => match us, hl with | [_, _], _ => rfl)
  · obtain ⟨r, R, P, z, rfl, _⟩ := h; rfl
  generalize e2 : spCopD 4 = S2 at c_copied_value
  generalize e1 : spMessage K = S1 at c_LogRecord_message
  obtain ⟨r, R, P, z, rfl, hR, hD, hM, hQ2, hE⟩ := h
  have hR0 := hR
  obtain ⟨⟨dx, g, e, hrr, hg, he⟩, np⟩ := hR0
  refine ⟨_, (pss_cons (ps_if (pt_cmpR op_eq (pv 1) pe_str (nomark _)) (pss_one (ps_ret (RGn.pe_mtNG0 gd (L2N.takes_of rfl rfl rfl rfl) T.c_LogRecord T.m_LogRecord_message c_LogRecord_message (hr.mono (by first | decide | exact Nat.le_refl _)) (pv 0)))) pss_nil)
      (pss_cons (ps_set (i := 2) sc_LogRecord_field.nd rfl (by first | exact Or.inl rfl | exact Or.inr rfl) (pe_disp (pps_cons pe_str (pe_fld (pv 0) rfl) (pps_cons pe_str (pe_fld (pv 0) rfl) (pps_cons pe_str (pe_fld (pv 0) rfl) (pps_cons pe_str (pe_fld (pv 0) rfl) pps_nil)))) (by rfl) (by rfl) (fun z => by cases z) (by decide)))
      (pss_cons (ps_expr (pe_bm PySem.F.plainAttrs_dict PySem.F.slot_dict_update PySem.F.type_dict_update RF.mt_updD (pv 2) (pa_cons (pe_disp (pps_cons pe_str (pe_fld (pv 0) rfl) (pps_cons pe_str (pe_fld (pv 0) rfl) (pps_cons pe_str (pe_op op_mod (pe_fld (pv 0) rfl) pe_int) pps_nil))) (by rfl) (by rfl) (fun z => by cases z) (by decide)) pa_nil)))
      (pss_cons (ps_set (i := 3) sc_LogRecord_field.nd rfl (by first | exact Or.inl rfl | exact Or.inr rfl) (pe_ifExp (pt_cmp (pc_din (hu_of hr) (pv 1) (pv 2))) (pv 2) (pe_fld (pv 0) rfl)))
      (pss_cons (ps_if (pt_cmp (pc_dnotin (hu_of hr) (pv 1) (pv 3))) (pss_one (RH.ps_excN rfl (L2N.takes_of rfl rfl rfl rfl) T.x_BadField c_BadField_init (hr.mono (by first | decide | exact Nat.le_refl _)) T.g_BadField (by rfl) (pa_cons (pv 1) pa_nil))) pss_nil)
      (pss_one (ps_ret (pe_fn T.g_copied_value c_copied_value (hr.mono (by first | decide | exact Nat.le_refl _)) (by rfl) (pa_cons (pe_dget (hu_of hr) (pv 3) (pv 1) (fun _ _ => rfl)) pa_nil))))))))), ?_⟩
  dsimp only [cxKX]
  by_cases c : z = "message"
  · subst c
    obtain ⟨o, hO, hQ3, hE3⟩ := hM rfl
    walk_at "go"
    refine (?_ : S1 [.ref r] H _ _)
    rw [← e1]
    exact ⟨r, R, P, o, rfl, hR, hD, hO, hQ3, hE3⟩
  replace hQ2 := hQ2 c
  replace hE := hE c
  clear hM
  refine seq_of (fun σ' H1 => H = H1 ∧ σ' = [some (.ref r), some (.str z), none, none]) (fun b' kb => ?_) (fun σ' H1 hm => ?_)
  · have hd : decide (V.str z = V.str "message") = false := decide_eq_false fun q => c (V.str.inj q)
    walk_at "go"
    exact kb _ _ ⟨rfl, rfl⟩
  obtain ⟨rfl, rfl⟩ := hm
  -- own
  walk_at "go"
  intro q1 fq1
  walk_at "go"
  generalize hH1 : upd (upd H q1 _) q1 _ = H1
  have s1 : Same H H1 := by rw [← hH1, upd_upd]; exact same_new fq1 _
  have hq1 : H1 q1 = some (.dK (dK [("name", .str R.nm), ("levelno", .int R.lv), ("levelname", .str R.ln), ("msg", .str R.msg)])) := by rw [← hH1]; exact upd_same
  clear hH1
  have hr2 := s1 _ _ hrr
  refine ⟨.inr (.inr (.inl ⟨rfl, .inl ⟨_, hq1⟩⟩)), ?_⟩
  walk_at "go"
  intro q2 fq2
  have n3 : q2 ≠ q1 := fun z => by rw [z, hq1] at fq2; cases fq2
  walk_at "go"
  generalize hH2 : upd (upd (upd H1 q2 _) q2 _) q1 _ = H2
  have hq3 : H2 q1 = some (.dK (rowK Sum.inr id [("name", .str R.nm), ("levelno", .int R.lv), ("levelname", .str R.ln), ("msg", .str R.msg), ("args", g), ("created", .int R.clk), ("msecs", .int (R.clk % 1000))])) := by rw [← hH2]; exact upd_same
  have s2 : Same H H2 := fun b u hb => by
    have b1 : b ≠ q1 := ne_of_none hb fq1
    have b2 : b ≠ q2 := ne_of_none (s1 _ _ hb) fq2
    rw [← hH2, upd_ne b1, upd_ne b2, upd_ne b2]; exact s1 _ _ hb
  clear hH2 s1 hq1 hr2
  obtain ⟨a, kvs, P', rfl, q1', q2', q3', had, hkl, hnd, hkn, hki⟩ := he
  have prO : Paired (fun (a : Str × V) (b : Str × Dt) => a.1 = b.1 ∧ HD H b.2 P a.2) [("name", .str R.nm), ("levelno", .int R.lv), ("levelname", .str R.ln), ("msg", .str R.msg), ("args", g), ("created", .int R.clk), ("msecs", .int (R.clk % 1000))] R.own :=
    .cons ⟨rfl, rfl⟩ (.cons ⟨rfl, rfl⟩ (.cons ⟨rfl, rfl⟩ (.cons ⟨rfl, rfl⟩ (.cons ⟨rfl, hg⟩ (.cons ⟨rfl, rfl⟩ (.cons ⟨rfl, rfl⟩ .nil))))))
  have prE : Paired (fun (a : Str × V) (b : Str × Dt) => a.1 = b.1 ∧ HD H b.2 P a.2) kvs (rowD R.ks R.fe) := by
    have := pr_kvs (Rl := fun v t => HD H t P v) kvs R.fe (fun i v hv => (hki i v hv).wide q3')
    rw [hkl] at this; exact this
  have ge0 := DGet.k (k := Sum.inr z) hq3
  rw [valV_rowK (fun _ _ z => Sum.inr.inj z)] at ge0
  have gE0 := DGet.k (k := Sum.inr z) (s2 _ _ had)
  rw [show (kvs.map fun e => ((Sum.inr e.1 : Key), e.2)) = rowK Sum.inr id kvs from rfl, valV_rowK (fun _ _ z => Sum.inr.inj z)] at gE0
  have evO := valV_rowK (f := (Sum.inr : Str → Key)) (g := (id : V → V)) (fun _ _ z => Sum.inr.inj z) z [("name", .str R.nm), ("levelno", .int R.lv), ("levelname", .str R.ln), ("msg", .str R.msg), ("args", g), ("created", .int R.clk), ("msecs", .int (R.clk % 1000))]
  have evE := valV_rowK (f := (Sum.inr : Str → Key)) (g := (id : V → V)) (fun _ _ z => Sum.inr.inj z) z kvs
  have fin : ∀ v t, R.fld z = some t → HD H t P v → spCopD 4 [v] H2 Q E0 := fun v t ht hv => ⟨v, t, P, rfl, hv.same s2, RD.fld_dep hD ht, fun H3 v3 s3 h3 => hQ2 t ht H3 v3 (s2.trans s3) (h3.wide fun b hb => s2.free hb)⟩
  rcases lkp_two (Rl := fun v t => HD H t P v) z prO with ⟨l1, l2⟩ | ⟨v, t, l1, l2, hv⟩
  · rw [l1] at ge0 evO
    refine iteF' (congrArg Option.isSome evO) ?_
    have hr2 := s2 _ _ hrr
    walk_at "go"
    rcases lkp_two (Rl := fun v t => HD H t P v) z prE with ⟨l3, l4⟩ | ⟨v, t, l3, l4, hv⟩
    · rw [l3] at evE
      refine iteT' (congrArg (fun o => !Option.isSome o) evE) ?_
      walk_at "go"
      intro dd fd
      exact hE (by unfold RD.fld; rw [l2, l4]; rfl) _ dd s2 fd
    · rw [l3] at gE0 evE
      refine iteF' (congrArg (fun o => !Option.isSome o) evE) ?_
      refine ⟨_, rfl, _, rfl, a, _, rfl, gE0, ?_⟩
      refine (?_ : S2 [v] H2 _ E0)
      rw [← e2]
      exact fin v t (by unfold RD.fld; rw [l2, l4]; rfl) hv
  · rw [l1] at ge0 evO
    refine iteT' (congrArg Option.isSome evO) ?_
    refine ⟨_, rfl, ?_⟩
    refine ⟨_, rfl, _, rfl, q1, _, rfl, ge0, _, rfl, iteF' rfl ?_⟩
    refine ⟨_, rfl, _, rfl, q1, _, rfl, ge0, ?_⟩
    refine (?_ : S2 [v] H2 _ E0)
    rw [← e2]
    exact fin v t (by unfold RD.fld; rw [l2]; rfl) hv
end
end K17

set_option Elab.async false
set_option linter.all false
set_option maxRecDepth 100000
set_option maxHeartbeats 0

namespace K17
open PySem PySem.Spec PyProof.Rows L2 RC
section
variable {P : Program} {w : World} {K : PySem.W.Frag} {mg : Str → Option Value} {base : Heap}
/-! ### fields, widths -/
abbrev CFd (K : PySem.W.Frag) : Addr := He.ga K "Field"
def fdF (n c f a : Str) (w : Int) : List (Str × V) := [("name", .str n), ("conversion", .str c), ("fill", .str f), ("align", .str a), ("width", .int w)]
def spFieldInit (K : PySem.W.Frag) : Sp := fun vs H Q _ => ∃ (p dx : Addr) (n c f a : Str) (w : Int), vs = [.ref p, .str n, .str c, .str f, .str a, .int w] ∧ H p = some (.ins (CFd K) dx []) ∧ Q .non (upd H p (.ins (CFd K) dx (fdF n c f a w)))
theorem field_body {f : Addr} {cdv : Value} {A : Around} {outer : List Env} {s : Shared} {H : Hp} {vs : List V} {Q : VK} {E : XK} (T : Txt P w K mg) (h : spFieldInit K vs H Q E) :
    ∃ t, PSs (cxOf CX0 P w K mg base nm_Field_init "Field.__init__" (defScope s_Field_init) f cdv A outer s H E).nox (defBody s_Field_init) t ∧ t { nx := fun _ H' => Q .non H', rt := Q } (L2.start nm_Field_init vs) H := by
  obtain ⟨p, dx, n, c, fl, al, wd, rfl, hp, hQ⟩ := h
  refine ⟨_, (pss_cons (ps_fld (pv 0) (pv 1) rfl)
      (pss_cons (ps_fld (pv 0) (pv 2) rfl)
      (pss_cons (ps_fld (pv 0) (pv 3) rfl)
      (pss_cons (ps_fld (pv 0) (pv 4) rfl)
      (pss_one (ps_fld (pv 0) (pv 5) rfl)))))), ?_⟩
  walk_at "in"
  walk_at "go"
  rw [upd_upd, upd_upd, upd_upd, upd_upd]
  exact hQ
/-- all but the first default given: Field(name, conversion) leaves three -/
theorem ok_field_init2 {f : Addr} (T : Txt P w K mg) (F : Stands K "__init__" "Field.__init__" s_Field_init [.str "", .str " ", .str "", .int 0] f) : Callable P w K mg base 1 f ["self", "name", "conversion", "fill", "align", "width"] [.str " ", .str "", .int 0] (spFieldInit K) := by
  refine F.call sc_Field_init 3 1 (fun vs H Q E h => ?_) (fun cdv A outer s H vs Q E hr h => field_body T h) (fun z => nomatch z) fun _ => ⟨rfl, fun _ _ _ _ _ _ _ us its hl hi => match us, hl, its, hi with | [_, _, _], _, [_, _, _, _], _ => ⟨_, rfl, rfl⟩⟩
  obtain ⟨p, dx, n, c, f, a, w, rfl, _⟩ := h; rfl
/-- all five given -/
theorem ok_field_init5 {f : Addr} (T : Txt P w K mg) (F : Stands K "__init__" "Field.__init__" s_Field_init [.str "", .str " ", .str "", .int 0] f) : Callable P w K mg base 1 f ["self", "name", "conversion", "fill", "align", "width"] [] (spFieldInit K) := by
  refine F.call sc_Field_init 6 4 (fun vs H Q E h => ?_) (fun cdv A outer s H vs Q E hr h => field_body T h) (fun z => nomatch z) fun _ => ⟨rfl, fun _ _ _ _ _ _ _ us its hl hi => match us, hl, its, hi with | [_, _, _, _, _, _], _, [_, _, _, _], _ => ⟨_, rfl, rfl⟩⟩
  obtain ⟨p, dx, n, c, f, a, w, rfl, _⟩ := h; rfl
def spNameEnd : Sp := fun vs H Q _ => ∃ (z : Str) (i n : Nat), vs = [.str z, .int (i : Nat)] ∧ z.length ≤ 1000000 ∧ i ≤ z.length ∧ RP.nmLen (z.cps.toList.drop i) = n ∧ Q (.int ((i + n : Nat) : Int)) H
theorem ok_name_end {f : Addr} (T : Txt P w K mg) (F : Stands K "name_end" "name_end" s_name_end [] f) : Callable P w K mg base 1 f ["text", "start"] [] spNameEnd := by
  refine F.call0 sc_name_end (fun vs H Q E h => ?_) (fun cdv A outer s H vs Q E hr h => ?_) (fun _ _ _ _ _ _ us hl => match us, hl with | [_, _], _ => rfl)
  · obtain ⟨z, i, n, rfl, _⟩ := h; rfl
  obtain ⟨z, i, n, rfl, hz, hi, rfl, hQ⟩ := h
  refine ⟨_, (pss_cons (ps_set (i := 2) sc_name_end.nd rfl (by first | exact Or.inl rfl | exact Or.inr rfl) (pv 1))
      (pss_cons (ps_while PassesOwn.never (PW.pt (pw_and (pt_cmpR op_lt (pv 2) (pe_callB call_len_str (by rfl) T.b_len (by decide +kernel) (pa_cons (pv 0) pa_nil)) (nomark _)) (pw_and1 (PW.pt (pw_or (pt_cmpR op_inS (pe_ix ix_str (pv 0) (pv 2) (fun _ _ => rfl)) (pe_gs (by rfl) T.g_LETTERS) (by rfl)) (pw_or1 (PW.pt (pw_and (pt_cmpR op_gt (pv 2) (pv 1) (nomark _)) (pw_and1 (pt_cmpR op_inS (pe_ix ix_str (pv 0) (pv 2) (fun _ _ => rfl)) (pe_gs (by rfl) T.g_DIGITS) (by rfl))))))))))) (pss_one (ps_aug (i := 2) sc_name_end.nd rfl (by first | exact Or.inl rfl | exact Or.inr rfl) pe_int ip_add)))
      (pss_one (ps_ret (pv 2))))), ?_⟩
  walk_at "in"
  have hl : z.cps.toList.length = z.length := Array.length_toList ..
  have hn := RP.nm_le (z.cps.toList.drop i)
  rw [List.length_drop, hl] at hn
  refine ⟨_, rfl, ?_⟩
  refine ⟨fun m σ H' => H' = H ∧ ∃ k, k ≤ RP.nmLen (z.cps.toList.drop i) ∧ m = RP.nmLen (z.cps.toList.drop i) - k ∧ σ = [some (.str z), some (.int (i : Nat)), some (.int ((i + k : Nat) : Int))], ⟨_, rfl, 0, Nat.zero_le _, rfl, rfl⟩, ?_⟩
  rintro m σ H' ⟨rfl, k, hk, rfl, rfl⟩
  have eL : ("abcdefghijklmnopqrstuvwxyzABCDEFGHIJKLMNOPQRSTUVWXYZ_" : Str).cps.toList = RP.letters := by decide +kernel
  have eD : ("0123456789" : Str).cps.toList = RP.digits := by decide +kernel
  have hget : (z.cps.toList.drop i)[k]? = z.cps.toList[i + k]? := List.getElem?_drop ..
  by_cases c : k = RP.nmLen (z.cps.toList.drop i)
  · have ce := RP.cont_end (z.cps.toList.drop i)
    rw [← c] at ce hQ
    by_cases e : i + k < z.length
    · have t1 : decide (((i + k : Nat) : Int) < (z.length : Nat)) = true := decide_eq_true (by omega)
      obtain ⟨ch, hc⟩ : ∃ ch, z.cps.toList[i + k]? = some ch := ⟨_, List.getElem?_eq_getElem (by rw [hl]; exact e)⟩
      have hat : atI z.cps.toList ((i + k : Nat) : Int) = some ch := atI_nat hc
      unfold RP.contB at ce
      rw [hget, hc] at ce
      obtain ⟨ce1, ce2⟩ := Bool.or_eq_false_iff.mp ce
      have t2 : decide (ch ∈ ("abcdefghijklmnopqrstuvwxyzABCDEFGHIJKLMNOPQRSTUVWXYZ_" : Str).cps.toList) = false := by rw [eL]; exact ce1
      have hz2 : z.length ≤ sizeLine := by rw [sizeLine_eq]; omega
      by_cases k0 : k = 0
      · have t3 : decide (((i : Nat) : Int) < ((i + k : Nat) : Int)) = false := decide_eq_false (by omega)
        walk_at "go"
        exact hQ
      · have t3 : decide (((i : Nat) : Int) < ((i + k : Nat) : Int)) = true := decide_eq_true (by omega)
        have t4 : decide (ch ∈ ("0123456789" : Str).cps.toList) = false := by
          rw [eD]
          rcases Bool.and_eq_false_iff.mp ce2 with h | h
          · exact absurd (of_decide_eq_false h) (by omega)
          · exact h
        walk_at "go"
        exact hQ
    · have t1 : decide (((i + k : Nat) : Int) < (z.length : Nat)) = false := decide_eq_false (by omega)
      walk_at "go"
      exact hQ
  · have lt : k < RP.nmLen (z.cps.toList.drop i) := by omega
    have ce := RP.cont_lt lt
    have e : i + k < z.length := by omega
    have t1 : decide (((i + k : Nat) : Int) < (z.length : Nat)) = true := decide_eq_true (by omega)
    obtain ⟨ch, hc⟩ : ∃ ch, z.cps.toList[i + k]? = some ch := ⟨_, List.getElem?_eq_getElem (by rw [hl]; exact e)⟩
    have hat : atI z.cps.toList ((i + k : Nat) : Int) = some ch := atI_nat hc
    have hz2 : z.length ≤ sizeLine := by rw [sizeLine_eq]; omega
    unfold RP.contB at ce
    rw [hget, hc] at ce
    have next : ∀ H2 : Hp, H2 = H' → ∃ m', m' < RP.nmLen (z.cps.toList.drop i) - k ∧ H2 = H' ∧ ∃ k', k' ≤ RP.nmLen (z.cps.toList.drop i) ∧ m' = RP.nmLen (z.cps.toList.drop i) - k' ∧ [some (V.str z), some (V.int (i : Nat)), some (V.int (((i + k : Nat) : Int) + 1))] = [some (.str z), some (.int (i : Nat)), some (.int ((i + k' : Nat) : Int))] :=
      fun H2 h => ⟨RP.nmLen (z.cps.toList.drop i) - (k + 1), by omega, h, k + 1, by omega, rfl, by rw [show ((i + (k + 1) : Nat) : Int) = ((i + k : Nat) : Int) + 1 by omega]⟩
    cases ce1 : RP.letB ch with
    | true =>
      have t2 : decide (ch ∈ ("abcdefghijklmnopqrstuvwxyzABCDEFGHIJKLMNOPQRSTUVWXYZ_" : Str).cps.toList) = true := by rw [eL]; exact ce1
      walk_at "go"
      refine ⟨_, fun _ _ h => h, ?_⟩
      walk_at "go"
      exact (next _ rfl).choose_spec
    | false =>
      replace ce : (RP.letB ch || (decide (0 < k) && RP.digB ch)) = true := ce
      rw [ce1, Bool.false_or] at ce
      obtain ⟨ce3, ce4⟩ := Bool.and_eq_true_iff.mp ce
      have t2 : decide (ch ∈ ("abcdefghijklmnopqrstuvwxyzABCDEFGHIJKLMNOPQRSTUVWXYZ_" : Str).cps.toList) = false := by rw [eL]; exact ce1
      have t3 : decide (((i : Nat) : Int) < ((i + k : Nat) : Int)) = true := decide_eq_true (by have := of_decide_eq_true ce3; omega)
      have t4 : decide (ch ∈ ("0123456789" : Str).cps.toList) = true := by rw [eD]; exact ce4
      walk_at "go"
      refine ⟨_, fun _ _ h => h, ?_⟩
      walk_at "go"
      exact (next _ rfl).choose_spec
def spWidth : Sp := fun vs H Q _ => ∃ z : Str, vs = [.str z] ∧ z.length ≤ 1000000 ∧ ∀ H', Same H H' → Q (.bl (RO.wdB z.cps.toList)) H'
theorem ok_width {f : Addr} (T : Txt P w K mg) (F : Stands K "is_width" "is_width" s_is_width [] f) : Callable P w K mg base 1 f ["text"] [] spWidth := by
  refine F.call0 sc_is_width (fun vs H Q E h => ?_) (fun cdv A outer s0 H vs Q E hr h => ?_) (fun _ _ _ _ _ _ us hl => match us, hl with | [_], _ => rfl)
  · obtain ⟨z, rfl, _⟩ := h; rfl
  obtain ⟨z, rfl, hz, hQ⟩ := h
  refine ⟨_, (pss_one (ps_ret (pe_and (pe_chain op_lt op_lt pe_int (pe_callB call_len_str (by rfl) T.b_len (by decide +kernel) (pa_cons (pv 0) pa_nil)) pe_int) (pe_and (pe_cmpR op_ne (pe_ix ix_str (pv 0) pe_int (fun _ _ => rfl)) pe_str (nomark _)) (pe_one (pe_callB (cr_all rfl) (by rfl) T.b_all (by decide +kernel) (pa_cons (pe_lc (own := [("sign", 1)]) (by rfl) sc_is_width.nd (pi_str (pv 0)) (blkOk_by (own := [("sign", 1)]) (N := nm_is_width) (sc := defScope s_is_width) (by decide +kernel)) (fun _ _ _ _ _ => (pg_name (i := 1) sc_is_width.nd rfl (by first | exact Or.inl rfl | exact Or.inr rfl))) (fun _ _ _ _ _ => pts_nil) (fun _ _ _ _ _ => (pe_cmpR op_inS (pv 1) (pe_gs (by rfl) T.g_DIGITS) (by rfl)))) pa_nil))))))), ?_⟩
  walk_at "in"
  have hl : z.cps.toList.length = z.length := Array.length_toList ..
  have hz2 : z.length ≤ sizeLine := by rw [sizeLine_eq]; omega
  have eW : RO.wdB z.cps.toList = ((decide (0 < z.length) && decide (z.length < 3)) && (decide (z.cps.toList.head? ≠ some 48) && z.cps.toList.all RP.digB)) := by unfold RO.wdB; rw [hl]
  have q := hQ H (Same.refl H)
  walk_at "go"
  by_cases h0 : 0 < z.length
  · refine iteT' (decide_eq_true (by omega)) ?_
    by_cases h3 : z.length < 3
    · refine ⟨_, _, rfl, rfl, _, rfl, iteT' (decide_eq_true (by omega)) ?_⟩
      rw [decide_eq_true h0, decide_eq_true h3] at eW
      obtain ⟨c, r, hc⟩ : ∃ c r, z.cps.toList = c :: r := by
        cases e : z.cps.toList with
        | nil => rw [e, List.length_nil] at hl; omega
        | cons c r => exact ⟨c, r, rfl⟩
      have hat : atI z.cps.toList 0 = some c := atI_nat (j := 0) (by rw [hc]; rfl)
      have e0 : Str.ofString "0" = tx [48] := by decide +kernel
      by_cases c0 : c = 48
      · have t5 : (!decide (V.str ⟨#[c]⟩ = V.str (Str.ofString "0"))) = false := by rw [e0, c0, decide_eq_true rfl]; rfl
        have eW2 : RO.wdB z.cps.toList = false := by rw [eW, hc, c0]; rfl
        rw [eW2] at q
        walk_at "go"
        exact q
      · have t5 : (!decide (V.str ⟨#[c]⟩ = V.str (Str.ofString "0"))) = true := by
          rw [e0, decide_eq_false fun h => c0 (List.cons.inj (tx_inj (a := [c]) (V.str.inj h))).1]; rfl
        have eW2 : RO.wdB z.cps.toList = z.cps.toList.all RP.digB := by
          rw [eW, hc]
          have : decide ((c :: r).head? ≠ some 48) = true := decide_eq_true fun h => c0 (Option.some.inj h)
          rw [this]; rfl
        rw [eW2] at hQ
        clear q
        have eD : (Str.ofString "0123456789").cps.toList = RP.digits := by decide +kernel
        walk_at "go"
        intro D hD
        refine lc_it walk_str (fun i H' => H' = upd H D (.lst ((z.cps.toList.take i).map fun c => V.bl (RP.digB c)))) rfl (fun _ _ _ _ => trivial) (fun i x H1 H2 hi hp hy => ?_) (fun H1 hp => ?_)
        · obtain ⟨rfl, e, he, rfl⟩ := hy
          subst hp
          have he' : z.cps.toList[i]? = some e := by simpa using he
          refine ⟨rfl, yes_if ?_⟩
          refine ⟨_, rfl, e, Str.ofString "0123456789", rfl, rfl, _, upd_same, ?_, ?_⟩
          · rw [List.length_map, List.length_take, sizeLine_eq]; omega
          · rw [upd_upd, take_snoc he', List.map_append, eD]; rfl
        · subst hp
          refine ⟨D, z.cps.toList.map RP.digB, rfl, SqL.of ?_, ?_⟩
          · rw [upd_same, List.map_map, ← Array.length_toList, List.take_length]; rfl
          · have e2 : ((z.cps.toList.map RP.digB).all id) = z.cps.toList.all RP.digB := by rw [List.all_map]; rfl
            rw [e2]
            exact hQ _ (same_new hD _)
    · refine ⟨_, _, rfl, rfl, _, rfl, iteF' (decide_eq_false (by omega)) ?_⟩
      rw [eW, decide_eq_false h3] at q
      rw [Bool.and_false, Bool.false_and] at q
      exact q
  · refine iteF' (decide_eq_false (by omega)) ⟨_, rfl, iteF' rfl ?_⟩
    rw [eW, decide_eq_false h0] at q
    exact q
theorem s_aligns : [Str.ofString "<", Str.ofString ">", Str.ofString "^"].map V.str = ([[60], [62], [94]] : List (List Nat)).map fun m => V.str (tx m) := by
  have e1 : Str.ofString "<" = tx [60] := by decide +kernel
  have e2 : Str.ofString ">" = tx [62] := by decide +kernel
  have e3 : Str.ofString "^" = tx [94] := by decide +kernel
  rw [e1, e2, e3]; rfl
theorem al_in (c : Nat) : decide ([c] ∈ ([[60], [62], [94]] : List (List Nat))) = RO.alB c := by
  unfold RO.alB
  refine decide_eq_decide.mpr ⟨fun h => ?_, fun h => ?_⟩
  · rcases List.mem_cons.mp h with h | h
    · cases h; decide
    rcases List.mem_cons.mp h with h | h
    · cases h; decide
    rcases List.mem_cons.mp h with h | h
    · cases h; decide
    · cases h
  · rcases List.mem_cons.mp h with h | h
    · subst h; decide
    rcases List.mem_cons.mp h with h | h
    · subst h; decide
    rcases List.mem_cons.mp h with h | h
    · subst h; decide
    · cases h
def wN (l : List Nat) : Int := (PySem.intText? (tx l)).getD 0
theorem wN_nil : wN [] = 0 := by decide +kernel
def fdD (d : RO.Fd) : List (Str × V) := fdF (tx d.1) (tx d.2.1) (tx d.2.2.1) (tx d.2.2.2.1) (wN d.2.2.2.2)
end
end K17

set_option Elab.async false
set_option linter.all false
set_option maxRecDepth 100000
set_option maxHeartbeats 0

namespace K17
open PySem PySem.Spec PyProof.Rows L2 RC
section
variable {P : Program} {w : World} {K : PySem.W.Frag} {mg : Str → Option Value} {base : Heap}
/-! ### specs -/
def spSpec (K : PySem.W.Frag) : Sp := fun vs H Q _ => ∃ z : Str, vs = [.str z] ∧ z.length ≤ 1000000 ∧ (RO.specB z.cps.toList = none → ∀ H', Same H H' → Q .non H') ∧
  (∀ fl al wd, RO.specB z.cps.toList = some (fl, al, wd) → ∀ (t : Addr) (H' : Hp), Same H H' → H' t = some (.tup [.str (tx fl), .str (tx al), .int (wN wd)]) → Q (.ref t) H')
theorem ok_spec {f : Addr} (T : Txt P w K mg) (F : Stands K "spec_of" "spec_of" s_spec_of [] f) (c_is_width : Callable P w K mg base 1 (He.ga K "is_width") ["text"] [] spWidth) : Callable P w K mg base 2 f ["spec"] [] (spSpec K) := by
  refine F.call0 sc_spec_of (fun vs H Q E h => ?_) (fun cdv A outer s0 H vs Q E hr h => ?_) (fun _ _ _ _ _ _ us hl => match us, hl with | [_], _ => rfl)
  · obtain ⟨z, rfl, _⟩ := h; rfl
  obtain ⟨z, rfl, hz, hN, hS⟩ := h
  refine ⟨_, (pss_cons (ps_par3 (by rfl) sc_spec_of.nd (i := 1) (j := 2) (l := 3) rfl rfl rfl (by decide) (by decide) (by decide) rfl rfl rfl (pa_cons pe_str (pa_cons pe_str (pa_cons (pv 0) pa_nil))) (by rfl))
      (pss_cons (ps_if (pt_cmpR op_in_seq (pe_slice sl_str (pv 0) (po_some pe_int) (po_some pe_int)) (pe_glob (v := .ref _) (by rfl) T.g_ALIGNS rfl) (by rfl)) (pss_one (ps_par3 (by rfl) sc_spec_of.nd (i := 1) (j := 2) (l := 3) rfl rfl rfl (by decide) (by decide) (by decide) rfl rfl rfl (pa_cons (pe_ix ix_str (pv 0) pe_int (fun _ _ => rfl)) (pa_cons (pe_ix ix_str (pv 0) pe_int (fun _ _ => rfl)) (pa_cons (pe_slice sl_str (pv 0) (po_some pe_int) po_none) pa_nil))) (by rfl))) (pss_one (ps_if (pt_cmpR op_in_seq (pe_slice sl_str (pv 0) po_none (po_some pe_int)) (pe_glob (v := .ref _) (by rfl) T.g_ALIGNS rfl) (by rfl)) (pss_one (ps_par (by rfl) sc_spec_of.nd (i := 2) (j := 3) rfl rfl (by decide) rfl rfl (pa_cons (pe_ix ix_str (pv 0) pe_int (fun _ _ => rfl)) (pa_cons (pe_slice sl_str (pv 0) (po_some pe_int) po_none) pa_nil)) (by rfl))) pss_nil)))
      (pss_cons (ps_if (PW.pt (pw_or (pt_cmpR op_in_seq (pv 1) (pe_tup (pa_cons pe_str (pa_cons pe_str pa_nil))) (by rfl)) (pw_or (PW.pt (pw_and (pt_cmpR op_eq (pv 3) pe_str (nomark _)) (pw_and1 (pt_cmpR op_eq (pv 2) pe_str (nomark _))))) (pw_or1 (PW.pt (pw_and (pt_cmpR op_ne (pv 3) pe_str (nomark _)) (pw_and1 (pt_not (pt_val (pe_fn T.g_is_width c_is_width (hr.mono (by first | decide | exact Nat.le_refl _)) (by rfl) (pa_cons (pv 3) pa_nil))))))))))) (pss_one (ps_ret pe_non)) pss_nil)
      (pss_one (ps_ret (pe_tup (pa_cons (pv 1) (pa_cons (pv 2) (pa_cons (pe_ifExp (pt_cmpR op_eq (pv 3) pe_str (nomark _)) pe_int (pe_callTy call_int_str (by rfl) T.b_int (by decide +kernel) (pa_cons (pv 3) pa_nil))) pa_nil))))))))), ?_⟩
  walk_at "in"
  have hl : z.cps.toList.length = z.length := Array.length_toList ..
  have hz2 : z.length ≤ sizeLine := by rw [sizeLine_eq]; omega
  have kt := T.kt_ALIGNS
  refine seq_of (fun σ' H' => σ' = [some (.str z), some (.str " "), some (.str ""), some (.str z)] ∧ H = H') (fun b' kb => ?_) (fun σ' H' hm => ?_)
  · walk_at "go"
    exact kb _ _ ⟨rfl, rfl⟩
  obtain ⟨rfl, rfl⟩ := hm
  generalize hlz : z.cps.toList = l at hN hS hl
  have c12 : cutS z (some 1) (some 2) = tx ((l.drop 1).take 1) := by rw [← hlz]; exact cut_ab (a := 1) (b := 2) (by decide)
  have c01 : cutS z none (some 1) = tx (l.take 1) := by rw [← hlz]; exact cut_to (b := 1)
  have c2 : cutS z (some 2) none = tx (l.drop 2) := by rw [← hlz]; exact cut_from (a := 2)
  have c1 : cutS z (some 1) none = tx (l.drop 1) := by rw [← hlz]; exact cut_from (a := 1)
  have v1 : inV (.str (cutS z (some 1) (some 2))) ([Str.ofString "<", Str.ofString ">", Str.ofString "^"].map V.str) = decide ((l.drop 1).take 1 ∈ ([[60], [62], [94]] : List (List Nat))) := by rw [c12, s_aligns, inV_tx]
  have v2 : inV (.str (cutS z none (some 1))) ([Str.ofString "<", Str.ofString ">", Str.ofString "^"].map V.str) = decide (l.take 1 ∈ ([[60], [62], [94]] : List (List Nat))) := by rw [c01, s_aligns, inV_tx]
  refine seq_of (fun σ' H' => ∃ fl al wd, RO.cut3 l = (fl, al, wd) ∧ wd.length ≤ l.length ∧ σ' = [some (.str z), some (.str (tx fl)), some (.str (tx al)), some (.str (tx wd))] ∧ H = H') (fun b' kb => ?_) (fun σ' H' hm => ?_)
  · walk_at "go"
    refine ⟨.inr (kt _), rfl, rfl, _, rfl, ?_⟩
    match l, hlz, c12, c01, c2, c1, v1, v2, kb with
    | [], hlz, c12, c01, c2, c1, v1, v2, kb =>
      refine iteF' (by rw [v1]; rfl) ?_
      walk_at "go"
      refine ⟨.inr (kt _), rfl, rfl, _, rfl, ?_⟩
      refine iteF' (by rw [v2]; rfl) ?_
      walk_at "go"
      refine kb _ _ ⟨[32], [], [], rfl, Nat.le_refl _, ?_, rfl⟩
      rw [← s_blank, ← s_empty, ← tx_of z, hlz, s_empty]
    | [c], hlz, c12, c01, c2, c1, v1, v2, kb =>
      refine iteF' (by rw [v1]; rfl) ?_
      walk_at "go"
      refine ⟨.inr (kt _), rfl, rfl, _, rfl, ?_⟩
      have hat : atI z.cps.toList 0 = some c := atI_nat (j := 0) (by rw [hlz]; rfl)
      cases ha : RO.alB c with
      | true =>
        refine iteT' (by rw [v2]; exact (al_in c).trans ha) ?_
        walk_at "go"
        refine kb _ _ ⟨[32], [c], [], by rw [RO.cut_one, if_pos ha], Nat.zero_le _, ?_, rfl⟩
        rw [c1]; rw [← s_blank]; rfl
      | false =>
        refine iteF' (by rw [v2]; exact (al_in c).trans ha) ?_
        walk_at "go"
        refine kb _ _ ⟨[32], [], [c], by rw [RO.cut_one, if_neg (by rw [ha]; decide)], Nat.le_refl _, ?_, rfl⟩
        rw [← s_blank, ← s_empty, ← hlz, tx_of]
    | c :: d :: r, hlz, c12, c01, c2, c1, v1, v2, kb =>
      have hat : atI z.cps.toList 0 = some c := atI_nat (j := 0) (by rw [hlz]; rfl)
      have hat1 : atI z.cps.toList 1 = some d := atI_nat (j := 1) (by rw [hlz]; rfl)
      cases hd : RO.alB d with
      | true =>
        refine iteT' (by rw [v1]; exact (al_in d).trans hd) ?_
        walk_at "go"
        refine kb _ _ ⟨[c], [d], r, by rw [RO.cut_two, if_pos hd], by simp only [List.length_cons]; omega, ?_, rfl⟩
        rw [c2]; rfl
      | false =>
        refine iteF' (by rw [v1]; exact (al_in d).trans hd) ?_
        walk_at "go"
        refine ⟨.inr (kt _), rfl, rfl, _, rfl, ?_⟩
        cases ha : RO.alB c with
        | true =>
          refine iteT' (by rw [v2]; exact (al_in c).trans ha) ?_
          walk_at "go"
          refine kb _ _ ⟨[32], [c], d :: r, by rw [RO.cut_two, if_neg (by rw [hd]; decide), if_pos ha], by simp only [List.length_cons]; omega, ?_, rfl⟩
          rw [c1]; rw [← s_blank]; rfl
        | false =>
          refine iteF' (by rw [v2]; exact (al_in c).trans ha) ?_
          walk_at "go"
          refine kb _ _ ⟨[32], [], c :: d :: r, by rw [RO.cut_two, if_neg (by rw [hd]; decide), if_neg (by rw [ha]; decide)], Nat.le_refl _, ?_, rfl⟩
          rw [← s_blank, ← s_empty, ← hlz, tx_of]
  · obtain ⟨fl, al, wd, hc, hwl, rfl, rfl⟩ := hm
    clear v1 v2 c12 c01 c1 c2 kt
    have eB : RO.specB l = if RO.okB fl al wd then some (fl, al, wd) else none := by unfold RO.specB; rw [hc]
    rw [s_empty, s_open, s_close]
    have wl : (tx wd).length ≤ 1000000 := by rw [tx_len]; omega
    have wl2 : (tx wd).length ≤ sizeLine := by rw [sizeLine_eq]; omega
    have vF : inV (.str (tx fl)) [V.str (tx [123]), V.str (tx [125])] = decide (fl ∈ ([[123], [125]] : List (List Nat))) := inV_tx fl [[123], [125]]
    have none_of : RO.okB fl al wd = false → ∀ H', Same H H' → Q .non H' := fun h => hN (by rw [eB, if_neg (by rw [h]; decide)])
    have some_of : RO.okB fl al wd = true → _ := fun h => hS fl al wd (by rw [eB, if_pos h])
    have okF : (decide (fl = [123]) || decide (fl = [125])) = decide (fl ∈ ([[123], [125]] : List (List Nat))) := by
      by_cases h1 : fl = [123]
      · subst h1; rfl
      by_cases h2 : fl = [125]
      · subst h2; rfl
      · rw [decide_eq_false h1, decide_eq_false h2, decide_eq_false]; · rfl
        intro h
        rcases List.mem_cons.mp h with h | h
        · exact h1 h
        rcases List.mem_cons.mp h with h | h
        · exact h2 h
        · cases h
    unfold RO.okB at none_of some_of
    rw [okF] at none_of some_of
    walk_at "go"
    intro p fp
    have s0 : Same H (upd H p (.tup [.str (tx [123]), .str (tx [125])])) := same_new fp _
    have hp : (upd H p (.tup [.str (tx [123]), .str (tx [125])])) p = some (.tup [.str (tx [123]), .str (tx [125])]) := upd_same
    generalize upd H p (.tup [.str (tx [123]), .str (tx [125])]) = H1 at s0 hp ⊢
    refine ⟨p, _, rfl, .inr (SqT.of hp), rfl, rfl, _, rfl, ?_⟩
    by_cases hf : fl ∈ ([[123], [125]] : List (List Nat))
    · refine iteT' (vF.trans (decide_eq_true hf)) ?_
      rw [decide_eq_true hf] at none_of
      walk_at "go"
      exact none_of rfl _ s0
    refine iteF' (vF.trans (decide_eq_false hf)) ?_
    rw [decide_eq_false hf] at none_of some_of
    by_cases hw : wd = []
    · have t1 : decide (V.str (tx wd) = V.str (tx [])) = true := (tx_dec wd []).trans (decide_eq_true hw)
      have t1' : (!decide (V.str (tx wd) = V.str (tx []))) = false := by rw [t1]; rfl
      rw [decide_eq_true hw] at none_of some_of
      by_cases ha : al = []
      · have t2 : decide (V.str (tx al) = V.str (tx [])) = true := (tx_dec al []).trans (decide_eq_true ha)
        rw [decide_eq_true ha] at none_of
        walk_at "go"
        exact none_of rfl _ s0
      · have t2 : decide (V.str (tx al) = V.str (tx [])) = false := (tx_dec al []).trans (decide_eq_false ha)
        rw [decide_eq_false ha] at some_of
        walk_at "go"
        intro t ft
        exact some_of rfl t _ (s0.trans (same_new ft _)) (by rw [hw, wN_nil]; exact upd_same)
    · have t1 : decide (V.str (tx wd) = V.str (tx [])) = false := (tx_dec wd []).trans (decide_eq_false hw)
      have t1' : (!decide (V.str (tx wd) = V.str (tx []))) = true := by rw [t1]; rfl
      rw [decide_eq_false hw] at none_of some_of
      walk_at "go"
      intro H2 s2
      cases hv : RO.wdB wd with
      | true =>
        rw [hv] at some_of
        obtain ⟨n, hn⟩ := RV.width_int hv
        have wz : (tx wd).length ≤ 640 := by
          obtain ⟨q1, _⟩ := Bool.and_eq_true_iff.mp (show ((decide (0 < wd.length) && decide (wd.length < 3)) && _) = true from hv)
          have := of_decide_eq_true (Bool.and_eq_true_iff.mp q1).2
          rw [tx_len]; omega
        walk_at "go"
        intro t ft
        exact some_of rfl t _ ((s0.trans s2).trans (same_new ft _)) (by have e : wN wd = n := (by unfold wN; rw [hn]; rfl); rw [e]; exact upd_same)
      | false =>
        rw [hv] at none_of
        walk_at "go"
        exact none_of rfl _ (s0.trans s2)
end
end K17

set_option Elab.async false
set_option linter.all false
set_option maxRecDepth 100000
set_option maxHeartbeats 0

namespace K17
open PySem PySem.Spec PyProof.Rows L2 RC
section
variable {P : Program} {w : World} {K : PySem.W.Frag} {mg : Str → Option Value} {base : Heap}
/-! ### the field between two braces -/
def spFieldOf (K : PySem.W.Frag) : Sp := fun vs H Q _ => ∃ z : Str, vs = [.str z] ∧ z.length ≤ 1000000 ∧ (RO.fieldB z.cps.toList = none → ∀ H', Same H H' → Q .non H') ∧
  (∀ d, RO.fieldB z.cps.toList = some d → ∀ (q dx : Addr) (H' : Hp), Same H H' → H q = none → H' q = some (.ins (CFd K) dx (fdD d)) → Q (.ref q) H')
theorem ok_field_of {f : Addr} (T : Txt P w K mg) (F : Stands K "field_of" "field_of" s_field_of [] f) (c_name_end : Callable P w K mg base 1 (He.ga K "name_end") ["text", "start"] [] spNameEnd) (c_spec_of : Callable P w K mg base 2 (He.ga K "spec_of") ["spec"] [] (spSpec K))
    (c_Field_init_d3 : Callable P w K mg base 1 (He.ma K (He.ga K "Field") "__init__") ["self", "name", "conversion", "fill", "align", "width"] [.str " ", .str "", .int 0] (spFieldInit K)) (c_Field_init : Callable P w K mg base 1 (He.ma K (He.ga K "Field") "__init__") ["self", "name", "conversion", "fill", "align", "width"] [] (spFieldInit K)) : Callable P w K mg base 3 f ["body"] [] (spFieldOf K) := by
  refine F.call0 sc_field_of (fun vs H Q E h => ?_) (fun cdv A outer s0 H vs Q E hr h => ?_) (fun _ _ _ _ _ _ us hl => match us, hl with | [_], _ => rfl)
  · obtain ⟨z, rfl, _⟩ := h; rfl
  obtain ⟨z, rfl, hz, hN, hS⟩ := h
  refine ⟨_, (pss_cons (ps_set (i := 1) sc_field_of.nd rfl (by first | exact Or.inl rfl | exact Or.inr rfl) (pe_fn T.g_name_end c_name_end (hr.mono (by first | decide | exact Nat.le_refl _)) (by rfl) (pa_cons (pv 0) (pa_cons pe_int pa_nil))))
      (pss_cons (ps_par3 (by rfl) sc_field_of.nd (i := 2) (j := 3) (l := 4) rfl rfl rfl (by decide) (by decide) (by decide) rfl rfl rfl (pa_cons (pe_slice sl_str (pv 0) po_none (po_some (pv 1))) (pa_cons (pe_slice sl_str (pv 0) (po_some (pv 1)) po_none) (pa_cons pe_str pa_nil))) (by rfl))
      (pss_cons (ps_if (pt_cmpR op_in_seq (pe_slice sl_str (pv 3) po_none (po_some pe_int)) (pe_tup (pa_cons pe_str (pa_cons pe_str pa_nil))) (by rfl)) (pss_one (ps_par (by rfl) sc_field_of.nd (i := 4) (j := 3) rfl rfl (by decide) rfl rfl (pa_cons (pe_ix ix_str (pv 3) pe_int (fun _ _ => rfl)) (pa_cons (pe_slice sl_str (pv 3) (po_some pe_int) po_none) pa_nil)) (by rfl))) pss_nil)
      (pss_cons (ps_if (PW.pt (pw_or (pt_cmpR op_eq (pv 2) pe_str (nomark _)) (pw_or1 (PW.pt (pw_and (pt_cmpR op_ne (pv 3) pe_str (nomark _)) (pw_and1 (pt_cmpR op_ne (pe_ix ix_str (pv 3) pe_int (fun _ _ => rfl)) pe_str (nomark _)))))))) (pss_one (ps_ret pe_non)) pss_nil)
      (pss_cons (ps_if (pt_cmpR op_eq (pv 3) pe_str (nomark _)) (pss_one (ps_ret (pe_mk T.k_Field T.g_Field c_Field_init_d3 (hr.mono (by first | decide | exact Nat.le_refl _)) (by rfl) (pa_cons (pv 2) (pa_cons (pv 4) pa_nil))))) pss_nil)
      (pss_cons (ps_set (i := 5) sc_field_of.nd rfl (by first | exact Or.inl rfl | exact Or.inr rfl) (pe_fn T.g_spec_of c_spec_of (hr.mono (by first | decide | exact Nat.le_refl _)) (by rfl) (pa_cons (pe_slice sl_str (pv 3) (po_some pe_int) po_none) pa_nil)))
      (pss_one (ps_ret (pe_ifExp (pt_cmpR op_isN (pv 5) pe_non (nomark _)) pe_non (pe_mk T.k_Field T.g_Field c_Field_init (hr.mono (by first | decide | exact Nat.le_refl _)) (by rfl) (pa_cons (pv 2) (pa_cons (pv 4) (pa_cons (pe_ix ix_tup (pv 5) pe_int (fun _ _ => rfl)) (pa_cons (pe_ix ix_tup (pv 5) pe_int (fun _ _ => rfl)) (pa_cons (pe_ix ix_tup (pv 5) pe_int (fun _ _ => rfl)) pa_nil))))))))))))))), ?_⟩
  walk_at "in"
  have hl : z.cps.toList.length = z.length := Array.length_toList ..
  have hz2 : z.length ≤ sizeLine := by rw [sizeLine_eq]; omega
  generalize hlz : z.cps.toList = l at hN hS hl
  generalize hn : RP.nmLen l = n at hN hS
  have nl := RP.nm_le l
  rw [hn] at nl
  have nz : n ≤ z.length := by omega
  refine seq_of (fun σ' H' => σ' = [some (.str z), some (.int (n : Nat)), none, none, none, none] ∧ H = H') (fun b' kb => ?_) (fun σ' H' hm => ?_)
  · walk_at "go"
    refine kb _ _ ⟨?_, rfl⟩
    rw [Nat.zero_add, List.drop_zero, hlz, hn]; rfl
  obtain ⟨rfl, rfl⟩ := hm
  have c1 : cutS z none (some (n : Int)) = tx (l.take n) := by rw [← hlz]; exact cut_to (b := n)
  have c2 : cutS z (some (n : Int)) none = tx (l.drop n) := by rw [← hlz]; exact cut_from (a := n)
  refine seq_of (fun σ' H' => σ' = [some (.str z), some (.int (n : Nat)), some (.str (tx (l.take n))), some (.str (tx (l.drop n))), some (.str (tx [])), none] ∧ H = H') (fun b' kb => ?_) (fun σ' H' hm => ?_)
  · walk_at "go"
    refine kb _ _ ⟨?_, rfl⟩
    rw [c1, c2, ← s_empty]; rfl
  obtain ⟨rfl, rfl⟩ := hm
  clear c1 c2
  generalize hr : l.drop n = r
  have rl : r.length ≤ l.length := by rw [← hr, List.length_drop]; omega
  have rl2 : (tx r).length ≤ sizeLine := by rw [tx_len, sizeLine_eq]; omega
  have etr : (tx r).cps.toList = r := rfl
  refine seq_of (fun σ' H' => ∃ cv rs, RO.conv r = (cv, rs) ∧ rs.length ≤ l.length ∧ σ' = [some (.str z), some (.int (n : Nat)), some (.str (tx (l.take n))), some (.str (tx rs)), some (.str (tx cv)), none] ∧ Same H H') (fun b' kb => ?_) (fun σ' H' hm => ?_)
  · have c3 : cutS (tx r) none (some 2) = tx (r.take 2) := cut_to (b := 2)
    have c4 : cutS (tx r) (some 2) none = tx (r.drop 2) := cut_from (a := 2)
    have vF : inV (.str (cutS (tx r) none (some 2))) [V.str (tx [33, 114]), V.str (tx [33, 115])] = decide (r.take 2 ∈ ([[33, 114], [33, 115]] : List (List Nat))) := by rw [c3]; exact inV_tx _ [[33, 114], [33, 115]]
    rw [s_bangr, s_bangs]
    walk_at "go"
    intro p fp
    have s1 : Same H (upd H p (.tup [.str (tx [33, 114]), .str (tx [33, 115])])) := same_new fp _
    have hp : (upd H p (.tup [.str (tx [33, 114]), .str (tx [33, 115])])) p = some (.tup [.str (tx [33, 114]), .str (tx [33, 115])]) := upd_same
    generalize upd H p (.tup [.str (tx [33, 114]), .str (tx [33, 115])]) = H1 at s1 hp ⊢
    refine ⟨p, _, rfl, .inr (SqT.of hp), rfl, rfl, _, rfl, ?_⟩
    by_cases hf : r.take 2 ∈ ([[33, 114], [33, 115]] : List (List Nat))
    · refine iteT' (vF.trans (decide_eq_true hf)) ?_
      have hf2 : r.take 2 = [33, 114] ∨ r.take 2 = [33, 115] := by
        rcases List.mem_cons.mp hf with h | h
        · exact .inl h
        · exact .inr (List.mem_singleton.mp h)
      obtain ⟨c, hc, hc2⟩ : ∃ c, r[1]? = some c ∧ (r.drop 1).take 1 = [c] := by
        match r, hf2 with
        | [], h => rcases h with h | h <;> cases h
        | [_], h => rcases h with h | h <;> cases h
        | a :: c :: r, h => exact ⟨c, rfl, rfl⟩
      have hat : atI (tx r).cps.toList 1 = some c := atI_nat (j := 1) hc
      walk_at "go"
      refine kb _ _ ⟨[c], r.drop 2, ?_, by rw [List.length_drop]; omega, ?_, s1⟩
      · unfold RO.conv; rw [if_pos hf2, hc2]
      · rw [c4]; rfl
    · refine iteF' (vF.trans (decide_eq_false hf)) ?_
      walk_at "go"
      refine kb _ _ ⟨[], r, ?_, rl, rfl, s1⟩
      unfold RO.conv
      rw [if_neg fun h => hf ?_]
      rcases h with h | h
      · rw [h]; exact List.mem_cons_self
      · rw [h]; exact List.mem_cons_of_mem _ List.mem_cons_self
  obtain ⟨cv, rs, hcv, rsl, rfl, s1⟩ := hm
  have eF : RO.fieldB l = if n = 0 then none else (match rs with
      | [] => some (l.take n, cv, [32], [], [])
      | c :: q => if c = 58 then (RO.specB q).map fun q => (l.take n, cv, q) else none) := by
    unfold RO.fieldB
    rw [hn, hr, hcv]
    try (cases rs <;> rfl)
  rw [eF] at hN hS
  clear eF rl rl2 etr hr hcv
  have rsl2 : (tx rs).length ≤ sizeLine := by rw [tx_len, sizeLine_eq]; omega
  rw [s_empty, s_colon]
  refine seq_of (fun σ' H2 => n ≠ 0 ∧ (rs = [] ∨ ∃ q, rs = 58 :: q) ∧ σ' = [some (.str z), some (.int (n : Nat)), some (.str (tx (l.take n))), some (.str (tx rs)), some (.str (tx cv)), none] ∧ H' = H2) (fun b' kb => ?_) (fun σ' H2 hm => ?_)
  · by_cases n0 : n = 0
    · rw [if_pos n0] at hN
      have t1 : decide (V.str (tx (l.take n)) = V.str (tx [])) = true := (tx_dec _ _).trans (decide_eq_true (by rw [n0]; rfl))
      walk_at "go"
      exact hN rfl _ s1
    · have ln : l.take n ≠ [] := fun h => by
        have := congrArg List.length h
        rw [List.length_take, List.length_nil] at this; omega
      have t1 : decide (V.str (tx (l.take n)) = V.str (tx [])) = false := (tx_dec _ _).trans (decide_eq_false ln)
      cases rs with
      | nil =>
        have t2 : (!decide (V.str (tx ([] : List Nat)) = V.str (tx []))) = false := by rw [decide_eq_true rfl]; rfl
        walk_at "go"
        exact kb _ _ ⟨n0, .inl rfl, rfl, rfl⟩
      | cons c q =>
        have t2 : (!decide (V.str (tx (c :: q)) = V.str (tx []))) = true := by rw [tx_dec, decide_eq_false (fun h => nomatch h)]; rfl
        have hat : atI (tx (c :: q)).cps.toList 0 = some c := atI_nat (j := 0) rfl
        by_cases e : c = 58
        · have t3 : (!decide (V.str ⟨#[c]⟩ = V.str (tx [58]))) = false := by rw [e, decide_eq_true rfl]; rfl
          walk_at "go"
          exact kb _ _ ⟨n0, .inr ⟨q, by rw [e]⟩, rfl, rfl⟩
        · have t3 : (!decide (V.str ⟨#[c]⟩ = V.str (tx [58]))) = true := by
            rw [show (!decide (V.str ⟨#[c]⟩ = V.str (tx [58]))) = !decide (V.str (tx [c]) = V.str (tx [58])) from rfl, tx_dec, decide_eq_false fun h => e (List.cons.inj h).1]; rfl
          rw [if_neg n0] at hN
          walk_at "go"
          exact hN (if_neg e) _ s1
  obtain ⟨n0, hrs, rfl, rfl⟩ := hm
  rw [if_neg n0] at hN hS
  rcases hrs with rfl | ⟨q, rfl⟩
  · have t2 : decide (V.str (tx ([] : List Nat)) = V.str (tx [])) = true := decide_eq_true rfl
    walk_at "go"
    intro x dx f1 f2 f3
    refine ⟨x, dx, _, _, _, _, _, rfl, upd_same, rfl, ?_⟩
    rw [upd_upd]
    have s3 := (same_new f2 (.own x)).trans (same_new (by rw [upd_ne (Ne.symm f3)]; exact f1) (.ins (CFd K) dx (fdF (tx (l.take n)) (tx cv) " " (tx []) 0)))
    exact hS _ rfl x dx _ (s1.trans s3) (RW.free_same s1 f1) (by rw [upd_same]; unfold fdD; rw [wN_nil, ← s_blank])
  · have t2 : decide (V.str (tx (58 :: q)) = V.str (tx [])) = false := (tx_dec _ _).trans (decide_eq_false fun h => nomatch h)
    have c5 : cutS (tx (58 :: q)) (some 1) none = tx q := cut_from (a := 1)
    have ql : (tx q).length ≤ 1000000 := by rw [tx_len]; rw [List.length_cons] at rsl; omega
    walk_at "go"
    rw [c5]
    refine ⟨ql, fun hb H2 s2 => ?_, fun fl al wd hb t H2 s2 ht => ?_⟩
    · replace hb : RO.specB q = none := hb
      walk_at "go"
      exact hN (by show (if (58 : Nat) = 58 then (RO.specB q).map _ else none) = none; rw [if_pos rfl, hb]; rfl) _ (s1.trans s2)
    · replace hb : RO.specB q = some (fl, al, wd) := hb
      walk_at "go"
      intro x dx f1 f2 f3
      refine ⟨x, dx, _, _, _, _, _, rfl, upd_same, rfl, ?_⟩
      rw [upd_upd]
      have s3 := (same_new f2 (.own x)).trans (same_new (by rw [upd_ne (Ne.symm f3)]; exact f1) (.ins (CFd K) dx (fdF (tx (l.take n)) (tx cv) (tx fl) (tx al) (wN wd))))
      refine hS (l.take n, cv, fl, al, wd) (by
        show (if (58 : Nat) = 58 then (RO.specB q).map _ else none) = _
        rw [if_pos rfl, hb]; rfl) x dx _ ((s1.trans s2).trans s3) (RW.free_same (s1.trans s2) f1) upd_same
end
end K17

set_option Elab.async false
set_option linter.all false
set_option maxRecDepth 100000
set_option maxHeartbeats 0

namespace K17
open PySem PySem.Spec PyProof.Rows L2 RC
section
variable {P : Program} {w : World} {K : PySem.W.Frag} {mg : Str → Option Value} {base : Heap}
/-! ### the parts of a format in braces -/
def PtV (K : PySem.W.Frag) (H : Hp) : RO.Pt → V → Prop
  | .inl c, v => v = .str ⟨#[c]⟩
  | .inr d, v => ∃ q dx, v = .ref q ∧ H q = some (.ins (CFd K) dx (fdD d))
inductive PtsV (K : PySem.W.Frag) (H : Hp) : List RO.Pt → List V → Prop
  | nil : PtsV K H [] []
  | cons {p : RO.Pt} {v : V} {ps : List RO.Pt} {vs : List V} : PtV K H p v → PtsV K H ps vs → PtsV K H (p :: ps) (v :: vs)
theorem PtV.to {K : PySem.W.Frag} {H H' : Hp} (h : ∀ (q dx : Addr) (fs : List (Str × V)), fs.length = 5 → H q = some (.ins (CFd K) dx fs) → H' q = some (.ins (CFd K) dx fs)) : ∀ {p : RO.Pt} {v : V}, PtV K H p v → PtV K H' p v
  | .inl _, _, e => e
  | .inr d, _, ⟨q, dx, e, g⟩ => ⟨q, dx, e, h _ _ _ rfl g⟩
theorem PtsV.to {K : PySem.W.Frag} {H H' : Hp} (h : ∀ (q dx : Addr) (fs : List (Str × V)), fs.length = 5 → H q = some (.ins (CFd K) dx fs) → H' q = some (.ins (CFd K) dx fs)) : ∀ {ps : List RO.Pt} {vs : List V}, PtsV K H ps vs → PtsV K H' ps vs
  | _, _, .nil => .nil
  | _, _, .cons a b => .cons (a.to h) (b.to h)
theorem PtsV.same {K : PySem.W.Frag} {H H' : Hp} (s : Same H H') {ps : List RO.Pt} {vs : List V} (h : PtsV K H ps vs) : PtsV K H' ps vs := h.to fun _ _ _ _ e => s _ _ e
theorem PtsV.put {K : PySem.W.Frag} {H : Hp} {p : Addr} {xs : List V} {o : HO} (e : H p = some (.lst xs)) {ps : List RO.Pt} {vs : List V} (h : PtsV K H ps vs) : PtsV K (upd H p o) ps vs := h.to fun q dx fs l g => by
  rw [upd_ne]; exact g
  intro z; rw [z, e] at g; cases g
theorem PtV.put {K : PySem.W.Frag} {H : Hp} {p : Addr} {xs : List V} {o : HO} (e : H p = some (.lst xs)) {x : RO.Pt} {v : V} (h : PtV K H x v) : PtV K (upd H p o) x v := h.to fun q dx fs l g => by
  rw [upd_ne]; exact g
  intro z; rw [z, e] at g; cases g
theorem PtsV.own {K : PySem.W.Frag} {H : Hp} {p C dx : Addr} {o : HO} (e : H p = some (.ins C dx [])) {ps : List RO.Pt} {vs : List V} (h : PtsV K H ps vs) : PtsV K (upd H p o) ps vs := h.to fun q dx n l g => by
  rw [upd_ne]; exact g
  intro z; rw [z, e] at g; cases g; cases l
theorem PtsV.snoc {K : PySem.W.Frag} {H : Hp} {p : RO.Pt} {v : V} (h : PtV K H p v) : ∀ {ps : List RO.Pt} {vs : List V}, PtsV K H ps vs → PtsV K H (ps ++ [p]) (vs ++ [v])
  | _, _, .nil => .cons h .nil
  | _, _, .cons a b => .cons a (b.snoc h)
theorem PtsV.get {K : PySem.W.Frag} {H : Hp} : ∀ {ps : List RO.Pt} {vs : List V}, PtsV K H ps vs → ∀ {i : Nat} {v : V}, vs[i]? = some v → ∃ x, ps[i]? = some x ∧ PtV K H x v
  | _, _, .nil, _, _, h => by cases h
  | _, _, .cons a b, 0, _, h => by cases h; exact ⟨_, rfl, a⟩
  | _, _, .cons a b, _ + 1, _, h => b.get h
theorem PtsV.len {K : PySem.W.Frag} {H : Hp} : ∀ {ps : List RO.Pt} {vs : List V}, PtsV K H ps vs → ps.length = vs.length
  | _, _, .nil => rfl
  | _, _, .cons _ b => congrArg Nat.succ b.len
theorem len_add (a b : Str) : (a ++ b).length = a.length + b.length := by
  rw [TL.len_tl, TL.tl_append, List.length_append, ← TL.len_tl, ← TL.len_tl]
def spParts (K : PySem.W.Frag) : Sp := fun vs H Q _ => ∃ (z : Str) (o : Option (List RO.Pt)), vs = [.str z] ∧ z.length ≤ 1000000 ∧ RO.PB z.cps.toList o ∧
  (∀ H' : Hp, o = none → Same H H' → Q .non H') ∧
  (∀ (ps : List RO.Pt) (vs : List V) (p : Addr) (H' : Hp), o = some ps → Same H H' → H p = none → H' p = some (.lst vs) → vs.length ≤ 1000000 → PtsV K H' ps vs → Q (.ref p) H')
/-! ### the parts of a format in braces, walked -/
theorem two_inv : ∀ {s : List Nat} {o : Option (List RO.Pt)}, RO.PB s o → ∀ {c : Nat} {r : List Nat}, s = c :: c :: r → (c = 123 ∨ c = 125) → ∃ o2, RO.PB r o2 ∧ o = o2.map (Sum.inl c :: ·)
  | _, _, .nil, _, _, e, _ => by cases e
  | _, _, .two _ h, _, _, e, _ => by cases e; exact ⟨_, h, rfl⟩
  | _, _, .ch h1 h2 _, _, _, e, hc => by cases e; exact (hc.elim h1 h2).elim
  | _, _, .close h, _, _, e, _ => by cases e; exact absurd rfl h
  | _, _, .lost h _, _, _, e, _ => by cases e; exact absurd rfl h
  | _, _, .bad h _ _, _, _, e, _ => by
    obtain ⟨rfl, e2⟩ := List.cons.inj e
    rw [e2] at h; exact absurd rfl h
  | _, _, .fld h _ _ _, _, _, e, _ => by
    obtain ⟨rfl, e2⟩ := List.cons.inj e
    rw [e2] at h; exact absurd rfl h
theorem from_nat (n i : Nat) : fromIndex n (i : Int) = i := by
  unfold fromIndex
  rw [if_neg (by omega)]; omega
theorem getD_list (z : Str) (v : Nat) : z.cps.getD v 0 = (z.cps.toList[v]?).getD 0 := by
  rw [Array.getD_eq_getD_getElem?, Array.getElem?_toList]
theorem getD_some {z : Str} {v : Nat} (h : v < z.length) (e : z.cps.getD v 0 = 125) : z.cps.toList[v]? = some 125 := by
  have hl : z.cps.toList.length = z.length := Array.length_toList ..
  rw [getD_list, List.getElem?_eq_getElem (by rw [hl]; exact h)] at e
  rw [List.getElem?_eq_getElem (by rw [hl]; exact h)]
  exact congrArg some e
theorem find_at {z : Str} {i : Nat} {b t : List Nat} (h : z.cps.toList.drop i = b ++ 125 :: t) (hb : 125 ∉ b) (hi : i ≤ z.length) : Txt.find3 z (tx [125]) (i : Int) = ((i + b.length : Nat) : Int) := by
  have hl : z.cps.toList.length = z.length := Array.length_toList ..
  have at_b : z.cps.toList[i + b.length]? = some 125 := by
    rw [← List.getElem?_drop, h, List.getElem?_append_right (Nat.le_refl _), Nat.sub_self]; rfl
  have inb : ∀ j, j < b.length → z.cps.toList[i + j]? = some 125 → False := fun j hj e => by
    rw [← List.getElem?_drop, h, List.getElem?_append_left hj] at e
    exact hb (List.mem_of_getElem? e)
  have gb : z.cps.getD (i + b.length) 0 = 125 := by rw [getD_list, at_b]; rfl
  have lb : i + b.length < z.length := by rw [← hl]; exact (List.getElem?_eq_some_iff.mp at_b).1
  have hs := PySem.StrLaws.find3_spec z 125 (i : Int)
  rw [from_nat] at hs
  rcases hs with ⟨_, h2⟩ | ⟨k, h1, h2, h3, h4, h5⟩
  · exact absurd gb (h2 _ (by omega) lb)
  · refine h1.trans ?_
    rcases Nat.lt_trichotomy k (i + b.length) with q | q | q
    · exact (inb (k - i) (by omega) (by rw [show i + (k - i) = k by omega]; exact getD_some h3 h4)).elim
    · rw [q]
    · exact absurd gb (h5 _ (by omega) q)
theorem find_no {z : Str} {i : Nat} (h : 125 ∉ z.cps.toList.drop i) (hi : i ≤ z.length) : Txt.find3 z (tx [125]) (i : Int) = -1 := by
  have hs := PySem.StrLaws.find3_spec z 125 (i : Int)
  rw [from_nat] at hs
  rcases hs with ⟨h1, _⟩ | ⟨k, h1, h2, h3, h4, h5⟩
  · exact h1
  · refine absurd ?_ h
    have e := getD_some h3 h4
    rw [show k = i + (k - i) by omega, ← List.getElem?_drop] at e
    exact List.mem_of_getElem? e
theorem ok_parts {f : Addr} (T : Txt P w K mg) (F : Stands K "parts_of_braces" "parts_of_braces" s_parts_of_braces [] f) (c_field_of : Callable P w K mg base 3 (He.ga K "field_of") ["body"] [] (spFieldOf K)) : Callable P w K mg base 4 f ["fmt"] [] (spParts K) := by
  refine F.call0 sc_parts_of_braces (fun vs H Q E h => ?_) (fun cdv A outer s H vs Q E hr h => ?_) (fun _ _ _ _ _ _ us hl => match us, hl with | [_], _ => rfl)
  · obtain ⟨z, o, rfl, _⟩ := h; rfl
  obtain ⟨z, o, rfl, hz, hP, hN, hS⟩ := h
  refine ⟨_, (pss_cons (ps_par (by rfl) sc_parts_of_braces.nd (i := 1) (j := 2) rfl rfl (by decide) rfl rfl (pa_cons (pe_lst pa_nil) (pa_cons pe_int pa_nil)) (by rfl))
      (pss_cons (ps_while PassesOwn.never (pt_cmpR op_lt (pv 2) (pe_callB call_len_str (by rfl) T.b_len (by decide +kernel) (pa_cons (pv 0) pa_nil)) (nomark _)) (pss_cons (ps_par (by rfl) sc_parts_of_braces.nd (i := 3) (j := 4) rfl rfl (by decide) rfl rfl (pa_cons (pe_op op_add (pv 2) pe_int) (pa_cons (pe_ix ix_str (pv 0) (pv 2) (fun _ _ => rfl)) pa_nil)) (by rfl))
      (pss_cons (ps_if (pt_cmpR op_in_seq (pe_slice sl_str (pv 0) (po_some (pv 2)) (po_some (pe_op op_add (pv 2) pe_int))) (pe_tup (pa_cons pe_str (pa_cons pe_str pa_nil))) (by rfl)) (pss_one (ps_set (i := 3) sc_parts_of_braces.nd rfl (by first | exact Or.inl rfl | exact Or.inr rfl) (pe_op op_add (pv 2) pe_int))) (pss_one (ps_if (pt_cmpR op_in_seq (pv 4) (pe_tup (pa_cons pe_str (pa_cons pe_str pa_nil))) (by rfl)) (pss_cons (ps_set (i := 3) sc_parts_of_braces.nd rfl (by first | exact Or.inl rfl | exact Or.inr rfl) (pe_op op_add (pe_bm PySem.F.plainAttrs_str PySem.F.slot_str_find PySem.F.type_str_find mt_find3 (pv 0) (pa_cons pe_str (pa_cons (pv 2) pa_nil))) pe_int))
      (pss_one (ps_set (i := 4) sc_parts_of_braces.nd rfl (by first | exact Or.inl rfl | exact Or.inr rfl) (pe_ifExp (pt_cmpR op_gt (pv 3) pe_int (nomark _)) (pe_fn T.g_field_of c_field_of (hr.mono (by first | decide | exact Nat.le_refl _)) (by rfl) (pa_cons (pe_slice sl_str (pv 0) (po_some (pe_op op_add (pv 2) pe_int)) (po_some (pe_op op_sub (pv 3) pe_int))) pa_nil)) pe_non)))) pss_nil)))
      (pss_cons (ps_if (pt_cmpR op_isN (pv 4) pe_non (nomark _)) (pss_one (ps_ret pe_non)) pss_nil)
      (pss_cons (ps_expr (pe_bm PySem.F.plainAttrs_list PySem.F.slot_list_append PySem.F.type_list_append mt_append (pv 1) (pa_cons (pv 4) pa_nil)))
      (pss_one (ps_set (i := 2) sc_parts_of_braces.nd rfl (by first | exact Or.inl rfl | exact Or.inr rfl) (pv 3))))))))
      (pss_one (ps_ret (pv 1))))), ?_⟩
  walk_at "in"
  have hl : z.cps.toList.length = z.length := Array.length_toList ..
  have hz2 : z.length ≤ sizeLine := by rw [sizeLine_eq]; omega
  walk_at "go"
  intro p fp
  walk_at "go"
  refine ⟨fun m σ H' => Same H H' ∧ ∃ (i : Nat) (ps : List RO.Pt) (vs : List V) (o' : Option (List RO.Pt)) (a b : Option V), m = z.length - i ∧ i ≤ z.length ∧ vs.length ≤ i ∧ H' p = some (.lst vs) ∧ PtsV K H' ps vs ∧ RO.PB (z.cps.toList.drop i) o' ∧ o = o'.map (ps ++ ·) ∧ σ = [some (.str z), some (.ref p), some (.int (i : Nat)), a, b], ⟨_, same_new fp _, 0, [], [], o, _, _, rfl, Nat.zero_le _, Nat.zero_le _, upd_same, .nil, hP, by cases o <;> rfl, rfl⟩, ?_⟩
  rintro m σ H1 ⟨s1, i, ps, vs, o', a, b, rfl, hi, hv, hp, hps, hd, ho, rfl⟩
  rw [s_open2, s_close2, s_open, s_close]
  by_cases c : i < z.length
  · have t1 : decide (((i : Nat) : Int) < (z.length : Nat)) = true := decide_eq_true (by omega)
    have c2 : cutS z (some (i : Int)) (some ((i : Int) + 2)) = tx ((z.cps.toList.drop i).take 2) := by
      have := cut_ab (z := z) (a := i) (b := i + 2) (by omega)
      rw [show i + 2 - i = 2 by omega] at this
      exact this
    obtain ⟨ch, hc⟩ : ∃ ch, z.cps.toList[i]? = some ch := ⟨_, List.getElem?_eq_getElem (by rw [hl]; exact c)⟩
    have hat : atI z.cps.toList ((i : Nat) : Int) = some ch := atI_nat hc
    have hdr : z.cps.toList.drop i = ch :: z.cps.toList.drop (i + 1) := by
      obtain ⟨h1, h2⟩ := List.getElem?_eq_some_iff.mp hc
      rw [← h2]; exact List.drop_eq_getElem_cons h1
    have hsz : vs.length < sizeLine := by rw [sizeLine_eq]; omega
    have hdi := hdr
    generalize hr : z.cps.toList.drop (i + 1) = r at hdi
    have hlr : r.length = z.length - (i + 1) := by rw [← hr, List.length_drop, hl]
    rw [hdi] at hd c2
    have next : ∀ (j : Nat) (e : Int) (x : RO.Pt) (v a b : V) (H2 : Hp) (o2 : Option (List RO.Pt)), e = (j : Int) → i < j → j ≤ z.length → Same H H2 → H2 p = some (.lst vs) → PtV K H2 x v → PtsV K H2 ps vs → RO.PB (z.cps.toList.drop j) o2 → o = o2.map ((ps ++ [x]) ++ ·) →
        ∃ m', m' < z.length - i ∧ Same H (upd H2 p (.lst (vs ++ [v]))) ∧ ∃ (i' : Nat) (ps' : List RO.Pt) (vs' : List V) (o' : Option (List RO.Pt)) (a' b' : Option V), m' = z.length - i' ∧ i' ≤ z.length ∧ vs'.length ≤ i' ∧ upd H2 p (.lst (vs ++ [v])) p = some (.lst vs') ∧ PtsV K (upd H2 p (.lst (vs ++ [v]))) ps' vs' ∧ RO.PB (z.cps.toList.drop i') o' ∧ o = o'.map (ps' ++ ·) ∧ [some (V.str z), some (V.ref p), some (V.int e), some a, some b] = [some (.str z), some (.ref p), some (.int (i' : Nat)), a', b'] :=
      fun j e x v a b H2 o2 e1 e2 e3 e4 e5 e6 e7 e8 e9 => ⟨z.length - j, by omega, fun b u hb => (by rw [upd_ne (ne_of_none hb fp)]; exact e4 _ _ hb), j, ps ++ [x], vs ++ [v], o2, some a, some b, rfl, e3, by rw [List.length_append]; show vs.length + 1 ≤ j; omega, upd_same, (e7.put e5).snoc (e6.put e5), e8, e9, by rw [e1]⟩
    walk_at "go"
    refine ⟨_, fun _ _ h => h, ?_⟩
    refine seq_of (fun σ' H' => σ' = [some (.str z), some (.ref p), some (.int (i : Nat)), some (.int ((i : Int) + 1)), some (.str ⟨#[ch]⟩)] ∧ H1 = H') (fun b' kb => ?_) (fun σ' H' hm => ?_)
    · walk_at "go"
      exact kb _ _ ⟨rfl, rfl⟩
    obtain ⟨rfl, rfl⟩ := hm
    refine seq_of (fun σ' H2 => (o = none ∧ ∃ e, σ' = [some (.str z), some (.ref p), some (.int (i : Nat)), some (.int e), some .non] ∧ Same H1 H2) ∨
      (∃ (j : Nat) (x : RO.Pt) (v : V) (o2 : Option (List RO.Pt)), σ' = [some (.str z), some (.ref p), some (.int (i : Nat)), some (.int (j : Nat)), some v] ∧ decide (v = .non) = false ∧ i < j ∧ j ≤ z.length ∧ Same H1 H2 ∧ PtV K H2 x v ∧ RO.PB (z.cps.toList.drop j) o2 ∧ o = o2.map ((ps ++ [x]) ++ ·))) (fun b' kb => ?_) (fun σ' H2 hm => ?_)
    · walk_at "go"
      intro q fq
      have s2 : Same H1 (upd H1 q (.tup [.str (tx [123, 123]), .str (tx [125, 125])])) := same_new fq _
      have hq : (upd H1 q (.tup [.str (tx [123, 123]), .str (tx [125, 125])])) q = some (.tup [.str (tx [123, 123]), .str (tx [125, 125])]) := upd_same
      generalize upd H1 q (.tup [.str (tx [123, 123]), .str (tx [125, 125])]) = H2 at s2 hq ⊢
      refine ⟨q, _, rfl, .inr (SqT.of hq), rfl, rfl, _, rfl, ?_⟩
      have vF : inV (.str (cutS z (some (i : Int)) (some ((i : Int) + 2)))) [V.str (tx [123, 123]), V.str (tx [125, 125])] = decide ((ch :: r).take 2 ∈ ([[123, 123], [125, 125]] : List (List Nat))) := by rw [c2]; exact inV_tx _ [[123, 123], [125, 125]]
      by_cases hf : (ch :: r).take 2 ∈ ([[123, 123], [125, 125]] : List (List Nat))
      · refine iteT' (vF.trans (decide_eq_true hf)) ?_
        have two : ∃ r2, (ch = 123 ∨ ch = 125) ∧ r = ch :: r2 := by
          cases r with
          | nil =>
            rcases List.mem_cons.mp hf with h | h
            · cases h
            · cases List.mem_singleton.mp h
          | cons d r2 =>
            rcases List.mem_cons.mp hf with h | h
            · cases h; exact ⟨r2, .inl rfl, rfl⟩
            · cases List.mem_singleton.mp h; exact ⟨r2, .inr rfl, rfl⟩
        obtain ⟨r2, hch, rfl⟩ := two
        have hr2 : z.cps.toList.drop (i + 2) = r2 := by rw [show i + 2 = (i + 1) + 1 by omega, ← List.drop_drop, hr]; rfl
        obtain ⟨o2, h2, ho2⟩ : ∃ o2, RO.PB r2 o2 ∧ o' = o2.map (Sum.inl ch :: ·) := by
          exact two_inv hd rfl hch
        walk_at "go"
        refine kb _ _ (.inr ⟨i + 2, .inl ch, .str ⟨#[ch]⟩, o2, rfl, rfl, by omega, by rw [List.length_cons] at hlr; omega, s2, rfl, by rw [hr2]; exact h2, ?_⟩)
        rw [ho, ho2]; cases o2 <;> simp
      · refine iteF' (vF.trans (decide_eq_false hf)) ?_
        walk_at "go"
        intro q2 fq2
        have s3 : Same H2 (upd H2 q2 (.tup [.str (tx [123]), .str (tx [125])])) := same_new fq2 _
        have hq2 : (upd H2 q2 (.tup [.str (tx [123]), .str (tx [125])])) q2 = some (.tup [.str (tx [123]), .str (tx [125])]) := upd_same
        generalize upd H2 q2 (.tup [.str (tx [123]), .str (tx [125])]) = H3 at s3 hq2 ⊢
        refine ⟨q2, _, rfl, .inr (SqT.of hq2), rfl, rfl, _, rfl, ?_⟩
        have s13 := s2.trans s3
        have vG : inV (.str ⟨#[ch]⟩) [V.str (tx [123]), V.str (tx [125])] = decide ([ch] ∈ ([[123], [125]] : List (List Nat))) := inV_tx [ch] [[123], [125]]
        cases hd with
        | two h1 h2 =>
          refine absurd ?_ hf
          rcases h1 with rfl | rfl
          · exact List.mem_cons_self
          · exact List.mem_cons_of_mem _ List.mem_cons_self
        | @ch _ _ o2 h1 h2 h3 =>
          refine iteF' (vG.trans (decide_eq_false fun h => ?_)) ?_
          · rcases List.mem_cons.mp h with h | h
            · cases h; exact h1 rfl
            · cases List.mem_singleton.mp h; exact h2 rfl
          walk_at "go"
          refine kb _ _ (.inr ⟨i + 1, .inl ch, .str ⟨#[ch]⟩, o2, rfl, rfl, by omega, by omega, s13, rfl, by rw [hr]; exact h3, ?_⟩)
          rw [ho]; cases o2 <;> simp
        | close h1 =>
          refine iteT' (vG.trans (decide_eq_true (List.mem_cons_of_mem _ List.mem_cons_self))) ?_
          have fa : Txt.find3 z (tx [125]) (i : Int) = ((i + 0 : Nat) : Int) := find_at (b := []) (t := r) (hdr.trans (by rw [hr]; rfl)) (fun h => nomatch h) hi
          have c3 : cutS z (some ((i : Int) + 1)) (some (Txt.find3 z (tx [125]) (i : Int) + 1 - 1)) = tx [] := by
            rw [fa]
            unfold cutS
            have e1 := HT.sIx_nat z.length 0 (i + 1)
            have e2 := HT.sIx_nat z.length z.length (i + 0)
            rw [show ((i + 1 : Nat) : Int) = (i : Int) + 1 by omega] at e1
            rw [show ((i + 0 : Nat) : Int) + 1 - 1 = ((i + 0 : Nat) : Int) by omega, e1, e2, show min (i + 0) z.length - min (i + 1) z.length = 0 by omega, List.take_zero]
          walk_at "go"
          refine iteT' (decide_eq_true (show (0 : Int) < Txt.find3 z (tx [125]) (i : Int) + 1 by rw [fa]; omega)) ?_
          walk_at "go"
          rw [c3]
          refine ⟨by rw [tx_len]; exact Nat.zero_le _, fun _ H4 s4 => ?_, fun d h => absurd h (by show ¬ RO.fieldB [] = some d; rw [show RO.fieldB [] = none from by decide]; exact fun z => nomatch z)⟩
          walk_at "go"
          exact kb _ _ (.inl ⟨ho, _, rfl, s13.trans s4⟩)
        | lost h1 h2 =>
          refine iteT' (vG.trans (decide_eq_true List.mem_cons_self)) ?_
          have fa : Txt.find3 z (tx [125]) (i : Int) = -1 := find_no (by rw [hdr, hr]; exact fun h => (List.mem_cons.mp h).elim (by decide) h2) hi
          walk_at "go"
          refine iteF' (decide_eq_false (show ¬ (0 : Int) < Txt.find3 z (tx [125]) (i : Int) + 1 by rw [fa]; omega)) ?_
          walk_at "go"
          exact kb _ _ (.inl ⟨ho, _, rfl, s13⟩)
        | @bad b r2 h1 h2 h3 =>
          refine iteT' (vG.trans (decide_eq_true List.mem_cons_self)) ?_
          have fa : Txt.find3 z (tx [125]) (i : Int) = ((i + (b.length + 1) : Nat) : Int) := find_at (b := 123 :: b) (t := r2) (hdr.trans (by rw [hr]; rfl)) (fun h => (List.mem_cons.mp h).elim (by decide) h2) hi
          have c3 : cutS z (some ((i : Int) + 1)) (some (Txt.find3 z (tx [125]) (i : Int) + 1 - 1)) = tx b := by
            have := cut_ab (z := z) (a := i + 1) (b := i + (b.length + 1)) (by omega)
            rw [hr, show i + (b.length + 1) - (i + 1) = b.length by omega, List.take_left] at this
            rw [fa, show ((i + (b.length + 1) : Nat) : Int) + 1 - 1 = ((i + (b.length + 1) : Nat) : Int) by omega]
            exact this
          walk_at "go"
          refine iteT' (decide_eq_true (show (0 : Int) < Txt.find3 z (tx [125]) (i : Int) + 1 by rw [fa]; omega)) ?_
          walk_at "go"
          rw [c3]
          have bl : (tx b).length ≤ 1000000 := by rw [tx_len]; rw [List.length_append] at hlr; omega
          refine ⟨bl, fun _ H4 s4 => ?_, fun d h => absurd h (by show ¬ RO.fieldB b = some d; rw [h3]; exact fun z => nomatch z)⟩
          walk_at "go"
          exact kb _ _ (.inl ⟨ho, _, rfl, s13.trans s4⟩)
        | @fld b r2 f2 o2 h1 h2 h3 h4 =>
          refine iteT' (vG.trans (decide_eq_true List.mem_cons_self)) ?_
          have fa : Txt.find3 z (tx [125]) (i : Int) = ((i + (b.length + 1) : Nat) : Int) := find_at (b := 123 :: b) (t := r2) (hdr.trans (by rw [hr]; rfl)) (fun h => (List.mem_cons.mp h).elim (by decide) h2) hi
          have c3 : cutS z (some ((i : Int) + 1)) (some (Txt.find3 z (tx [125]) (i : Int) + 1 - 1)) = tx b := by
            have := cut_ab (z := z) (a := i + 1) (b := i + (b.length + 1)) (by omega)
            rw [hr, show i + (b.length + 1) - (i + 1) = b.length by omega, List.take_left] at this
            rw [fa, show ((i + (b.length + 1) : Nat) : Int) + 1 - 1 = ((i + (b.length + 1) : Nat) : Int) by omega]
            exact this
          walk_at "go"
          refine iteT' (decide_eq_true (show (0 : Int) < Txt.find3 z (tx [125]) (i : Int) + 1 by rw [fa]; omega)) ?_
          walk_at "go"
          rw [c3]
          have bl : (tx b).length ≤ 1000000 := by rw [tx_len]; rw [List.length_append] at hlr; omega
          refine ⟨bl, fun h => absurd h (by show ¬ RO.fieldB b = none; rw [h3]; exact fun h => nomatch h), fun d hd x dx H4 s4 fx hx => ?_⟩
          replace hd : RO.fieldB b = some d := hd
          rw [h3] at hd
          cases hd
          walk_at "go"
          have hr2 : z.cps.toList.drop (i + (b.length + 2)) = r2 := by
            rw [show i + (b.length + 2) = (i + 1) + (b.length + 1) by omega, ← List.drop_drop, hr, List.drop_append]
            simp
          refine kb _ _ (.inr ⟨i + (b.length + 2), .inr f2, .ref x, o2, ?_, rfl, by omega, by rw [List.length_append, List.length_cons] at hlr; omega, s13.trans s4, ⟨x, dx, rfl, hx⟩, by rw [hr2]; exact h4, ?_⟩)
          · have e5 : Txt.find3 z (tx [125]) (i : Int) + 1 = ((i + (b.length + 2) : Nat) : Int) := by rw [fa]; omega
            rw [← e5]; rfl
          · rw [ho]; cases o2 <;> simp
    rcases hm with ⟨rfl, e, rfl, s2⟩ | ⟨j, x, v, o2, rfl, vn, hj1, hj2, s2, hx, hb, rfl⟩
    · walk_at "go"
      exact hN _ rfl (s1.trans s2)
    · have hp2 := s2 _ _ hp
      have hps2 := hps.same s2
      have nx := next j (j : Int) x v (.int (j : Nat)) v H2 o2 rfl hj1 hj2 (s1.trans s2) hp2 hx hps2 hb rfl
      walk_at "go"
      exact nx.choose_spec
  · have t1 : decide (((i : Nat) : Int) < (z.length : Nat)) = false := decide_eq_false (by omega)
    have dn : z.cps.toList.drop i = [] := List.drop_eq_nil_of_le (by omega)
    rw [dn] at hd
    cases hd
    walk_at "go"
    exact hS ps vs p _ (by rw [ho]; exact congrArg some (List.append_nil _)) s1 fp hp (by omega) hps
end
end K17

set_option Elab.async false
set_option linter.all false
set_option maxRecDepth 100000
set_option maxHeartbeats 0

namespace K17
open PySem PySem.Spec PyProof.Rows L2 RC
section
variable {P : Program} {w : World} {K : PySem.W.Frag} {mg : Str → Option Value} {base : Heap}
/-! ### parts joined -/
/-- a part of a formatter: a text, or a plain field of a name -/
inductive PtA (K : PySem.W.Frag) (H : Hp) : Str ⊕ RO.Fd → V → Prop
  | txt (z : Str) : PtA K H (.inl z) (.str z)
  | fld {q dx : Addr} {n : RO.Fd} : H q = some (.ins (CFd K) dx (fdD n)) → PtA K H (.inr n) (.ref q)
def PtsA (K : PySem.W.Frag) (H : Hp) (ps : List (Str ⊕ RO.Fd)) (vs : List V) : Prop := ps.length = vs.length ∧ ∀ (i : Nat) (p : Str ⊕ RO.Fd) (v : V), ps[i]? = some p → vs[i]? = some v → PtA K H p v
theorem PtA.same {H H' : Hp} (s : Same H H') : ∀ {p : Str ⊕ RO.Fd} {v : V}, PtA K H p v → PtA K H' p v
  | _, _, .txt z => .txt z
  | _, _, .fld h => .fld (s _ _ h)
theorem PtsA.same {H H' : Hp} (s : Same H H') {ps : List (Str ⊕ RO.Fd)} {vs : List V} (h : PtsA K H ps vs) : PtsA K H' ps vs := ⟨h.1, fun i p v hp hv => (h.2 i p v hp hv).same s⟩
def stepP (acc : List (Str ⊕ RO.Fd)) : RO.Pt → List (Str ⊕ RO.Fd)
  | .inl c => match acc.getLast? with
    | some (.inl z) => acc.dropLast ++ [.inl (z ++ ⟨#[c]⟩)]
    | _ => acc ++ [.inl ⟨#[c]⟩]
  | .inr b => acc ++ [.inr b]
def joinP (ps : List RO.Pt) : List (Str ⊕ RO.Fd) := ps.foldl stepP []
theorem snocCases {α : Type} : ∀ l : List α, l = [] ∨ ∃ L b, l = L ++ [b]
  | [] => .inl rfl
  | a :: r => match snocCases r with
    | .inl h => .inr ⟨[], a, by rw [h]; rfl⟩
    | .inr ⟨L, b, h⟩ => .inr ⟨a :: L, b, by rw [h]; rfl⟩
theorem PtsA.snoc {H : Hp} {ps : List (Str ⊕ RO.Fd)} {vs : List V} {p : Str ⊕ RO.Fd} {v : V} (h : PtsA K H ps vs) (a : PtA K H p v) : PtsA K H (ps ++ [p]) (vs ++ [v]) := by
  obtain ⟨h1, h2⟩ := h
  refine ⟨by rw [List.length_append, List.length_append, h1]; rfl, fun i x y hx hy => ?_⟩
  by_cases c : i < ps.length
  · rw [List.getElem?_append_left c] at hx
    rw [List.getElem?_append_left (by omega)] at hy
    exact h2 i x y hx hy
  · rw [List.getElem?_append_right (by omega)] at hx
    rw [List.getElem?_append_right (by omega), ← h1] at hy
    cases e : i - ps.length with
    | zero => rw [e] at hx hy; cases hx; cases hy; exact a
    | succ n => rw [e] at hx; cases hx
theorem PtsA.last {H : Hp} {L : List (Str ⊕ RO.Fd)} {ws : List V} {x : Str ⊕ RO.Fd} (h : PtsA K H (L ++ [x]) ws) : ∃ W v, ws = W ++ [v] ∧ PtsA K H L W ∧ PtA K H x v := by
  obtain ⟨h1, h2⟩ := h
  rcases snocCases ws with rfl | ⟨W, v, rfl⟩
  · rw [List.length_append] at h1; cases h1
  · rw [List.length_append, List.length_append] at h1
    have hl : L.length = W.length := Nat.succ.inj h1
    refine ⟨W, v, rfl, ⟨hl, fun i p u hp hu => ?_⟩, h2 L.length x v (by rw [List.getElem?_append_right (Nat.le_refl _), Nat.sub_self]; rfl) (by rw [List.getElem?_append_right (by omega), hl, Nat.sub_self]; rfl)⟩
    have l1 := (List.getElem?_eq_some_iff.mp hp).1
    exact h2 i p u (by rw [List.getElem?_append_left l1]; exact hp) (by rw [List.getElem?_append_left (by omega)]; exact hu)
theorem PtA.to {H H' : Hp} (h : ∀ (q dx : Addr) (fs : List (Str × V)), fs.length = 5 → H q = some (.ins (CFd K) dx fs) → H' q = some (.ins (CFd K) dx fs)) : ∀ {p : Str ⊕ RO.Fd} {v : V}, PtA K H p v → PtA K H' p v
  | _, _, .txt z => .txt z
  | _, _, .fld e => .fld (h _ _ _ rfl e)
theorem PtsA.to {H H' : Hp} (h : ∀ (q dx : Addr) (fs : List (Str × V)), fs.length = 5 → H q = some (.ins (CFd K) dx fs) → H' q = some (.ins (CFd K) dx fs)) {ps : List (Str ⊕ RO.Fd)} {vs : List V} (a : PtsA K H ps vs) : PtsA K H' ps vs := ⟨a.1, fun i p v hp hv => (a.2 i p v hp hv).to h⟩
theorem joinP_snoc (ps : List RO.Pt) (x : RO.Pt) : joinP (ps ++ [x]) = stepP (joinP ps) x := by unfold joinP; rw [List.foldl_append]; rfl
def Short (acc : List (Str ⊕ RO.Fd)) (n : Nat) : Prop := acc.length ≤ n ∧ ∀ z : Str, Sum.inl z ∈ acc → z.length ≤ n
def spJoined (K : PySem.W.Frag) : Sp := fun vs H Q _ => ∃ (p : Addr) (xs : List V) (ps : List RO.Pt) (G : Hp), vs = [.ref p] ∧ H p = some (.lst xs) ∧ PtsV K G ps xs ∧ xs.length ≤ 1000 ∧ Same G H ∧
  ∀ (t : Addr) (ws : List V) (H' : Hp), Same H H' → H t = none → H' t = some (.tup ws) → PtsA K G (joinP ps) ws → Q (.ref t) H'
structure JInv (K : PySem.W.Frag) (H G : Hp) (p q : Addr) (ps : List RO.Pt) (i : Nat) (σ : L2.St) (H' : Hp) : Prop where
  same : Same H H'
  ex : ∃ (ws : List V) (a : Option V), H' q = some (.lst ws) ∧ PtsA K G (joinP (ps.take i)) ws ∧ Short (joinP (ps.take i)) i ∧ σ = [some (.ref p), some (.ref q), a]
theorem ok_joined {f : Addr} (T : Txt P w K mg) (F : Stands K "joined_texts" "joined_texts" s_joined_texts [] f) : Callable P w K mg base 1 f ["parts"] [] (spJoined K) := by
  refine F.call0 sc_joined_texts (fun vs H Q E h => ?_) (fun cdv A outer s H vs Q E hr h => ?_) (fun _ _ _ _ _ _ us hl => match us, hl with | [_], _ => rfl)
  · obtain ⟨p, xs, ps, G, rfl, _⟩ := h; rfl
  obtain ⟨p, xs, ps, G, rfl, hp, hps, hxl, hG, hQ⟩ := h
  refine ⟨_, (pss_cons (ps_set (i := 1) sc_joined_texts.nd rfl (by first | exact Or.inl rfl | exact Or.inr rfl) (pe_lst pa_nil))
      (pss_cons (ps_for PassesOwn.never rfl (pi_list (pv 0)) (pg_name (i := 2) sc_joined_texts.nd rfl (by first | exact Or.inl rfl | exact Or.inr rfl)) (pss_one (ps_if (PW.pt (pw_and (pt_val (pe_callB call_isi (by rfl) T.b_isinstance (by decide +kernel) (pa_cons (pv 2) (pa_cons (pe_bltn (v := .ty "str") (u := .type "str") (by rfl) T.b_str (by decide +kernel) rfl) pa_nil)))) (pw_and (pt_cmpR (RY.op_neE (Nat.lt_of_succ_lt (hu_of hr))) (pv 1) (pe_lst pa_nil) (nomark _)) (pw_and1 (pt_val (pe_callB call_isi (by rfl) T.b_isinstance (by decide +kernel) (pa_cons (pe_ix ix_list (pv 1) (pe_un un_neg pe_int) (fun _ _ => rfl)) (pa_cons (pe_bltn (v := .ty "str") (u := .type "str") (by rfl) T.b_str (by decide +kernel) rfl) pa_nil)))))))) (pss_one (ps_augS (pv 1) (pe_un un_neg pe_int) RT.get_list (pv 2) iop_add_str set_list)) (pss_one (ps_expr (pe_bm PySem.F.plainAttrs_list PySem.F.slot_list_append PySem.F.type_list_append mt_append (pv 1) (pa_cons (pv 2) pa_nil)))))))
      (pss_one (ps_ret (pe_callTy call_tuple_of (by rfl) T.b_tuple (by decide +kernel) (pa_cons (pv 1) pa_nil)))))), ?_⟩
  walk_at "in"
  walk_at "go"
  intro q fq
  walk_at "go"
  refine for_it (walk_list (xs := xs)) (JInv K H G p q ps) ⟨same_new fq _, [], _, upd_same, ⟨rfl, fun _ _ _ h => nomatch h⟩, ⟨Nat.le_refl _, fun _ h => nomatch h⟩, rfl⟩ (fun i σ H' _ h => SqL.of (h.same _ _ hp)) (fun i v σ H0 H2 hi hP hx => ?_) (fun σ H2 hP => ?_)
  · obtain ⟨rfl, hx⟩ := hx
    obtain ⟨s2, ws, a, hq, hA, hS, rfl⟩ := hP
    obtain ⟨x, gx, hpx⟩ := hps.get hx
    have hil : i < xs.length := (List.getElem?_eq_some_iff.mp hx).1
    have hwl := hA.1
    have hS1 := hS.1
    have hwz : ws.length < sizeLine := by rw [sizeLine_eq]; omega
    have ej : joinP (ps.take (i + 1)) = stepP (joinP (ps.take i)) x := by rw [take_snoc gx, joinP_snoc]
    have ky := T.kiy_Field_str
    have next : ∀ (H4 : Hp) (acc' : List (Str ⊕ RO.Fd)) (ws' : List V) (a2 : Option V), Same H2 H4 → stepP (joinP (ps.take i)) x = acc' → PtsA K G acc' ws' → Short acc' (i + 1) → JInv K H G p q ps (i + 1) [some (.ref p), some (.ref q), a2] (upd H4 q (.lst ws')) := fun H4 acc' ws' a2 s4 e h2 h3 =>
      ⟨fun b u hb => (by rw [upd_ne (ne_of_none hb fq)]; exact s4 _ _ (s2 _ _ hb)), ws', a2, upd_same, by rw [ej, e]; exact h2, by rw [ej, e]; exact h3, rfl⟩
    generalize joinP (ps.take i) = acc at hA hS hwl hS1 next
    have hS2 := hS.2
    have bnd : ∀ {y : Str ⊕ RO.Fd}, (∀ z, y = .inl z → z.length ≤ i + 1) → Short (acc ++ [y]) (i + 1) := fun {y} hy => ⟨by rw [List.length_append]; show acc.length + 1 ≤ _; omega, fun z hz => by
      rcases List.mem_append.mp hz with h | h
      · exact Nat.le_succ_of_le (hS.2 z h)
      · exact hy z (List.mem_singleton.mp h).symm⟩
    cases x with
    | inl c =>
      obtain rfl : v = .str ⟨#[c]⟩ := hpx
      have hc1 : (⟨#[c]⟩ : Str).length = 1 := rfl
      rcases snocCases acc with rfl | ⟨L, y, rfl⟩
      · have e0 : ws = [] := List.length_eq_zero_iff.mp hwl.symm
        subst e0
        have t2 : (!([] : List V).isEmpty) = false := rfl
        walk_at "go"
        intro r fr
        have s4 := same_new fr (.lst [])
        have hq4 := s4 _ _ hq
        have hr4 : (upd H2 r (.lst [])) r = some (.lst []) := upd_same
        generalize upd H2 r (.lst []) = H4 at s4 hq4 hr4
        walk_at "go"
        exact next H4 _ _ _ s4 rfl (hA.snoc (.txt _)) (bnd fun z e => by cases e; rw [hc1]; omega)
      · obtain ⟨W, u, rfl, hW, hu⟩ := hA.last
        cases hu with
        | txt y =>
          have hy3 : y.length ≤ i := hS2 y (by simp)
          have t2 : (!(W ++ [V.str y]).isEmpty) = true := by simp
          have hat : atI (W ++ [V.str y]) (-1) = some (V.str y) := atI_last _ _
          have hix : ixN (W ++ [V.str y]).length (-1) = some W.length := by
            rw [List.length_append]; unfold ixN; simp; omega
          have hy2 : y.length + (⟨#[c]⟩ : Str).length ≤ sizeLine := by rw [sizeLine_eq, hc1]; omega
          walk_at "go"
          intro r fr
          have s4 := same_new fr (.lst [])
          have hq4 := s4 _ _ hq
          have hr4 : (upd H2 r (.lst [])) r = some (.lst []) := upd_same
          generalize upd H2 r (.lst []) = H4 at s4 hq4 hr4
          walk_at "go"
          have es : (W ++ [V.str y]).set W.length (V.str (y ++ ⟨#[c]⟩)) = W ++ [V.str (y ++ ⟨#[c]⟩)] := by simp [List.set_append]
          rw [es]
          refine next H4 (L ++ [.inl (y ++ ⟨#[c]⟩)]) _ _ s4 (by unfold stepP; simp) (hW.snoc (.txt _)) ⟨by rw [List.length_append] at hS1 ⊢; exact Nat.le_succ_of_le hS1, fun z hz => ?_⟩
          rcases List.mem_append.mp hz with h | h
          · exact Nat.le_succ_of_le (hS2 z (List.mem_append_left _ h))
          · cases List.mem_singleton.mp h
            rw [len_add, hc1]; omega
        | @fld q2 dx2 n2 hq2 =>
          have t2 : (!(W ++ [V.ref q2]).isEmpty) = true := by simp
          have hat : atI (W ++ [V.ref q2]) (-1) = some (V.ref q2) := atI_last _ _
          walk_at "go"
          intro r fr
          have s4 := same_new fr (.lst [])
          have hq4 := s4 _ _ hq
          have hr4 : (upd H2 r (.lst [])) r = some (.lst []) := upd_same
          have hq24 := s4 _ _ (s2 _ _ (hG _ _ hq2))
          generalize upd H2 r (.lst []) = H4 at s4 hq4 hr4 hq24
          have ty4 := RB.TyC.tyx T.ty_Field T.c_Field hq24
          walk_at "go"
          exact next H4 _ _ _ s4 (by unfold stepP; simp) (hA.snoc (.txt _)) (bnd fun z e => by cases e; rw [hc1]; omega)
    | inr n =>
      obtain ⟨q3, dx3, rfl, g3⟩ := hpx
      have g4 := s2 _ _ (hG _ _ g3)
      have ty4 := RB.TyC.tyx T.ty_Field T.c_Field g4
      walk_at "go"
      exact next H2 _ _ _ (Same.refl _) rfl (hA.snoc (.fld g3)) (bnd fun z e => nomatch e)
  · obtain ⟨s2, ws, a, hq, hA, hS, rfl⟩ := hP
    walk_at "go"
    refine .inl ⟨SqL.of hq, fun l fl => ?_⟩
    rw [List.take_of_length_le (by rw [hps.len]; exact Nat.le_refl _)] at hA
    exact hQ l ws _ (s2.trans (same_new fl _)) (s2.free fl) upd_same hA
end
end K17

set_option Elab.async false
set_option linter.all false
set_option maxRecDepth 100000
set_option maxHeartbeats 0

namespace K17
open PySem PySem.Spec PyProof.Rows L2 RC
section
variable {P : Program} {w : World} {K : PySem.W.Frag} {mg : Str → Option Value} {base : Heap}
/-! ### a formatter of a format in braces -/
abbrev CFm (K : PySem.W.Frag) : Addr := He.ga K "Formatter"
def fmF (z y : Str) (t d : Addr) : List (Str × V) := [("fmt", .str z), ("style", .str y), ("parts", .ref t), ("defaults", .ref d)]
/-- a formatter of these parts and defaults stands at m -/
structure FmAt (K : PySem.W.Frag) (H : Hp) (m : Addr) (ps : List (Str ⊕ RO.Fd)) (dk : List Str) (dd : Nat → Dt) (Pd : Addr → Prop) : Prop where
  ex : ∃ (dm t df : Addr) (z y : Str) (vs : List V), H m = some (.ins (CFm K) dm (fmF z y t df)) ∧ HD H (.dct dk dd) Pd (.ref df) ∧ H t = some (.tup vs) ∧ PtsA K H ps vs
theorem FmAt.same {H H' : Hp} (s : Same H H') {m : Addr} {ps : List (Str ⊕ RO.Fd)} {dk : List Str} {dd : Nat → Dt} {Pd : Addr → Prop} (h : FmAt K H m ps dk dd Pd) : FmAt K H' m ps dk dd Pd := by
  obtain ⟨dm, t, df, z, y, vs, h1, h2, h3, h4⟩ := h
  exact ⟨dm, t, df, z, y, vs, s _ _ h1, h2.same s, s _ _ h3, h4.same s⟩
def tB : RO.Pt → Bool
  | .inl _ => true
  | .inr _ => false
def spFmInit (K : PySem.W.Frag) : Sp := fun vs H Q _ => ∃ (p dx : Addr) (z : Str) (firm : Bool) (dv : V) (dk : List Str) (dd : Nat → Dt) (P : Addr → Prop) (ps : List RO.Pt), vs = [.ref p, .str z, .str "{", .bl firm, dv] ∧ H p = some (.ins (CFm K) dx []) ∧ ¬ P p ∧ HD H (.dct dk dd) P dv ∧ Dep 4 (.dct dk dd) ∧ z.length ≤ 1000000 ∧ RO.PB z.cps.toList (some ps) ∧ ps.length ≤ 1000 ∧ ((ps.map tB).all id) = false ∧ (∀ H' : Hp, (∀ b u, b ≠ p → H b = some u → H' b = some u) → FmAt K H' p (joinP ps) dk dd (fun b => H b = none) → Q .non H')
theorem ok_fm_init {f : Addr} (T : Txt P w K mg) (F : Stands K "__init__" "Formatter.__init__" s_Formatter_init [.non, .str "{", .bl true, .non] f) (c_parts_of_braces : Callable P w K mg base 4 (He.ga K "parts_of_braces") ["fmt"] [] (spParts K)) (c_joined_texts : Callable P w K mg base 1 (He.ga K "joined_texts") ["parts"] [] (spJoined K)) (c_copied_value : Callable P w K mg base 5 (He.ga K "copied_value") ["thing"] [] (spCopD 4)) : Callable P w K mg base 6 f ["self", "fmt", "style", "validate", "defaults"] [] (spFmInit K) := by
  refine F.call sc_Formatter_init 5 4 (fun vs H Q E h => ?_) (fun cdv A outer s H vs Q E hr h => ?_) (fun z => nomatch z) fun _ => ⟨rfl, fun _ _ _ _ _ _ _ us its hl hi => match us, hl, its, hi with | [_, _, _, _, _], _, [_, _, _, _], _ => ⟨_, rfl, rfl⟩⟩
  · obtain ⟨p, dx, z, firm, dv, dk, dd, P, ps, rfl, _⟩ := h; rfl
  generalize e1 : spJoined K = SJ at c_joined_texts
  generalize e2 : spCopD 4 = SC at c_copied_value
  obtain ⟨p, dx, z, firm, dv, dk, dd, P, ps0, rfl, hp, nPp, hdv, hdd, hz, hP, hpl, hall, hQ⟩ := h
  obtain ⟨da, dkv, dP', rfl, hdr⟩ := id hdv
  refine ⟨_, (pss_cons (ps_if (PW.pt (pw_or (pt_not (pt_val (pe_callB call_isi (by rfl) T.b_isinstance (by decide +kernel) (pa_cons (pv 2) (pa_cons (pe_bltn (v := .ty "str") (u := .type "str") (by rfl) T.b_str (by decide +kernel) rfl) pa_nil))))) (pw_or1 (pt_cmpR (RT.op_notInKD T.t_MESSAGE_ALONE) (pv 2) (pe_glob (v := .ref _) (by rfl) T.g_MESSAGE_ALONE rfl) (by rfl))))) (pss_one ps_never) pss_nil)
      (pss_cons (ps_set (i := 5) sc_Formatter_init.nd rfl (by first | exact Or.inl rfl | exact Or.inr rfl) (pe_ifExp (pt_cmpR op_isN (pv 1) pe_non (nomark _)) pe_never (pv 1)))
      (pss_cons (ps_set (i := 6) sc_Formatter_init.nd rfl (by first | exact Or.inl rfl | exact Or.inr rfl) (pe_ifExp (pt_cmpR op_eq (pv 2) pe_str (nomark _)) (pe_fn T.g_parts_of_braces c_parts_of_braces (hr.mono (by first | decide | exact Nat.le_refl _)) (by rfl) (pa_cons (pv 5) pa_nil)) pe_never))
      (pss_cons (ps_if (PW.pt (pw_or (pt_cmpR op_isN (pv 6) pe_non (nomark _)) (pw_or1 (PW.pt (pw_and (pt_val (pv 3)) (pw_and1 (pt_val (pe_callB (cr_all rfl) (by rfl) T.b_all (by decide +kernel) (pa_cons (pe_lc (own := [("part", 7)]) (by rfl) sc_Formatter_init.nd (pi_list (pv 6)) (blkOk_by (own := [("part", 7)]) (N := nm_Formatter_init) (sc := defScope s_Formatter_init) (by decide +kernel)) (fun _ _ _ _ _ => (pg_name (i := 7) sc_Formatter_init.nd rfl (by first | exact Or.inl rfl | exact Or.inr rfl))) (fun _ _ _ _ _ => pts_nil) (fun _ _ _ _ _ => (pe_callB (callK (K := K) rIsi call_isi) (by rfl) T.b_isinstance (by decide +kernel) (pa_cons (pv 7) (pa_cons (pe_bltn (v := .ty "str") (u := .type "str") (by rfl) T.b_str (by decide +kernel) rfl) pa_nil))))) pa_nil))))))))) (pss_one ps_never) pss_nil)
      (pss_cons (ps_fld (pv 0) (pv 1) rfl)
      (pss_cons (ps_fld (pv 0) (pv 2) rfl)
      (pss_cons (ps_fld (pv 0) (pe_fn T.g_joined_texts c_joined_texts (hr.mono (by first | decide | exact Nat.le_refl _)) (by rfl) (pa_cons (pv 6) pa_nil)) rfl)
      (pss_one (ps_fld (pv 0) (pe_ifExp (pt_cmpR op_isN (pv 4) pe_non (nomark _)) pe_dnewK (pe_fn T.g_copied_value c_copied_value (hr.mono (by first | decide | exact Nat.le_refl _)) (by rfl) (pa_cons (pv 4) pa_nil))) rfl))))))))), ?_⟩
  walk_at "in"
  walk_at "go"
  refine ⟨(fun _ h => nomatch h), fun ps vs q H' ho s1 fq hq hv hps => ?_⟩
  cases ho
  have hp1 := s1 _ _ hp
  have hvl : vs.length ≤ 1000 := by rw [← hps.len]; exact hpl
  cases firm with
  | false =>
    walk_at "go"
    simp only [upd_upd]
    refine (?_ : SJ [.ref q] _ _ E0)
    rw [← e1]
    have n1 : q ≠ p := fun e => by rw [e, hp1] at hq; cases hq
    refine ⟨q, vs, ps0, _, rfl, (upd_ne n1).trans hq, hps.own hp1, hvl, Same.refl _, fun t ws H3 s3 ft ht hA => ?_⟩
    have hp3 := s3 _ _ upd_same
    have up0 : ∀ (b : Addr) (u : HO), b ≠ p → H b = some u → H3 b = some u := fun b u h1 h2 => s3 _ _ (by rw [upd_ne h1]; exact s1 _ _ h2)
    walk_at "go"
    refine (?_ : SC [.ref da] (upd H3 p _) _ E0)
    rw [← e2]
    refine ⟨.ref da, _, P, rfl, hdv.keep fun b u hb e => (by rw [upd_ne (fun z => nPp (by rw [← z]; exact hb))]; exact up0 b u (fun z => nPp (by rw [← z]; exact hb)) e), hdd, fun H4 v4 s4 h4 => ?_⟩
    have hp4 := s4 _ _ upd_same
    have up4 : ∀ (b : Addr) (u : HO) (o : HO), b ≠ p → H3 b = some u → (upd H4 p o) b = some u := fun b u o h1 h2 => by
      rw [upd_ne h1]; exact s4 _ _ (by rw [upd_ne h1]; exact h2)
    obtain ⟨ft1, ft2⟩ := upd_none ft
    obtain ⟨d4, kv4, P4, rfl, hr4⟩ := id h4
    walk_at "go"
    refine hQ _ (fun b u h1 h2 => up4 b u _ h1 (up0 b u h1 h2)) ⟨dx, t, d4, z, "{", ws, upd_same, ?_, up4 _ _ _ ft1 ht, hA.to fun q2 dx2 fs2 l5 e2 => ?_⟩
    · refine HD.wide (P := fun b => upd H3 p _ b = none) (h4.keep fun b u hb e => ?_) fun b hb => ?_
      · rw [upd_ne (fun z => by rw [z, upd_same] at hb; cases hb)]; exact e
      · obtain ⟨z1, z2⟩ := upd_none hb
        cases hc : H b with
        | none => rfl
        | some u => rw [up0 b u z1 hc] at z2; cases z2
    · have n2 : q2 ≠ p := fun e => by
        rw [e, upd_same] at e2
        have := congrArg List.length (HO.ins.inj (Option.some.inj e2)).2.2
        rw [l5] at this
        simp only [putF] at this
        split at this <;> simp at this
      exact up4 _ _ _ n2 (s3 _ _ e2)
  | true =>
    walk_at "go"
    intro D hD
    refine lc_it (walk_list (xs := vs)) (fun i H2 => Same H' H2 ∧ H2 D = some (.lst (((ps0.take i).map tB).map V.bl))) ⟨same_new hD _, upd_same⟩ (fun i H2 _ h => SqL.of (h.1 _ _ hq)) (fun i x H3 H2 hi hP hy => ?_) (fun H2 h2 => ?_)
    · obtain ⟨rfl, hx⟩ := hy
      obtain ⟨g1, g2⟩ := hP
      obtain ⟨y, gy, hpy⟩ := hps.get hx
      have ky := T.kiy_Field_str
      have hll : (((ps0.take i).map tB).map V.bl).length < sizeLine := by
        have h1 : (ps0.take i).length ≤ ps0.length := by rw [List.length_take]; exact Nat.min_le_right _ _
        rw [List.length_map, List.length_map, sizeLine_eq]
        omega
      cases y with
      | inl c =>
        obtain rfl : x = .str ⟨#[c]⟩ := hpy
        walk_at "go"
        rw [upd_same, take_snoc gy, List.map_append, List.map_append]; rfl
      | inr n =>
        obtain ⟨q3, dx3, rfl, g3⟩ := hpy
        have g4 := g1 _ _ g3
        have ty4 := RB.TyC.tyx T.ty_Field T.c_Field g4
        walk_at "go"
        rw [upd_same, take_snoc gy, List.map_append, List.map_append]; rfl
    · obtain ⟨g1, g2⟩ := h2
      rw [List.take_of_length_le (by rw [hps.len]; exact Nat.le_refl _)] at g2
      have hp4 := g1 _ _ hp1
      have hq4 := g1 _ _ hq
      walk_at "go"
      simp only [upd_upd]
      refine (?_ : SJ [.ref q] _ _ E0)
      rw [← e1]
      have n1 : q ≠ p := fun e => by rw [e, hp4] at hq4; cases hq4
      refine ⟨q, vs, ps0, _, rfl, (upd_ne n1).trans hq4, (hps.same g1).own hp4, hvl, Same.refl _, fun t ws H3 s3 ft ht hA => ?_⟩
      have hp3 := s3 _ _ upd_same
      have up0 : ∀ (b : Addr) (u : HO), b ≠ p → H b = some u → H3 b = some u := fun b u h1 h2 => s3 _ _ (by rw [upd_ne h1]; exact (s1.trans g1) _ _ h2)
      walk_at "go"
      refine (?_ : SC [.ref da] (upd H3 p _) _ E0)
      rw [← e2]
      refine ⟨.ref da, _, P, rfl, hdv.keep fun b u hb e => (by rw [upd_ne (fun z => nPp (by rw [← z]; exact hb))]; exact up0 b u (fun z => nPp (by rw [← z]; exact hb)) e), hdd, fun H4 v4 s4 h4 => ?_⟩
      have hp5 := s4 _ _ upd_same
      have up4 : ∀ (b : Addr) (u : HO) (o : HO), b ≠ p → H3 b = some u → (upd H4 p o) b = some u := fun b u o h1 h2 => by
        rw [upd_ne h1]; exact s4 _ _ (by rw [upd_ne h1]; exact h2)
      obtain ⟨ft1, ft2⟩ := upd_none ft
      obtain ⟨d4, kv4, P4, rfl, hr4⟩ := id h4
      walk_at "go"
      refine hQ _ (fun b u h1 h2 => up4 b u _ h1 (up0 b u h1 h2)) ⟨dx, t, d4, z, "{", ws, upd_same, ?_, up4 _ _ _ ft1 ht, hA.to fun q2 dx2 fs2 l5 e2 => ?_⟩
      · refine HD.wide (P := fun b => upd H3 p _ b = none) (h4.keep fun b u hb e => ?_) fun b hb => ?_
        · rw [upd_ne (fun z => by rw [z, upd_same] at hb; cases hb)]; exact e
        · obtain ⟨z1, z2⟩ := upd_none hb
          cases hc : H b with
          | none => rfl
          | some u => rw [up0 b u z1 hc] at z2; cases z2
      · have n2 : q2 ≠ p := fun e => by
          rw [e, upd_same] at e2
          have := congrArg List.length (HO.ins.inj (Option.some.inj e2)).2.2
          rw [l5] at this
          simp only [putF] at this
          split at this <;> simp at this
        exact up4 _ _ _ n2 (s3 _ _ e2)
end
end K17

set_option Elab.async false
set_option linter.all false
set_option maxRecDepth 100000
set_option maxHeartbeats 0

namespace K17
open PySem PySem.Spec PyProof.Rows L2 RC
section
variable {P : Program} {w : World} {K : PySem.W.Frag} {mg : Str → Option Value} {base : Heap}
/-! ### a value written by a field -/
def isI : Dt → Bool
  | .int _ => true
  | _ => false
def txtD (c : List Nat) (t : Dt) : Str := if c = [114] then t.py.shown else RGm.strD t.py
/-- what can be shown in this way, and is not too long -/
abbrev ShwL (t : Dt) : Prop := Dep 4 t ∧ t.py.showable = true ∧ t.py.shown.length ≤ 200000 ∧ (RGm.strD t.py).length ≤ 20000
def Shw (c : List Nat) (t : Dt) : Prop := ShwL t ∨ (c ≠ [114] ∧ ∃ z : Str, t = .str z ∧ z.length ≤ 20000)
theorem shwL_of {t : Dt} (d : Dep 4 t) (m : Men t) : ShwL t := by
  have h1 := py_len d m
  have h2 := strD_le d m
  have hB : shB 4 = 3610 := by decide +kernel
  rw [hB] at h1 h2
  exact ⟨d, py_show m, by omega, by omega⟩
theorem shwL_str {z : Str} (h : z.length ≤ 19000) (hc : OkC z) : ShwL (.str z) := by
  have h1 := StrLaws.reprText_len z hc
  refine ⟨trivial, by rw [Dt.py, PyData.showable], ?_, ?_⟩
  · rw [Dt.py, PyData.shown]; omega
  · show z.length ≤ _; omega
theorem Shw.le {c : List Nat} {t : Dt} (h : Shw c t) : (txtD c t).length ≤ 200000 := by
  unfold txtD
  split
  · rename_i e
    rcases h with ⟨_, _, h, _⟩ | ⟨h, _⟩
    · exact h
    · exact absurd e h
  · rcases h with ⟨_, _, _, h⟩ | ⟨_, z, rfl, h⟩
    · omega
    · show z.length ≤ _
      omega
def sideN (a c : List Nat) (t : Dt) : Nat := match a with
  | x :: _ => x
  | [] => if c = [] ∧ isI t = true then 62 else 60
def aheadN (sd m : Nat) : Nat := if sd = 60 then 0 else if sd = 62 then m else m / 2
def padS (s : List Nat) (c sd w : Nat) : List Nat := List.replicate (aheadN sd (w - s.length)) c ++ s ++ List.replicate (w - s.length - aheadN sd (w - s.length)) c
/-- the fields that are made: their way, fill, align and width -/
structure FdOk (d : RO.Fd) (c w : Nat) : Prop where
  cv : d.2.1 = [] ∨ d.2.1 = [114] ∨ d.2.1 = [115]
  fl : d.2.2.1 = [c]
  al : d.2.2.2.1 = [] ∨ d.2.2.2.1 = [60] ∨ d.2.2.2.1 = [62] ∨ d.2.2.2.1 = [94]
  wd : wN d.2.2.2.2 = (w : Nat)
  w99 : w ≤ 99
def wrD (d : RO.Fd) (c w : Nat) (t : Dt) : List Nat := padS (txtD d.2.1 t).cps.toList c (sideN d.2.2.2.1 d.2.1 t) w
def spIsID : Sp := fun vs H Q _ => ∃ (x : V) (t : Dt) (R : Addr → Prop), vs = [x] ∧ HD H t R x ∧ Q (.bl (isI t)) H
theorem ok_is_integerD {f : Addr} (T : Txt P w K mg) (F : Stands K "is_integer" "is_integer" s_is_integer [] f) : Callable P w K mg base 1 f ["thing"] [] spIsID := by
  refine F.call0 sc_is_integer (fun vs H Q E h => ?_) (fun cdv A outer s H vs Q E hr h => ?_) (fun _ _ _ _ _ _ us hl => match us, hl with | [_], _ => rfl)
  · obtain ⟨x, t, R, rfl, _⟩ := h; rfl
  obtain ⟨x, t, R, rfl, h, hQ⟩ := h
  refine ⟨_, (pss_one (ps_ret (pe_and (pe_callB call_isi (by rfl) T.b_isinstance (by decide +kernel) (pa_cons (pv 0) (pa_cons (pe_bltn (v := .ty "int") (u := .type "int") (by rfl) T.b_int (by decide +kernel) rfl) pa_nil))) (pe_one (pe_not (pe_callB call_isi (by rfl) T.b_isinstance (by decide +kernel) (pa_cons (pv 0) (pa_cons (pe_bltn (v := .ty "bool") (u := .type "bool") (by rfl) T.b_bool (by decide +kernel) rfl) pa_nil)))))))), ?_⟩
  walk_at "in"
  cases t with
  | non => cases h; walk_at "go"; exact hQ
  | bl b => cases h; walk_at "go"; exact hQ
  | int i => cases h; walk_at "go"; exact hQ
  | str z => cases h; walk_at "go"; exact hQ
  | lst n g => obtain ⟨a, xs, P', rfl, _, _, _, ha, _⟩ := h; walk_at "go"; exact hQ
  | tup n g => obtain ⟨a, xs, P', rfl, _, _, _, ha, _⟩ := h; walk_at "go"; exact hQ
  | dct ks g => obtain ⟨a, kvs, P', rfl, _, _, _, ha, _⟩ := h; walk_at "go"; exact hQ
theorem s_lt : Str.ofString "<" = tx [60] := by decide +kernel
theorem s_gt : Str.ofString ">" = tx [62] := by decide +kernel
theorem s_up : Str.ofString "^" = tx [94] := by decide +kernel
theorem s_rr : Str.ofString "r" = tx [114] := by decide +kernel
def spSide (K : PySem.W.Frag) : Sp := fun vs H Q _ => ∃ (q dx : Addr) (d : RO.Fd) (c w : Nat) (v : V) (t : Dt) (R : Addr → Prop), vs = [.ref q, v] ∧ H q = some (.ins (CFd K) dx (fdD d)) ∧ FdOk d c w ∧ HD H t R v ∧ Q (.str (tx [sideN d.2.2.2.1 d.2.1 t])) H
theorem ok_side {f : Addr} (T : Txt P w K mg) (F : Stands K "side_of" "Field.side_of" s_Field_side_of [] f) (c_is_integer : Callable P w K mg base 1 (He.ga K "is_integer") ["thing"] [] spIsID) : Callable P w K mg base 2 f ["self", "value"] [] (spSide K) := by
  refine F.call0 sc_Field_side_of (fun vs H Q E h => ?_) (fun cdv A outer s H vs Q E hr h => ?_) (fun _ _ _ _ _ _ us hl => match us, hl with | [_, _], _ => rfl)
  · obtain ⟨q, dx, d, c, w, v, t, R, rfl, _⟩ := h; rfl
  generalize e1 : spIsID = S1 at c_is_integer
  obtain ⟨q, dx, ⟨n, cv, fl, al, ws⟩, c, w, v, t, R, rfl, hq, ⟨h1, h2, h3, h4, h5⟩, hv, hQ⟩ := h
  replace hQ : Q (.str (tx [sideN al cv t])) H := hQ
  replace h3 : al = [] ∨ al = [60] ∨ al = [62] ∨ al = [94] := h3
  have hq : H q = some (.ins (CFd K) dx (fdF (tx n) (tx cv) (tx fl) (tx al) (wN ws))) := hq
  refine ⟨_, (pss_cons (ps_if (pt_cmpR op_ne (pe_fld (pv 0) rfl) pe_str (nomark _)) (pss_one (ps_ret (pe_fld (pv 0) rfl))) pss_nil)
      (pss_one (ps_ret (pe_ifExp (PW.pt (pw_and (pt_cmpR op_eq (pe_fld (pv 0) rfl) pe_str (nomark _)) (pw_and1 (pt_val (pe_fn T.g_is_integer c_is_integer (hr.mono (by first | decide | exact Nat.le_refl _)) (by rfl) (pa_cons (pv 1) pa_nil)))))) pe_str pe_str)))), ?_⟩
  walk_at "in"
  rw [s_empty, s_lt, s_gt]
  by_cases ca : al = []
  · have t1 : (!decide (V.str (tx al) = V.str (tx []))) = false := by rw [tx_dec, decide_eq_true ca]; rfl
    by_cases cc : cv = []
    · have t2 : decide (V.str (tx cv) = V.str (tx [])) = true := by rw [tx_dec, decide_eq_true cc]
      walk_at "go"
      refine (?_ : S1 [v] H _ E0)
      rw [← e1]
      refine ⟨v, t, R, rfl, hv, ?_⟩
      refine ⟨_, rfl, ?_⟩
      have e : sideN al cv t = if isI t = true then 62 else 60 := by rw [ca, cc]; simp [sideN]
      rw [e] at hQ
      cases ht : isI t with
      | true => rw [ht, if_pos rfl] at hQ; exact hQ
      | false => rw [ht, if_neg (by decide)] at hQ; exact hQ
    · have t2 : decide (V.str (tx cv) = V.str (tx [])) = false := by rw [tx_dec, decide_eq_false cc]
      have e : sideN al cv t = 60 := by rw [ca]; simp [sideN, cc]
      rw [e] at hQ
      walk_at "go"
      exact hQ
  · have t1 : (!decide (V.str (tx al) = V.str (tx []))) = true := by rw [tx_dec, decide_eq_false ca]; rfl
    have e : [sideN al cv t] = al := by
      rcases h3 with rfl | rfl | rfl | rfl
      · exact absurd rfl ca
      · rfl
      · rfl
      · rfl
    rw [e] at hQ
    walk_at "go"
    exact hQ
theorem mulC (c n : Nat) : Txt.mul (tx [c]) (n : Int) = tx (List.replicate n c) := by
  refine TL.ext_tl ?_
  have := PyProof.Rows.mul_one_list c (n : Int)
  rw [Int.toNat_natCast] at this
  exact this
theorem mulOk1 {x : Str} (h : x.length = 1) : ∀ n : Nat, n < 200 → PySem.MulOk x (n : Int) := by
  unfold PySem.MulOk
  rw [h]
  decide +kernel
theorem ahead_le (sd m : Nat) : aheadN sd m ≤ m := by
  unfold aheadN
  split
  · omega
  split
  · omega
  · omega
theorem side_is {al cv : List Nat} {t : Dt} (h : al = [] ∨ al = [60] ∨ al = [62] ∨ al = [94]) : sideN al cv t = 60 ∨ sideN al cv t = 62 ∨ sideN al cv t = 94 := by
  rcases h with rfl | rfl | rfl | rfl
  · show (if _ then 62 else 60) = 60 ∨ (if _ then 62 else 60) = 62 ∨ _
    split
    · exact .inr (.inl rfl)
    · exact .inl rfl
  · exact .inl rfl
  · exact .inr (.inl rfl)
  · exact .inr (.inr rfl)
def spWritten (K : PySem.W.Frag) : Sp := fun vs H Q _ => ∃ (q dx : Addr) (d : RO.Fd) (c w : Nat) (v : V) (t : Dt) (R : Addr → Prop), vs = [.ref q, v] ∧ H q = some (.ins (CFd K) dx (fdD d)) ∧ FdOk d c w ∧ HD H t R v ∧ Shw d.2.1 t ∧ ∀ H', Same H H' → Q (.str (tx (wrD d c w t))) H'
theorem ok_written {f : Addr} (T : Txt P w K mg) (F : Stands K "written" "Field.written" s_Field_written [] f) (c_Field_side_of : Callable P w K mg base 2 (He.ma K (He.ga K "Field") "side_of") ["self", "value"] [] (spSide K)) : RGd.CallG P w K mg base 3 f ["self", "value"] (spWritten K) := by
  refine RGd.stands_callG0 F sc_Field_written (fun vs H Q E h => ?_) (fun cdv A outer s H vs Q E hr gd h => ?_) (fun _ _ _ _ _ _ us hl => match us, hl with | [_, _], _ => rfl)
  · obtain ⟨q, dx, d, c, w, v, t, R, rfl, _⟩ := h; rfl
  generalize e1 : spSide K = S1 at c_Field_side_of
  obtain ⟨q, dx, d, c, wd, v, t, R, rfl, hq, hok, hv, hsh, hQ⟩ := h
  have hok0 := hok
  obtain ⟨n, cv, fl, al, ws⟩ := d
  obtain ⟨h1, h2, h3, h4, h5⟩ := hok
  replace h1 : cv = [] ∨ cv = [114] ∨ cv = [115] := h1
  replace h2 : fl = [c] := h2
  replace h3 : al = [] ∨ al = [60] ∨ al = [62] ∨ al = [94] := h3
  replace h4 : wN ws = (wd : Nat) := h4
  have hq : H q = some (.ins (CFd K) dx (fdF (tx n) (tx cv) (tx fl) (tx al) (wN ws))) := hq
  replace hQ : ∀ H', Same H H' → Q (.str (tx (padS (txtD cv t).cps.toList c (sideN al cv t) wd))) H' := hQ
  subst h2
  rw [h4] at hq
  refine ⟨_, (pss_cons (ps_set (i := 2) sc_Field_written.nd rfl (by first | exact Or.inl rfl | exact Or.inr rfl) (pe_ifExp (pt_cmpR op_eq (pe_fld (pv 0) rfl) pe_str (nomark _)) (pe_callB (RGm.call_reprN (n := 4) gd (RGm.hu24 hr)) (by rfl) T.b_repr (by decide +kernel) (pa_cons (pv 1) pa_nil)) (RA.PE.or (pe_callTy (RGm.call_strN (n := 4) gd (RGm.hu24 hr)) (by rfl) T.b_str (by decide +kernel) (pa_cons (pv 1) pa_nil)) (pe_callTy SkE.call_str_str (by rfl) T.b_str (by decide +kernel) (pa_cons (pv 1) pa_nil)))))
      (pss_cons (ps_set (i := 3) sc_Field_written.nd rfl (by first | exact Or.inl rfl | exact Or.inr rfl) (pe_callB (call_max2 rfl) (by rfl) T.b_max (by decide +kernel) (pa_cons pe_int (pa_cons (pe_op op_sub (pe_fld (pv 0) rfl) (pe_callB call_len_str (by rfl) T.b_len (by decide +kernel) (pa_cons (pv 2) pa_nil))) pa_nil))))
      (pss_cons (ps_set (i := 4) sc_Field_written.nd rfl (by first | exact Or.inl rfl | exact Or.inr rfl) (pe_dget (hu_of hr) (pe_disp (pps_cons pe_str pe_int (pps_cons pe_str (pv 3) (pps_cons pe_str (pe_op op_fdiv (pv 3) pe_int) pps_nil))) (by rfl) (by rfl) (fun z => by cases z) (by decide)) (pe_mt T.c_Field T.m_Field_side_of c_Field_side_of (hr.mono (by first | decide | exact Nat.le_refl _)) (pv 0) (pa_cons (pv 1) pa_nil)) (fun _ _ => rfl)))
      (pss_one (ps_ret (pe_op op_add_str (pe_op op_add_str (pe_op RD.op_mulS (pe_fld (pv 0) rfl) (pv 4)) (pv 2)) (pe_op RD.op_mulS (pe_fld (pv 0) rfl) (pe_op op_sub (pv 3) (pv 4))))))))), ?_⟩
  walk_at "in"
  replace hsh : Shw cv t := hsh
  have htl := hsh.le
  rw [s_rr]
  refine seq_of (fun σ' H' => σ' = [some (.ref q), some v, some (.str (txtD cv t)), none, none] ∧ H = H') (fun b' kb => ?_) (fun σ' H' hm => ?_)
  · by_cases cc : cv = [114]
    · have t1 : decide (V.str (tx cv) = V.str (tx [114])) = true := by rw [tx_dec, decide_eq_true cc]
      have e : txtD cv t = t.py.shown := if_pos cc
      rcases hsh with ⟨hdp, hsw, hl1, hl2⟩ | ⟨h, _⟩
      · have htd := nd_of hv hdp
        walk_at "go"
        refine ⟨by have := py_depth hdp; omega, hsw, by rw [sizeLine_eq]; omega, ?_⟩
        exact kb _ _ ⟨by rw [e]; rfl, rfl⟩
      · exact absurd cc h
    · have t1 : decide (V.str (tx cv) = V.str (tx [114])) = false := by rw [tx_dec, decide_eq_false cc]
      have e : txtD cv t = RGm.strD t.py := if_neg cc
      rcases hsh with ⟨hdp, hsw, hl1, hl2⟩ | ⟨_, z, rfl, hzl⟩
      · have htd := nd_of hv hdp
        walk_at "go"
        refine .inl ?_
        walk_at "go"
        refine ⟨by have := py_depth hdp; omega, hsw, by rw [sizeLine_eq]; omega, ?_⟩
        exact kb _ _ ⟨by rw [e]; rfl, rfl⟩
      · cases hv
        walk_at "go"
        refine .inr ?_
        walk_at "go"
        exact kb _ _ ⟨by rw [e]; rfl, rfl⟩
  obtain ⟨rfl, rfl⟩ := hm
  obtain ⟨s, hs⟩ : ∃ s, s = (txtD cv t).cps.toList := ⟨_, rfl⟩
  have es : txtD cv t = tx s := by subst hs; exact (tx_of _).symm
  have hsl : s.length = (txtD cv t).length := by rw [hs]; exact Array.length_toList ..
  rw [← hs] at hQ
  rw [es]
  have hz2 : (tx s).length ≤ sizeLine := by rw [tx_len, sizeLine_eq]; omega
  have hsl2 : (tx s).length = s.length := tx_len s
  refine seq_of (fun σ' H' => σ' = [some (.ref q), some v, some (.str (tx s)), some (.int ((wd - s.length : Nat) : Int)), none] ∧ H = H') (fun b' kb => ?_) (fun σ' H' hm => ?_)
  · walk_at "go"
    refine kb _ _ ⟨?_, rfl⟩
    have e0 : (if (wd : Int) - ((tx s).length : Nat) > 0 then (wd : Int) - ((tx s).length : Nat) else 0) = ((wd - s.length : Nat) : Int) := by
      rw [tx_len]; split <;> omega
    rw [e0]; rfl
  obtain ⟨rfl, rfl⟩ := hm
  generalize hmm : wd - s.length = m
  have hm99 : m ≤ 99 := by omega
  have ha := ahead_le (sideN al cv t) m
  have hsd := side_is (al := al) (cv := cv) (t := t) h3
  generalize hsdn : sideN al cv t = sd at hsd ha hQ
  refine seq_of (fun σ' H' => σ' = [some (.ref q), some v, some (.str (tx s)), some (.int (m : Int)), some (.int (aheadN sd m : Nat))] ∧ Same H H') (fun b' kb => ?_) (fun σ' H' hm => ?_)
  · have cd : CDiv (m : Int) 2 := by unfold CDiv; try omega
    refine (?_ : ∀ p, H p = none → _)
    intro p fp
    walk_at "go"
    have s1 : Same H (upd (upd H p (.dK [])) p (.dK [(Sum.inr "<", .int 0), (Sum.inr ">", .int (m : Nat)), (Sum.inr "^", .int ((m : Int) / 2))])) := by rw [upd_upd]; exact same_new fp _
    have hp : (upd (upd H p (.dK [])) p (.dK [(Sum.inr "<", .int 0), (Sum.inr ">", .int (m : Nat)), (Sum.inr "^", .int ((m : Int) / 2))])) p = some (.dK [(Sum.inr "<", .int 0), (Sum.inr ">", .int (m : Nat)), (Sum.inr "^", .int ((m : Int) / 2))]) := upd_same
    refine (?_ : S1 [.ref q, v] (upd (upd H p (.dK [])) p (.dK [(Sum.inr "<", .int 0), (Sum.inr ">", .int (m : Nat)), (Sum.inr "^", .int ((m : Int) / 2))])) _ E0)
    generalize upd (upd H p (.dK [])) p (.dK [(Sum.inr "<", .int 0), (Sum.inr ">", .int (m : Nat)), (Sum.inr "^", .int ((m : Int) / 2))]) = H1 at s1 hp ⊢
    rw [← e1]
    refine ⟨q, dx, (n, cv, [c], al, ws), c, wd, v, t, R, rfl, by rw [← h4] at hq; exact s1 _ _ hq, hok0, hv.same s1, ?_⟩
    have esd : sideN ((n, cv, [c], al, ws) : RO.Fd).2.2.2.1 ((n, cv, [c], al, ws) : RO.Fd).2.1 t = sd := hsdn
    rw [esd]
    rcases hsd with rfl | rfl | rfl
    · rw [← s_lt]
      walk_at "go"
      exact kb _ _ ⟨rfl, s1⟩
    · rw [← s_gt]
      walk_at "go"
      exact kb _ _ ⟨rfl, s1⟩
    · rw [← s_up]
      walk_at "go"
      refine kb _ _ ⟨?_, s1⟩
      show [_, _, _, _, some (V.int ((m : Int) / 2))] = [_, _, _, _, some (V.int ((m / 2 : Nat) : Int))]
      rw [Int.natCast_ediv]; rfl
  obtain ⟨rfl, s1⟩ := hm
  have hq1 := s1 _ _ hq
  have l1 : (tx [c]).length = 1 := tx_len _
  have mo := mulOk1 l1 (aheadN sd m) (by omega)
  have mo2 := mulOk1 l1 (m - aheadN sd m) (by omega)
  rw [Int.ofNat_sub ha] at mo2
  have eM1 := mulC c (aheadN sd m)
  have eM2 := mulC c (m - aheadN sd m)
  rw [Int.ofNat_sub ha] at eM2
  have hL1 : (Txt.mul (tx [c]) ((aheadN sd m : Nat) : Int)).length + (tx s).length ≤ sizeLine := by
    rw [eM1, tx_len, tx_len, List.length_replicate, sizeLine_eq]; omega
  have hL2 : (Txt.mul (tx [c]) ((aheadN sd m : Nat) : Int) ++ tx s).length + (Txt.mul (tx [c]) (((m : Nat) : Int) - ((aheadN sd m : Nat) : Int))).length ≤ sizeLine := by
    rw [eM1, eM2, tx_add, tx_len, tx_len, List.length_append, List.length_replicate, List.length_replicate, sizeLine_eq]; omega
  have eR : Txt.mul (tx [c]) ((aheadN sd m : Nat) : Int) ++ tx s ++ Txt.mul (tx [c]) (((m : Nat) : Int) - ((aheadN sd m : Nat) : Int)) = tx (padS s c sd wd) := by
    rw [eM1, eM2, tx_add, tx_add]
    unfold padS
    rw [hmm]
  walk_at "go"
  rw [eR]
  exact hQ _ s1
end
end K17

set_option Elab.async false
set_option linter.all false
set_option maxRecDepth 100000
set_option maxHeartbeats 0

namespace K17
open PySem PySem.Spec PyProof.Rows L2 RC
section
variable {P : Program} {w : World} {K : PySem.W.Frag} {mg : Str → Option Value} {base : Heap}
/-! ### the value of a field -/
def valD (R : RD) (o : Option SS) (dk : List Str) (dd : Nat → Dt) (z : Str) : Option Dt := if z = "message" then o.map (fun t => .str (tx t)) else (R.fld z).or (lkp (rowD dk dd) z)
def spValueOf (K : PySem.W.Frag) : Sp := fun vs H Q _ => ∃ (m r : Addr) (ps : List (Str ⊕ RO.Fd)) (dk : List Str) (dd : Nat → Dt) (Pd : Addr → Prop) (z : Str) (R : RD) (P : Addr → Prop) (o : Option SS) (t : Dt), vs = [.ref m, .str z, .ref r] ∧ FmAt K H m ps dk dd Pd ∧ RecD K H r R P ∧ R.Dp ∧ R.MsgO o ∧ z ≠ "asctime" ∧ valD R o dk dd z = some t ∧
  (∀ (v : V) (H' : Hp) (Pv : Addr → Prop), Same H H' → HD H' t Pv v → Q v H')
theorem ok_value_of {f : Addr} (T : Txt P w K mg) (F : Stands K "value_of" "Formatter.value_of" s_Formatter_value_of [] f) (c_LogRecord_field : RGn.CallNG P w K mg base 6 (He.ma K (He.ga K "LogRecord") "field") ["self", "name"] (spField K))
    (i_BadField_init : RH.InitH P w K mg base 1 (He.ma K (He.ga K "BadField") "__init__") ["self", "name"] (RQ.spExcInit K "name")) : RGm.CallXG P w K mg base 7 f ["self", "name", "record"] (spValueOf K) := by
  refine RGm.stands_callXG0 F sc_Formatter_value_of (fun vs H Q E h => ?_) (fun cdv A outer s H vs Q E hr gd h => ?_) (fun _ _ _ _ _ _ us hl => match us, hl with | [_, _, _], _ => rfl)
  · obtain ⟨m, r, ps, dk, dd, Pd, z, R, P, o, t, rfl, _⟩ := h; rfl
  generalize e1 : spField K = S1 at c_LogRecord_field
  obtain ⟨m, r, ps, dk, dd, Pd, z, R, P, o, t, rfl, hF, hR, hD, hO, c2, ht, hQ⟩ := h
  obtain ⟨⟨dx, g, e, hrr, _, _⟩, _⟩ := id hR
  obtain ⟨dm, pt, df, fz, fy, fvs, hm, hdf, _, _⟩ := id hF
  refine ⟨_, (pss_cons (ps_if (pt_cmpR op_eq (pv 1) pe_str (nomark _)) (pss_one (ps_ret pe_never)) pss_nil)
      (pss_cons (L2H.ps_try_onlyX rfl rfl ⟨by rfl, by decide, .inl T.g_BadField⟩ (fun hd => L2H.passesAt_of rfl hd) (takes_of rfl rfl rfl rfl) (fun W pn xe tk tk2 _ => (pss_one (ps_set (i := 3) sc_Formatter_value_of.nd rfl (by first | exact Or.inl rfl | exact Or.inr rfl) (RGn.pe_mtNG gd tk T.c_LogRecord T.m_LogRecord_field c_LogRecord_field (hr.mono (by first | decide | exact Nat.le_refl _)) (pv 2) (pa_cons (pv 1) pa_nil))))) (fun a oe cls dd pn hz hf tk hot => (pss_cons (ps_if (pt_cmp (pc_dnotin (by exact hu_hot hr) (pv 1) (pe_fldK (K := K) (pv 0) rfl))) (pss_one (RH.ps_excH hot tk T.x_BadField i_BadField_init (L2H.roomH_mark (hr.mono (by first | decide | exact Nat.le_refl _)) _) T.g_BadField (by rfl) (pa_cons (pv 1) pa_nil))) pss_nil)
      (pss_one (ps_set (i := 3) sc_Formatter_value_of.nd rfl (by first | exact Or.inl rfl | exact Or.inr rfl) (pe_dget (by exact hu_hot hr) (pe_fldK (K := K) (pv 0) rfl) (pv 1) (fun _ _ => rfl)))))))
      (pss_one (ps_ret (pv 3))))), ?_⟩
  dsimp only [cxKX]
  have t1 : decide (V.str z = V.str (Str.ofString "asctime")) = false := decide_eq_false fun z => c2 (V.str.inj z)
  refine ⟨_, rfl, rfl, _, rfl, ?_⟩
  refine iteF' t1 ?_
  refine ⟨_, rfl, r, dx, _, rfl, hrr, rfl, _, rfl, ?_⟩
  refine (?_ : S1 [.ref r, .str z] H _ _)
  rw [← e1]
  unfold valD at ht
  refine ⟨r, R, P, z, rfl, hR, hD, fun hz => ⟨o, hO, fun t' H' ho s => ?_, fun ho => ?_⟩, fun hz t' ht' H' v s hv => ?_, fun hz hn H' ed s fd => ?_⟩
  · rw [if_pos hz, ho] at ht
    cases ht
    walk_at "go"
    exact hQ _ H' (fun _ => False) s rfl
  · rw [if_pos hz, ho] at ht
    cases ht
  · rw [if_neg hz, ht'] at ht
    cases ht
    walk_at "go"
    exact hQ v H' _ s hv
  · rw [if_neg hz, hn] at ht
    replace ht : lkp (rowD dk dd) z = some t := ht
    refine ⟨true, T.e_BadField_BadField, fun _ a fa => ?_, fun h => nomatch h⟩
    have s2 : Same H (upd H' ed (.xd [("name", .str z)])) := s.trans (same_new fd _)
    obtain ⟨da, kvs, P', eda, q1', q2', q3', had, hkl, hnd, hkn, hki⟩ := hdf
    cases eda
    have hm2 := s2 _ _ hm
    have hd2 := s2 _ _ had
    generalize upd H' ed (.xd [("name", .str z)]) = H2 at s2 hm2 hd2 fa ⊢
    have prE : Paired (fun (a : Str × V) (b : Str × Dt) => a.1 = b.1 ∧ HD H b.2 Pd a.2) kvs (rowD dk dd) := by
      have := pr_kvs (Rl := fun v t => HD H t Pd v) kvs dd (fun i v hv => (hki i v hv).wide q3')
      rw [hkl] at this; exact this
    have gE0 := DGet.k (k := Sum.inr z) hd2
    rw [show (kvs.map fun e => ((Sum.inr e.1 : Key), e.2)) = rowK Sum.inr id kvs from rfl, valV_rowK (fun _ _ z => Sum.inr.inj z)] at gE0
    have evE := valV_rowK (f := (Sum.inr : Str → Key)) (g := (id : V → V)) (fun _ _ z => Sum.inr.inj z) z kvs
    rcases lkp_two (Rl := fun v t => HD H t Pd v) z prE with ⟨l3, l4⟩ | ⟨v, t', l3, l4, hv⟩
    · rw [l4] at ht; cases ht
    · rw [l4] at ht; cases ht
      rw [l3] at gE0 evE
      walk_at "go"
      refine iteF' (congrArg (fun o => !Option.isSome o) evE) ?_
      refine ⟨_, rfl, m, _, _, _, _, rfl, hm2, T.c_Formatter, T.n_Formatter_defaults, rfl, _, rfl, df, _, rfl, gE0, ?_⟩
      walk_at "go"
      exact hQ _ _ _ s2 (hv.same s2)
end
end K17

set_option Elab.async false
set_option linter.all false
set_option maxRecDepth 100000
set_option maxHeartbeats 0

namespace K17
open PySem PySem.Spec PyProof.Rows L2 RC
section
variable {P : Program} {w : World} {K : PySem.W.Frag} {mg : Str → Option Value} {base : Heap}
/-! ### a record formatted -/
/-- what is written of a part -/
def PartT (R : RD) (o : Option SS) (dk : List Str) (dd : Nat → Dt) : Str ⊕ RO.Fd → List Nat → Prop
  | .inl z, s => s = z.cps.toList ∧ z.length ≤ 1000
  | .inr d, s => ∃ (t : Dt) (c w : Nat), valD R o dk dd (tx d.1) = some t ∧ Shw d.2.1 t ∧ tx d.1 ≠ "asctime" ∧ FdOk d c w ∧ s = wrD d c w t
theorem pad_len (s : List Nat) (c sd w : Nat) : (padS s c sd w).length ≤ s.length + w := by
  have := ahead_le sd (w - s.length)
  unfold padS
  rw [List.length_append, List.length_append, List.length_replicate, List.length_replicate]
  omega
theorem wr_len {d : RO.Fd} {c w : Nat} {t : Dt} (h : Shw d.2.1 t) : (wrD d c w t).length ≤ 200000 + w := by
  have h1 := pad_len (txtD d.2.1 t).cps.toList c (sideN d.2.2.2.1 d.2.1 t) w
  have h2 : (txtD d.2.1 t).cps.toList.length = (txtD d.2.1 t).length := Array.length_toList ..
  have h3 := h.le
  unfold wrD
  omega
theorem part_len {R : RD} {o : Option SS} {dk : List Str} {dd : Nat → Dt} : ∀ {p : Str ⊕ RO.Fd} {s : List Nat}, PartT R o dk dd p s → s.length ≤ 200100
  | .inl z, s, h => by
    obtain ⟨rfl, h⟩ := h
    have : z.cps.toList.length = z.length := Array.length_toList ..
    omega
  | .inr d, s, ⟨t, c, w, h1, h2, _, h5, h6⟩ => by
    have := wr_len (d := d) (c := c) (w := w) h2
    have := h5.w99
    rw [h6]; omega
theorem flat_len {R : RD} {o : Option SS} {dk : List Str} {dd : Nat → Dt} : ∀ {ps : List (Str ⊕ RO.Fd)} {ss : List (List Nat)}, Paired (PartT R o dk dd) ps ss → ss.flatten.length ≤ 200100 * ss.length
  | _, _, .nil => Nat.zero_le _
  | _, _, .cons h t => by
    have h1 := part_len h
    have h2 := flat_len t
    rw [List.flatten_cons, List.length_append, List.length_cons]; omega
def spFormatted (K : PySem.W.Frag) : Sp := fun vs H Q _ => ∃ (m r : Addr) (ps : List (Str ⊕ RO.Fd)) (dk : List Str) (dd : Nat → Dt) (Pd : Addr → Prop) (ss : List (List Nat)) (R : RD) (P : Addr → Prop) (o : Option SS), vs = [.ref m, .ref r] ∧ FmAt K H m ps dk dd Pd ∧ ps.length ≤ 60 ∧ RecD K H r R P ∧ R.Dp ∧ R.MsgO o ∧ Paired (PartT R o dk dd) ps ss ∧ (∀ (H' : Hp), Same H H' → Q (.str (tx ss.flatten)) H')
structure FInv (H : Hp) (m r p : Addr) (ss : List (List Nat)) (i : Nat) (σ : L2.St) (H' : Hp) : Prop where
  same : Same H H'
  ex : ∃ (ws : List Str) (a : Option V), H' p = some (.lst (ws.map V.str)) ∧ ws.length = i ∧ catS ws = (ss.take i).flatten ∧ σ = [some (.ref m), some (.ref r), some (.ref p), a]
theorem ok_formatted {f : Addr} (T : Txt P w K mg) (F : Stands K "formatted" "Formatter.formatted" s_Formatter_formatted [] f) (c_Formatter_value_of : RGm.CallXG P w K mg base 7 (He.ma K (He.ga K "Formatter") "value_of") ["self", "name", "record"] (spValueOf K))
    (c_Field_written : RGd.CallG P w K mg base 3 (He.ma K (He.ga K "Field") "written") ["self", "value"] (spWritten K)) : RGm.CallXG P w K mg base 8 f ["self", "record"] (spFormatted K) := by
  refine RGm.stands_callXG0 F sc_Formatter_formatted (fun vs H Q E h => ?_) (fun cdv A outer s H vs Q E hr gd h => ?_) (fun _ _ _ _ _ _ us hl => match us, hl with | [_, _], _ => rfl)
  · obtain ⟨m, r, ps, dk, dd, Pd, ss, R, P, o, rfl, _⟩ := h; rfl
  generalize e1 : spValueOf K = S1 at c_Formatter_value_of
  generalize e2 : spWritten K = S2 at c_Field_written
  obtain ⟨m, r, ps, dk, dd, Pd, ss, R, P, o, rfl, hFm, hpl, hR, hD, hO, hpr, hQ⟩ := h
  obtain ⟨dm, t, df, z, y, vs, hm, hdf, ht, hvl, hvt⟩ := id hFm
  have hss := Paired.length hpr
  refine ⟨_, (pss_cons (ps_set (i := 2) sc_Formatter_formatted.nd rfl (by first | exact Or.inl rfl | exact Or.inr rfl) (pe_lst pa_nil))
      (pss_cons (ps_for (passes_of rfl) rfl (pi_tup (pe_fld (pv 0) rfl)) (pg_name (i := 3) sc_Formatter_formatted.nd rfl (by first | exact Or.inl rfl | exact Or.inr rfl)) (pss_one (ps_expr (pe_bm PySem.F.plainAttrs_list PySem.F.slot_list_append PySem.F.type_list_append mt_append (pv 2) (pa_cons (pe_ifExp (pt_val (pe_callB call_isi (by rfl) T.b_isinstance (by decide +kernel) (pa_cons (pv 3) (pa_cons (pe_bltn (v := .ty "str") (u := .type "str") (by rfl) T.b_str (by decide +kernel) rfl) pa_nil)))) (pv 3) (RGm.pe_mtG gd T.c_Field T.m_Field_written c_Field_written (hr.mono (by first | decide | exact Nat.le_refl _)) (pv 3) (pa_cons (RGm.pe_mtXG gd (takes_of rfl rfl rfl rfl) T.c_Formatter T.m_Formatter_value_of c_Formatter_value_of (hr.mono (by first | decide | exact Nat.le_refl _)) (pv 0) (pa_cons (pe_fld (pv 3) rfl) (pa_cons (pv 1) pa_nil))) pa_nil))) pa_nil)))))
      (pss_one (ps_ret (pe_join pe_str (pv 2)))))), ?_⟩
  dsimp only [cxKX]
  walk_at "go"
  intro p fp
  walk_at "go"
  refine for_it (walk_tup (xs := vs)) (fun i σ H' => FInv H m r p ss i σ H') ⟨same_new fp _, [], none, upd_same, rfl, rfl, rfl⟩ (fun i σ H' _ h => SqT.of (h.same _ _ ht)) (fun i x σ H0 H1 hi hP hy => ?_) (fun σ H1 hP => ?_)
  · obtain ⟨rfl, hy⟩ := hy
    obtain ⟨s1, ws, a, hp1, hwl, hcat, rfl⟩ := hP
    obtain ⟨part, hpart⟩ : ∃ part, ps[i]? = some part := ⟨_, List.getElem?_eq_getElem (by rw [hvl]; exact hi)⟩
    obtain ⟨s0, hs0⟩ : ∃ s0, ss[i]? = some s0 := ⟨_, List.getElem?_eq_getElem (by rw [← hss, hvl]; exact hi)⟩
    have hA := hvt i part x hpart hy
    have hpt := pr_get hpr hpart hs0
    have hsz : (ws.map V.str).length < sizeLine := by rw [List.length_map, sizeLine_eq]; omega
    have next : ∀ (w : Str) (H2 : Hp) (a2 : Option V), Same H1 H2 → w.cps.toList = s0 → FInv H m r p ss (i + 1) [some (.ref m), some (.ref r), some (.ref p), a2] (upd H2 p (.lst (ws.map V.str ++ [.str w]))) := fun w H2 a2 s2 hw =>
      ⟨fun b u hb => (by rw [upd_ne (ne_of_none hb fp)]; exact s2 _ _ (s1 _ _ hb)), ws ++ [w], a2, by rw [upd_same, List.map_append]; rfl, by rw [List.length_append, hwl]; rfl, by rw [catS_snoc, hcat, take_snoc hs0, List.flatten_append, hw]; simp, rfl⟩
    cases hA with
    | txt z0 =>
      obtain ⟨rfl, hz0⟩ := hpt
      walk_at "go"
      exact next _ _ _ (Same.refl _) rfl
    | @fld q dq d hq =>
      obtain ⟨t0, c, w0, g1, g2, g4, g5, rfl⟩ := hpt
      have hq1 := s1 _ _ hq
      have hq1' : H1 q = some (.ins (CFd K) dq (fdF (tx d.1) (tx d.2.1) (tx d.2.2.1) (tx d.2.2.2.1) (wN d.2.2.2.2))) := hq1
      have hm1 := s1 _ _ hm
      have ty4 := RB.TyC.tyx T.ty_Field T.c_Field hq1
      have ky := T.kiy_Field_str
      walk_at "go"
      refine (?_ : S1 [.ref m, .str (tx d.1), .ref r] H1 _ _)
      rw [← e1]
      refine ⟨m, r, ps, dk, dd, Pd, tx d.1, R, P, o, t0, rfl, hFm.same s1, hR.same s1, hD, hO, g4, g1, fun v H2 Pv s2 hv => ?_⟩
      have hp2 := s2 _ _ hp1
      have hq2 := s2 _ _ hq1
      walk_at "go"
      refine (?_ : S2 [.ref q, v] H2 _ E0)
      rw [← e2]
      refine ⟨q, dq, d, c, w0, v, t0, _, rfl, hq2, g5, hv, g2, fun H3 s3 => ?_⟩
      have hp3 := s3 _ _ hp2
      walk_at "go"
      exact next _ _ _ (s2.trans s3) rfl
  · obtain ⟨s1, ws, a, hp1, hwl, hcat, rfl⟩ := hP
    rw [List.take_of_length_le (by rw [← hss, hvl]; exact Nat.le_refl _)] at hcat
    have hle : ss.flatten.length ≤ 12100000 := by
      have := flat_len hpr
      omega
    walk_at "go"
    refine ⟨⟨_, rfl⟩, _, rfl, "", p, ws, rfl, rfl, .inl (SqL.of hp1), ?_, ?_⟩
    · rw [catS_len, hcat]
      show ss.flatten.length + ws.length * 0 ≤ _
      omega
    · rw [join_cat, hcat]
      exact hQ _ s1
/-- the names of the fields -/
def nmsA : List (Str ⊕ RO.Fd) → List (List Nat)
  | [] => []
  | .inl _ :: r => nmsA r
  | .inr d :: r => d.1 :: nmsA r
theorem nmsA_snoc (x : Str ⊕ RO.Fd) : ∀ ps : List (Str ⊕ RO.Fd), nmsA (ps ++ [x]) = nmsA ps ++ nmsA [x]
  | [] => rfl
  | .inl _ :: r => nmsA_snoc x r
  | .inr n :: r => congrArg (n.1 :: ·) (nmsA_snoc x r)
theorem nmsA_len : ∀ ps : List (Str ⊕ RO.Fd), (nmsA ps).length ≤ ps.length
  | [] => Nat.le_refl _
  | .inl _ :: r => Nat.le_succ_of_le (nmsA_len r)
  | .inr _ :: r => Nat.succ_le_succ (nmsA_len r)
def spFields (K : PySem.W.Frag) : Sp := fun vs H Q _ => ∃ (m : Addr) (ps : List (Str ⊕ RO.Fd)) (dk : List Str) (dd : Nat → Dt) (Pd : Addr → Prop), vs = [.ref m] ∧ FmAt K H m ps dk dd Pd ∧ ps.length ≤ 1000 ∧
  ∀ (r : Addr) (H' : Hp), Same H H' → H' r = some (.tup ((nmsA ps).map fun n => V.str (tx n))) → Q (.ref r) H'
structure NInv (H : Hp) (D : Addr) (ps : List (Str ⊕ RO.Fd)) (i : Nat) (H' : Hp) : Prop where
  same : Same H H'
  at_ : H' D = some (.lst ((nmsA (ps.take i)).map fun n => V.str (tx n)))
theorem ok_fields {f : Addr} (T : Txt P w K mg) (F : Stands K "fields" "Formatter.fields" s_Formatter_fields [] f) : Callable P w K mg base 1 f ["self"] [] (spFields K) := by
  refine F.call0 sc_Formatter_fields (fun vs H Q E h => ?_) (fun cdv A outer s H vs Q E hr h => ?_) (fun _ _ _ _ _ _ us hl => match us, hl with | [_], _ => rfl)
  · obtain ⟨m, ps, dk, dd, Pd, rfl, _⟩ := h; rfl
  obtain ⟨m, ps, dk, dd, Pd, rfl, hF, hpl, hQ⟩ := h
  obtain ⟨dm, t, df, z, y, vs, hm, hdf, ht, hvl, hvt⟩ := hF
  refine ⟨_, (pss_one (ps_ret (pe_callTy call_tuple_of (by rfl) T.b_tuple (by decide +kernel) (pa_cons (pe_lc (own := [("part", 1)]) (by rfl) sc_Formatter_fields.nd (pi_tup (pe_fld (pv 0) rfl)) (blkOk_by (own := [("part", 1)]) (N := nm_Formatter_fields) (sc := defScope s_Formatter_fields) (by decide +kernel)) (fun _ _ _ _ _ => (pg_name (i := 1) sc_Formatter_fields.nd rfl (by first | exact Or.inl rfl | exact Or.inr rfl))) (fun _ _ _ _ _ => (pts_one (pt_val (pe_callB (callK (K := K) rIsi call_isi) (by rfl) T.b_isinstance (by decide +kernel) (pa_cons (pv 1) (pa_cons (pe_glob (v := .ref _) (by rfl) T.g_Field rfl) pa_nil)))))) (fun _ _ _ _ _ => (pe_fldK (K := K) (pv 1) rfl))) pa_nil)))), ?_⟩
  walk_at "in"
  walk_at "go"
  intro D hD
  refine lc_it (walk_tup (xs := vs)) (fun i H2 => NInv H D ps i H2) ⟨same_new hD _, upd_same⟩ (fun i H2 _ h => SqT.of (h.same _ _ ht)) (fun i x H3 H2 hi hP hy => ?_) (fun H2 h2 => ?_)
  · obtain ⟨rfl, hx⟩ := hy
    obtain ⟨g1, g2⟩ := hP
    obtain ⟨part, hpart⟩ : ∃ part, ps[i]? = some part := ⟨_, List.getElem?_eq_getElem (by rw [hvl]; exact hi)⟩
    have hA := hvt i part x hpart hx
    have e1 : nmsA (ps.take (i + 1)) = nmsA (ps.take i) ++ nmsA [part] := by rw [take_snoc hpart, nmsA_snoc]
    have ml := nmsA_len (ps.take i)
    rw [List.length_take] at ml
    have hsz : ((nmsA (ps.take i)).map fun n => V.str (tx n)).length < sizeLine := by rw [List.length_map, sizeLine_eq]; omega
    have kb := T.kib_str_Field
    have ki := T.kit_Field_Field
    cases hA with
    | txt z0 =>
      walk_at "go"
      exact ⟨g1, by rw [e1]; show _ = some (HO.lst ((nmsA (ps.take i) ++ []).map _)); rw [List.append_nil]; exact g2⟩
    | @fld q dq d hq =>
      have h3 := g1 _ _ hq
      have h3' : H2 q = some (.ins (CFd K) dq (fdF (tx d.1) (tx d.2.1) (tx d.2.2.1) (tx d.2.2.2.1) (wN d.2.2.2.2))) := h3
      have ty4 := RB.TyC.tyx T.ty_Field T.c_Field h3
      refine ⟨rfl, _, rfl, _, _, _, _, true, rfl, .own _, ty4, ki, _, rfl, iteT' rfl ?_⟩
      refine ⟨_, rfl, q, _, _, _, _, rfl, h3', T.c_Field, T.n_Field_name, rfl, _, g2, hsz, fun b o hb => ?_, ?_⟩
      · rw [upd_ne (ne_of_none hb hD)]; exact g1 _ _ hb
      · rw [upd_same, e1, List.map_append]; rfl
  · obtain ⟨g1, g2⟩ := h2
    rw [List.take_of_length_le (by rw [hvl]; exact Nat.le_refl _)] at g2
    have ml := nmsA_len ps
    walk_at "go"
    exact .inl ⟨SqL.of g2, fun l fl => hQ l _ (g1.trans (same_new fl _)) upd_same⟩
end
end K17

set_option Elab.async false
set_option linter.all false
set_option maxRecDepth 100000
set_option maxHeartbeats 0
namespace K17
open PySem PySem.Spec PyProof.Rows L2 RC
section
variable {P : Program} {w : World} {K : PySem.W.Frag} {mg : Str → Option Value} {base : Heap}
/-! ### a field of any name is read -/
theorem nm_app {k : List Nat} (h : RP.nmOk k = true) (r : List Nat) (hr : ∀ c, r.head? = some c → RP.nameB c = false) : RP.nmLen (k ++ r) = k.length := RP.nm_of h hr
theorem body_head (g f a w : List Nat) : ∀ c, (RJ.bodyB [] g f a w).head? = some c → RP.nameB c = false := fun c h => by
  unfold RJ.bodyB at h
  by_cases hg : g = []
  · rw [if_pos hg] at h
    by_cases hs : RJ.spcB f a w = []
    · rw [if_pos hs] at h; cases h
    · rw [if_neg hs] at h; cases h; decide
  · rw [if_neg hg] at h; cases h; decide
theorem body_app (k g f a w : List Nat) : RJ.bodyB k g f a w = k ++ RJ.bodyB [] g f a w := by
  unfold RJ.bodyB
  rw [List.append_assoc, List.nil_append]
theorem field_name {k : List Nat} (hk : RP.nmOk k = true) {r : List Nat} (hr : ∀ c, r.head? = some c → RP.nameB c = false) {n' g f a w : List Nat} (h : RO.fieldB ([118] ++ r) = some (n', g, f, a, w)) : RO.fieldB (k ++ r) = some (k, g, f, a, w) := by
  have e1 : RP.nmLen ([118] ++ r) = 1 := nm_app (by decide) r hr
  have e2 := nm_app hk r hr
  have hk0 : k.length ≠ 0 := fun z => by
    rw [List.length_eq_zero_iff.mp z] at hk; cases hk
  unfold RO.fieldB at h ⊢
  rw [e1, if_neg (by decide)] at h
  rw [e2, if_neg hk0]
  have d1 : ([118] ++ r).drop 1 = r := rfl
  have d2 : (k ++ r).drop k.length = r := List.drop_left
  have t2 : (k ++ r).take k.length = k := List.take_left
  rw [d1] at h
  rw [d2, t2]
  split at h
  · cases h; rfl
  · split at h
    · rename_i hc
      rw [if_pos hc]
      obtain ⟨q, hq, e3⟩ := Option.map_eq_some_iff.mp h
      rw [hq]
      cases e3
      rfl
    · cases h
end
end K17

set_option Elab.async false
set_option linter.all false
set_option maxRecDepth 100000
set_option maxHeartbeats 0

namespace K17
open PySem PySem.Spec PyProof.Rows L2 RC
section
variable {P : Program} {w : World} {K : PySem.W.Frag} {mg : Str → Option Value} {base : Heap}
/-! ### widths and fields, over lists of signs -/
def digS (w : Nat) : List Nat := if w = 0 then [] else if w < 10 then [48 + w] else [48 + w / 10, 48 + w % 10]
theorem dig_wN : ∀ w : Nat, w < 100 → wN (digS w) = (w : Int) := by decide +kernel
theorem dig_txt : ∀ w : Nat, w < 100 → 0 < w → Str.ofString (toString (w : Int)) = tx (digS w) := by decide +kernel
theorem dig_len : ∀ w : Nat, w < 100 → (digS w).length ≤ 2 := by decide +kernel
theorem all_field : (RJ.signsS.all fun g => RJ.faS.all fun p => (List.range 100).all fun w => decide (RO.fieldB (RJ.bodyB [118] g p.1 p.2 (digS w)) = some ([118], g, p.1, p.2, digS w))) = true := by decide +kernel
theorem field_ok1 {g f a : List Nat} {w : Nat} (h2 : g ∈ RJ.signsS) (h3 : (f, a) ∈ RJ.faS) (hw : w < 100) : RO.fieldB (RJ.bodyB [118] g f a (digS w)) = some ([118], g, f, a, digS w) :=
  of_decide_eq_true (List.all_eq_true.mp (List.all_eq_true.mp (List.all_eq_true.mp all_field g h2) (f, a) h3) w (List.mem_range.mpr hw))
theorem field_ok {k g f a : List Nat} {w : Nat} (hk : RP.nmOk k = true) (h2 : g ∈ RJ.signsS) (h3 : (f, a) ∈ RJ.faS) (hw : w < 100) : RO.fieldB (RJ.bodyB k g f a (digS w)) = some (k, g, f, a, digS w) := by
  have h := field_ok1 h2 h3 hw
  rw [body_app] at h ⊢
  exact field_name hk (body_head g f a (digS w)) h
theorem fa_shape : ∀ p ∈ RJ.faS, (∃ c, p.1 = [c]) ∧ (p.2 = [] ∨ p.2 = [60] ∨ p.2 = [62] ∨ p.2 = [94]) := by
  have h : ∀ p ∈ RJ.faS, (p.1.length = 1) ∧ (p.2 = [] ∨ p.2 = [60] ∨ p.2 = [62] ∨ p.2 = [94]) := by decide +kernel
  intro p hp
  obtain ⟨h1, h2⟩ := h p hp
  refine ⟨?_, h2⟩
  match p.1, h1 with
  | [c], _ => exact ⟨c, rfl⟩
theorem sign_shape : ∀ g ∈ RJ.signsS, g = [] ∨ g = [114] ∨ g = [115] := by decide
theorem fdOk_of {k g f a : List Nat} {w c : Nat} (h2 : g ∈ RJ.signsS) (h3 : (f, a) ∈ RJ.faS) (hw : w < 100) (hc : f = [c]) : FdOk (k, g, f, a, digS w) c w :=
  ⟨sign_shape g h2, hc, (fa_shape _ h3).2, dig_wN w hw, by omega⟩
/-! ### a field, drawn -/
/-- the names that a field may have here -/
structure NmZ (z : Str) : Prop where
  ok : RP.nmOk z.cps.toList = true
  le : z.cps.toList.length ≤ 9
theorem in_signs {x : V} (h : x ∈ ([.str "", .str "", .str "r", .str "s"] : List V)) : ∃ k ∈ RJ.signsS, x = .str (tx k) := by
  have e1 : Str.ofString "r" = tx [114] := by decide +kernel
  have e2 : Str.ofString "s" = tx [115] := by decide +kernel
  simp only [List.mem_cons, List.not_mem_nil, or_false] at h
  rcases h with rfl | rfl | rfl | rfl
  · exact ⟨[], by decide, by rw [s_empty]⟩
  · exact ⟨[], by decide, by rw [s_empty]⟩
  · exact ⟨[114], by decide, by rw [e1]⟩
  · exact ⟨[115], by decide, by rw [e2]⟩
theorem in_aligns {x : V} (h : x ∈ ([.str "", .str "", .str "<", .str ">", .str "^"] : List V)) : ∃ k, (k = [] ∨ k ∈ RJ.alignsS) ∧ x = .str (tx k) := by
  have e1 : Str.ofString "<" = tx [60] := by decide +kernel
  have e2 : Str.ofString ">" = tx [62] := by decide +kernel
  have e3 : Str.ofString "^" = tx [94] := by decide +kernel
  simp only [List.mem_cons, List.not_mem_nil, or_false] at h
  rcases h with rfl | rfl | rfl | rfl | rfl
  · exact ⟨[], .inl rfl, by rw [s_empty]⟩
  · exact ⟨[], .inl rfl, by rw [s_empty]⟩
  · exact ⟨[60], .inr (by decide), by rw [e1]⟩
  · exact ⟨[62], .inr (by decide), by rw [e2]⟩
  · exact ⟨[94], .inr (by decide), by rw [e3]⟩
def fillsV : List V := [.str "*", .str "<", .str ">", .str "^", .str ":", .str "!", .str "0", .str "5", .str "$", .str "x", .str "\n", .str "'"]
theorem fills_eq : fillsV = RJ.fillsS.map fun m => V.str (tx m) := by
  have e : ∀ (z : Str) (l : List Nat), z.cps.toList = l → V.str z = V.str (tx l) := fun z l h => by rw [← h, tx_of]
  show _ = [V.str (tx [42]), V.str (tx [60]), V.str (tx [62]), V.str (tx [94]), V.str (tx [58]), V.str (tx [33]), V.str (tx [48]), V.str (tx [53]), V.str (tx [36]), V.str (tx [120]), V.str (tx [10]), V.str (tx [39])]
  unfold fillsV
  rw [e "*" [42] (by decide +kernel), e "<" [60] (by decide +kernel), e ">" [62] (by decide +kernel), e "^" [94] (by decide +kernel), e ":" [58] (by decide +kernel), e "!" [33] (by decide +kernel), e "0" [48] (by decide +kernel), e "5" [53] (by decide +kernel), e "$" [36] (by decide +kernel), e "x" [120] (by decide +kernel), e "\n" [10] (by decide +kernel), e "'" [39] (by decide +kernel)]
theorem in_fills {x : V} (h : x ∈ fillsV) : ∃ k ∈ RJ.fillsS, x = .str (tx k) := by
  rw [fills_eq] at h
  obtain ⟨k, h1, h2⟩ := List.mem_map.mp h
  exact ⟨k, h1, h2.symm⟩
def widsV : List V := [.int 0, .int 0, .int 1, .int 5, .int 9, .int 10, .int 12, .int 30, .int 99]
theorem in_wids {x : V} (h : x ∈ widsV) : ∃ w : Nat, w < 100 ∧ x = .int (w : Nat) := by
  simp only [widsV, List.mem_cons, List.not_mem_nil, or_false] at h
  rcases h with rfl | rfl | rfl | rfl | rfl | rfl | rfl | rfl | rfl
  · exact ⟨0, by decide, rfl⟩
  · exact ⟨0, by decide, rfl⟩
  · exact ⟨1, by decide, rfl⟩
  · exact ⟨5, by decide, rfl⟩
  · exact ⟨9, by decide, rfl⟩
  · exact ⟨10, by decide, rfl⟩
  · exact ⟨12, by decide, rfl⟩
  · exact ⟨30, by decide, rfl⟩
  · exact ⟨99, by decide, rfl⟩
theorem fa_none : (([32], []) : List Nat × List Nat) ∈ RJ.faS := by decide +kernel
theorem fa_blank : ∀ a ∈ RJ.alignsS, (([32], a) : List Nat × List Nat) ∈ RJ.faS := by decide +kernel
theorem fa_fill : ∀ f ∈ RJ.fillsS, ∀ a ∈ RJ.alignsS, ((f, a) : List Nat × List Nat) ∈ RJ.faS := by decide +kernel
def spLField : Sp := fun vs H Q _ => ∃ (s l k : Addr) (n : Nat) (Z : List Str), vs = [.ref s, .ref k] ∧ 1 ≤ Z.length ∧ Z.length ≤ 1000 ∧ Stm H s l n ∧ n ≤ 900000 ∧ H k = some (.lst (Z.map V.str)) ∧ k ≠ s ∧ k ≠ l ∧
  ∀ (q : Addr) (z : Str) (g f a : List Nat) (w : Nat) (H' : Hp), Old s l H H' → Stm H' s l (n + 10) → z ∈ Z → g ∈ RJ.signsS → (f, a) ∈ RJ.faS → w < 100 → H' q = some (.tup [.str z, .str (tx g), .str (tx f), .str (tx a), .int (w : Nat)]) → Q (.ref q) H'
theorem ok_lfield {f : Addr} (T : Txt P w K mg) (F : Stands K "_law_field" "_law_field" s__law_field [] f) (c__law_draw : Callable P w K mg base 1 (He.ga K "_law_draw") ["_law_stream", "_law_many"] [] spDraw)
    (c__law_pick : Callable P w K mg base 2 (He.ga K "_law_pick") ["_law_stream", "_law_some"] [] (spPick K)) : Callable P w K mg base 3 f ["_law_stream", "_law_keys"] [] spLField := by
  refine F.call0 sc__law_field (fun vs H Q E h => ?_) (fun cdv A outer s0 H vs Q E hr h => ?_) (fun _ _ _ _ _ _ us hl => match us, hl with | [_, _], _ => rfl)
  · obtain ⟨s, l, k, n, Z, rfl, _⟩ := h; rfl
  generalize e1 : spPick K = SP at c__law_pick
  obtain ⟨s, l, kk, n, Z, rfl, hZ1, hZ2, hs, hn, hk, nks, nkl, hQ⟩ := h
  have PK : ∀ (p : Addr) (n' : Nat) (xs : List V) (H : Hp) (Q : VK), Stm H s l n' → n' ≤ 1000000 → p ≠ s → p ≠ l → H p = some (.lst xs) → 1 ≤ xs.length → xs.length ≤ 1000 → (∀ (H' : Hp) (x : V), Old s l H H' → Stm H' s l (n' + 1) → x ∈ xs → Q x H') → SP [.ref s, .ref p] H Q E0 := fun p n' xs H Q a1 a2 a3 a4 a5 a6 a7 a8 => by
    rw [← e1]; exact ⟨s, l, p, n', xs, rfl, a1, a2, a3, a4, a5, a6, a7, a8⟩
  refine ⟨_, (pss_cons (ps_par (by rfl) sc__law_field.nd (i := 2) (j := 3) rfl rfl (by decide) rfl rfl (pa_cons (pe_fn T.g__law_pick c__law_pick (hr.mono (by first | decide | exact Nat.le_refl _)) (by rfl) (pa_cons (pv 0) (pa_cons (pv 1) pa_nil))) (pa_cons (pe_fn T.g__law_pick c__law_pick (hr.mono (by first | decide | exact Nat.le_refl _)) (by rfl) (pa_cons (pv 0) (pa_cons (pe_lst (pa_cons pe_str (pa_cons pe_str (pa_cons pe_str (pa_cons pe_str pa_nil))))) pa_nil))) pa_nil)) (by rfl))
      (pss_cons (ps_par (by rfl) sc__law_field.nd (i := 4) (j := 5) rfl rfl (by decide) rfl rfl (pa_cons (pe_fn T.g__law_pick c__law_pick (hr.mono (by first | decide | exact Nat.le_refl _)) (by rfl) (pa_cons (pv 0) (pa_cons (pe_lst (pa_cons pe_str (pa_cons pe_str (pa_cons pe_str (pa_cons pe_str (pa_cons pe_str pa_nil)))))) pa_nil))) (pa_cons pe_str pa_nil)) (by rfl))
      (pss_cons (ps_if (PW.pt (pw_and (pt_cmpR op_ne (pv 4) pe_str (nomark _)) (pw_and1 (pt_cmpR op_eq (pe_fn T.g__law_draw c__law_draw (hr.mono (by first | decide | exact Nat.le_refl _)) (by rfl) (pa_cons (pv 0) (pa_cons pe_int pa_nil))) pe_int (nomark _))))) (pss_one (ps_set (i := 5) sc__law_field.nd rfl (by first | exact Or.inl rfl | exact Or.inr rfl) (pe_fn T.g__law_pick c__law_pick (hr.mono (by first | decide | exact Nat.le_refl _)) (by rfl) (pa_cons (pv 0) (pa_cons (pe_lst (pa_cons pe_str (pa_cons pe_str (pa_cons pe_str (pa_cons pe_str (pa_cons pe_str (pa_cons pe_str (pa_cons pe_str (pa_cons pe_str (pa_cons pe_str (pa_cons pe_str (pa_cons pe_str (pa_cons pe_str pa_nil))))))))))))) pa_nil))))) pss_nil)
      (pss_one (ps_ret (pe_tup (pa_cons (pv 2) (pa_cons (pv 3) (pa_cons (pv 5) (pa_cons (pv 4) (pa_cons (pe_fn T.g__law_pick c__law_pick (hr.mono (by first | decide | exact Nat.le_refl _)) (by rfl) (pa_cons (pv 0) (pa_cons (pe_lst (pa_cons pe_int (pa_cons pe_int (pa_cons pe_int (pa_cons pe_int (pa_cons pe_int (pa_cons pe_int (pa_cons pe_int (pa_cons pe_int (pa_cons pe_int pa_nil)))))))))) pa_nil))) pa_nil))))))))))), ?_⟩
  walk_at "in"
  refine seq_of (fun σ' H' => ∃ z g, z ∈ Z ∧ g ∈ RJ.signsS ∧ σ' = [some (.ref s), some (.ref kk), some (.str z), some (.str (tx g)), none, none] ∧ Old s l H H' ∧ Stm H' s l (n + 2)) (fun b' kb => ?_) (fun σ' H1 hm => ?_)
  · walk_at "go"
    refine PK kk n _ _ _ hs (by omega) nks nkl hk (by rw [List.length_map]; exact hZ1) (by rw [List.length_map]; exact hZ2) fun H1 x o1 st1 m1 => ?_
    obtain ⟨k, hk1, rfl⟩ := List.mem_map.mp m1
    walk_at "go"
    intro p fp
    obtain ⟨nps, npl⟩ := stm_new st1 fp
    have st2 := st1.same (same_new fp (.lst [.str "", .str "", .str "r", .str "s"]))
    have o2 : Old s l H (upd H1 p (.lst [.str "", .str "", .str "r", .str "s"])) := o1.trans (Old.of_same (same_new fp _))
    refine PK p (n + 1) _ _ _ st2 (by omega) nps npl upd_same (by decide) (by decide) fun H2 y o3 st3 m2 => ?_
    obtain ⟨g, hg1, rfl⟩ := in_signs m2
    walk_at "go"
    exact kb _ _ ⟨k, g, hk1, hg1, rfl, o2.trans o3, st3⟩
  obtain ⟨k, g, hk1, hg1, rfl, o1, st1⟩ := hm
  refine seq_of (fun σ' H' => ∃ a, (a = [] ∨ a ∈ RJ.alignsS) ∧ σ' = [some (.ref s), some (.ref kk), some (.str k), some (.str (tx g)), some (.str (tx a)), some (.str (tx [32]))] ∧ Old s l H H' ∧ Stm H' s l (n + 3)) (fun b' kb => ?_) (fun σ' H2 hm => ?_)
  · rw [s_blank]
    walk_at "go"
    intro p fp
    obtain ⟨nps, npl⟩ := stm_new st1 fp
    have st2 := st1.same (same_new fp (.lst [.str "", .str "", .str "<", .str ">", .str "^"]))
    have o2 : Old s l H (upd H1 p (.lst [.str "", .str "", .str "<", .str ">", .str "^"])) := o1.trans (Old.of_same (same_new fp _))
    refine PK p (n + 2) _ _ _ st2 (by omega) nps npl upd_same (by decide) (by decide) fun H2 y o3 st3 m2 => ?_
    obtain ⟨a, ha1, rfl⟩ := in_aligns m2
    walk_at "go"
    exact kb _ _ ⟨a, ha1, rfl, o2.trans o3, st3⟩
  obtain ⟨a, ha1, rfl, o2, st2⟩ := hm
  clear o1 st1
  refine seq_of (fun σ' H' => ∃ f, (f, a) ∈ RJ.faS ∧ σ' = [some (.ref s), some (.ref kk), some (.str k), some (.str (tx g)), some (.str (tx a)), some (.str (tx f))] ∧ Old s l H H' ∧ Stm H' s l (n + 5)) (fun b' kb => ?_) (fun σ' H3 hm => ?_)
  · rw [s_empty]
    rcases ha1 with rfl | ha1
    · have t1 : (!decide (V.str (tx ([] : List Nat)) = V.str (tx []))) = false := by rw [decide_eq_true rfl]; rfl
      walk_at "go"
      exact kb _ _ ⟨[32], fa_none, rfl, o2, st2.mono (by omega)⟩
    · have a0 : a ≠ [] := fun h => by rw [h] at ha1; revert ha1; decide
      have t1 : (!decide (V.str (tx a) = V.str (tx []))) = true := by rw [tx_dec, decide_eq_false a0]; rfl
      walk_at "go"
      intro H3 d o3 st3 d1 d2
      walk_at "go"
      by_cases d0 : d = 0
      · have t2 : decide (V.int d = V.int 0) = true := decide_eq_true (congrArg V.int d0)
        walk_at "go"
        intro p fp
        obtain ⟨nps, npl⟩ := stm_new st3 fp
        have st4 := st3.same (same_new fp (.lst fillsV))
        refine PK p (n + 4) _ _ _ st4 (by omega) nps npl upd_same (by decide) (by decide) fun H4 y o4 st5 m2 => ?_
        obtain ⟨f, hf1, rfl⟩ := in_fills m2
        walk_at "go"
        exact kb _ _ ⟨f, fa_fill f hf1 a ha1, rfl, (o2.trans o3).trans ((Old.of_same (same_new fp _)).trans o4), st5⟩
      · have t2 : decide (V.int d = V.int 0) = false := decide_eq_false fun z => d0 (V.int.inj z)
        walk_at "go"
        exact kb _ _ ⟨[32], fa_blank a ha1, rfl, o2.trans o3, st3.mono (by omega)⟩
  obtain ⟨f, hfa, rfl, o3, st3⟩ := hm
  walk_at "go"
  intro p fp
  obtain ⟨nps, npl⟩ := stm_new st3 fp
  have st4 := st3.same (same_new fp (.lst widsV))
  refine PK p (n + 5) _ _ _ st4 (by omega) nps npl upd_same (by decide) (by decide) fun H4 y o4 st5 m2 => ?_
  obtain ⟨w, hw, rfl⟩ := in_wids m2
  walk_at "go"
  intro q fq
  exact hQ q k g f a w _ ((o3.trans (Old.of_same (same_new fp _))).trans (o4.trans (Old.of_same (same_new fq _)))) ((st5.same (same_new fq _)).mono (by omega)) hk1 hg1 hfa hw upd_same
end
end K17

set_option Elab.async false
set_option linter.all false
set_option maxRecDepth 100000
set_option maxHeartbeats 0

namespace K17
open PySem PySem.Spec PyProof.Rows L2 RC
section
variable {P : Program} {w : World} {K : PySem.W.Frag} {mg : Str → Option Value} {base : Heap}
/-! ### a field, written -/
theorem signs_len : ∀ k ∈ RJ.signsS, k.length ≤ 1 := by decide
theorem fa_len : ∀ p ∈ RJ.faS, p.1.length ≤ 1 ∧ p.2.length ≤ 1 := by decide +kernel
theorem wid_cases {w : Nat} (h : w < 100) : (w = 0 ∧ digS w = []) ∨ (0 < (w : Int) ∧ (w : Int).natAbs.log2 < 1920 ∧ Str.ofString (toString (w : Int)) = tx (digS w)) := by
  by_cases c : w = 0
  · exact .inl ⟨c, by rw [c]; rfl⟩
  · refine .inr ⟨by omega, ?_, dig_txt w h (by omega)⟩
    have : (w : Int).natAbs = w := Int.natAbs_natCast w
    rw [this]
    have := (Nat.log2_lt c).mpr (Nat.lt_of_lt_of_le h (show 100 ≤ 2 ^ 7 by decide))
    omega
theorem add_le {a b : List Nat} (h : a.length + b.length ≤ 1000) : (tx a).length + (tx b).length ≤ sizeLine := by
  rw [tx_len, tx_len, sizeLine_eq]; omega
theorem add_tx {a b : List Nat} {H : Hp} {Q : VK} (h : a.length + b.length ≤ 1000) (q : Q (.str (tx (a ++ b))) H) : ∃ i j, V.str (tx a) = V.str i ∧ V.str (tx b) = V.str j ∧ i.length + j.length ≤ sizeLine ∧ Q (.str (i ++ j)) H :=
  ⟨tx a, tx b, rfl, rfl, add_le h, by rw [tx_add]; exact q⟩
def spBraced : Sp := fun vs H Q _ => ∃ (p : Addr) (k g f a : List Nat) (w : Nat), vs = [.ref p] ∧ k.length ≤ 9 ∧ H p = some (.tup [.str (tx k), .str (tx g), .str (tx f), .str (tx a), .int (w : Nat)]) ∧ g ∈ RJ.signsS ∧ (f, a) ∈ RJ.faS ∧ w < 100 ∧ Q (.str (tx (123 :: (RJ.bodyB k g f a (digS w) ++ [125])))) H
theorem ok_braced {f : Addr} (T : Txt P w K mg) (F : Stands K "_law_braced" "_law_braced" s__law_braced [] f) : Callable P w K mg base 1 f ["_law_field_here"] [] spBraced := by
  refine F.call0 sc__law_braced (fun vs H Q E h => ?_) (fun cdv A outer s0 H vs Q E hr h => ?_) (fun _ _ _ _ _ _ us hl => match us, hl with | [_], _ => rfl)
  · obtain ⟨p, k, g, f, a, w, rfl, _⟩ := h; rfl
  obtain ⟨p, k, g, f, a, w, rfl, kl, hp, h2, h3, h4, hQ⟩ := h
  refine ⟨_, (pss_cons (ps_asg (pv 0) (RG.pg_tupK (K := K) (n := 5) (by rfl) (pgs_cons (pg_name (i := 1) sc__law_braced.nd rfl (by first | exact Or.inl rfl | exact Or.inr rfl)) (pgs_cons (pg_name (i := 2) sc__law_braced.nd rfl (by first | exact Or.inl rfl | exact Or.inr rfl)) (pgs_cons (pg_name (i := 3) sc__law_braced.nd rfl (by first | exact Or.inl rfl | exact Or.inr rfl)) (pgs_cons (pg_name (i := 4) sc__law_braced.nd rfl (by first | exact Or.inl rfl | exact Or.inr rfl)) (pgs_cons (pg_name (i := 5) sc__law_braced.nd rfl (by first | exact Or.inl rfl | exact Or.inr rfl)) pgs_nil)))))))
      (pss_cons (ps_set (i := 6) sc__law_braced.nd rfl (by first | exact Or.inl rfl | exact Or.inr rfl) (pe_op op_add_str (pe_op op_add_str (pe_ifExp (pt_cmpR op_ne (pv 3) pe_str (nomark _)) (pv 3) pe_str) (pv 4)) (pe_ifExp (pt_cmpR op_gt (pv 5) pe_int (nomark _)) (pe_callTy call_str_int (by rfl) T.b_str (by decide +kernel) (pa_cons (pv 5) pa_nil)) pe_str)))
      (pss_one (ps_ret (pe_op op_add_str (pe_op op_add_str (pe_op op_add_str (pe_op op_add_str pe_str (pv 1)) (pe_ifExp (pt_cmpR op_ne (pv 2) pe_str (nomark _)) (pe_op op_add_str pe_str (pv 2)) pe_str)) (pe_ifExp (pt_cmpR op_ne (pv 6) pe_str (nomark _)) (pe_op op_add_str pe_str (pv 6)) pe_str)) pe_str))))), ?_⟩
  walk_at "in"
  have gl := signs_len g h2
  obtain ⟨fl, al⟩ := fa_len _ h3
  have wl := dig_len w h4
  replace fl : f.length ≤ 1 := fl
  replace al : a.length ≤ 1 := al
  have wc := wid_cases h4
  clear h2 h3
  generalize digS w = ws at wl wc hQ
  refine seq_of (fun σ' H' => σ' = [some (.ref p), some (.str (tx k)), some (.str (tx g)), some (.str (tx f)), some (.str (tx a)), some (.int w), none] ∧ H = H') (fun b' kb => ?_) (fun σ' H' hm => ?_)
  · walk_at "go"
    exact kb _ _ ⟨rfl, rfl⟩
  obtain ⟨rfl, rfl⟩ := hm
  refine seq_of (fun σ' H' => σ' = [some (.ref p), some (.str (tx k)), some (.str (tx g)), some (.str (tx f)), some (.str (tx a)), some (.int w), some (.str (tx (RJ.spcB f a ws)))] ∧ H = H') (fun b' kb => ?_) (fun σ' H' hm => ?_)
  · rw [s_blank, s_empty]
    unfold RJ.spcB at kb
    by_cases hf : f = [32]
    · rw [if_pos hf, List.nil_append] at kb
      have t1 : (!decide (V.str (tx f) = V.str (tx [32]))) = false := by rw [tx_dec, decide_eq_true hf]; rfl
      have l1 : (tx []).length + (tx a).length ≤ sizeLine := add_le (by show 0 + a.length ≤ 1000; omega)
      rcases wc with ⟨rfl, rfl⟩ | ⟨w1, w2, w3⟩
      · have l2 : (tx [] ++ tx a).length + (tx []).length ≤ sizeLine := by rw [tx_add]; exact add_le (by show a.length + 0 ≤ 1000; omega)
        walk_at "go"
        refine kb _ _ ⟨?_, rfl⟩
        rw [tx_add, tx_add]; rfl
      · have l2 : (tx [] ++ tx a).length + (Str.ofString (toString (w : Int))).length ≤ sizeLine := by rw [tx_add, w3]; exact add_le (by show a.length + ws.length ≤ 1000; omega)
        have t2 : decide ((0 : Int) < w) = true := decide_eq_true w1
        walk_at "go"
        refine kb _ _ ⟨?_, rfl⟩
        rw [tx_add, w3, tx_add]; rfl
    · rw [if_neg hf] at kb
      have t1 : (!decide (V.str (tx f) = V.str (tx [32]))) = true := by rw [tx_dec, decide_eq_false hf]; rfl
      have l1 : (tx f).length + (tx a).length ≤ sizeLine := add_le (by omega)
      rcases wc with ⟨rfl, rfl⟩ | ⟨w1, w2, w3⟩
      · have l2 : (tx f ++ tx a).length + (tx []).length ≤ sizeLine := by rw [tx_add]; exact add_le (by rw [List.length_append]; show _ + 0 ≤ 1000; omega)
        walk_at "go"
        refine kb _ _ ⟨?_, rfl⟩
        rw [tx_add, tx_add]; rfl
      · have l2 : (tx f ++ tx a).length + (Str.ofString (toString (w : Int))).length ≤ sizeLine := by rw [tx_add, w3]; exact add_le (by rw [List.length_append]; omega)
        have t2 : decide ((0 : Int) < w) = true := decide_eq_true w1
        walk_at "go"
        refine kb _ _ ⟨?_, rfl⟩
        rw [tx_add, w3, tx_add]; rfl
  obtain ⟨rfl, rfl⟩ := hm
  have sl : (RJ.spcB f a ws).length ≤ 4 := by
    unfold RJ.spcB
    rw [List.length_append, List.length_append]
    split
    · show 0 + a.length + ws.length ≤ 4; omega
    · omega
  unfold RJ.bodyB at hQ
  generalize RJ.spcB f a ws = sp at hQ sl ⊢
  rw [s_empty, s_open, s_close, s_colon, s_bang]
  have eb : 33 :: g = [33] ++ g := rfl
  have ec : 58 :: sp = [58] ++ sp := rfl
  have lbang : (tx [33]).length + (tx g).length ≤ sizeLine := add_le (by show 1 + g.length ≤ 1000; omega)
  have lcol : (tx [58]).length + (tx sp).length ≤ sizeLine := add_le (by show 1 + sp.length ≤ 1000; omega)
  have l1 : (tx [123]).length + (tx k).length ≤ sizeLine := add_le (by show 1 + k.length ≤ 1000; omega)
  obtain ⟨g', hg, hgl⟩ : ∃ g', g' = (if g = [] then ([] : List Nat) else 33 :: g) ∧ g'.length ≤ 2 := ⟨_, rfl, by
    split
    · exact Nat.zero_le _
    · rw [List.length_cons]; omega⟩
  obtain ⟨s', hs, hsl⟩ : ∃ s', s' = (if sp = [] then ([] : List Nat) else 58 :: sp) ∧ s'.length ≤ 5 := ⟨_, rfl, by
    split
    · exact Nat.zero_le _
    · rw [List.length_cons]; omega⟩
  rw [← hg, ← hs] at hQ
  have fin : tx (([123] ++ k ++ g' ++ s') ++ [125]) = tx (123 :: (k ++ g' ++ s' ++ [125])) := by simp
  rw [← fin] at hQ
  have l2 : (tx [123] ++ tx k).length + (tx g').length ≤ sizeLine := by rw [tx_add]; exact add_le (by rw [List.length_append]; show 1 + k.length + _ ≤ 1000; omega)
  have l3 : (tx [123] ++ tx k ++ tx g').length + (tx s').length ≤ sizeLine := by rw [tx_add, tx_add]; exact add_le (by rw [List.length_append, List.length_append]; show 1 + k.length + _ + _ ≤ 1000; omega)
  have l4 : (tx [123] ++ tx k ++ tx g' ++ tx s').length + (tx [125]).length ≤ sizeLine := by rw [tx_add, tx_add, tx_add]; exact add_le (by rw [List.length_append, List.length_append, List.length_append]; show 1 + k.length + _ + _ + 1 ≤ 1000; omega)
  rw [← tx_add, ← tx_add, ← tx_add, ← tx_add] at hQ
  by_cases hg0 : g = []
  · have t1 : (!decide (V.str (tx g) = V.str (tx []))) = false := by rw [tx_dec, decide_eq_true hg0]; rfl
    rw [if_pos hg0] at hg
    subst hg
    by_cases hs0 : sp = []
    · have t2 : (!decide (V.str (tx sp) = V.str (tx []))) = false := by rw [tx_dec, decide_eq_true hs0]; rfl
      rw [if_pos hs0] at hs
      subst hs
      walk_at "go"
      exact hQ
    · have t2 : (!decide (V.str (tx sp) = V.str (tx []))) = true := by rw [tx_dec, decide_eq_false hs0]; rfl
      rw [if_neg hs0, ec] at hs
      subst hs
      rw [← tx_add [58]] at l3 l4 hQ
      walk_at "go"
      exact hQ
  · have t1 : (!decide (V.str (tx g) = V.str (tx []))) = true := by rw [tx_dec, decide_eq_false hg0]; rfl
    rw [if_neg hg0, eb] at hg
    subst hg
    rw [← tx_add [33]] at l2 l3 l4 hQ
    by_cases hs0 : sp = []
    · have t2 : (!decide (V.str (tx sp) = V.str (tx []))) = false := by rw [tx_dec, decide_eq_true hs0]; rfl
      rw [if_pos hs0] at hs
      subst hs
      walk_at "go"
      exact hQ
    · have t2 : (!decide (V.str (tx sp) = V.str (tx []))) = true := by rw [tx_dec, decide_eq_false hs0]; rfl
      rw [if_neg hs0, ec] at hs
      subst hs
      rw [← tx_add [58]] at l3 l4 hQ
      walk_at "go"
      exact hQ
end
end K17

set_option Elab.async false
set_option linter.all false
set_option maxRecDepth 100000
set_option maxHeartbeats 0

namespace K17
open PySem PySem.Spec PyProof.Rows L2 RC
section
variable {P : Program} {w : World} {K : PySem.W.Frag} {mg : Str → Option Value} {base : Heap}
/-! ### a message by pieces -/
theorem PM.app : ∀ {w : SS} {as : List SS} {o : Option SS}, PM w as o → ∀ t, o = some t → ∀ {w2 : SS} {as2 : List SS} {t2 : SS}, PM w2 as2 (some t2) → PM (w ++ w2) (as ++ as2) (some (t ++ t2)) := fun {w as o} h => by
  induction h with
  | nil => intro t e w2 as2 t2 h2; cases e; exact h2
  | left => intro t e; cases e
  | two c _ ih =>
    intro t e w2 as2 t2 h2
    obtain ⟨t0, e0, rfl⟩ := Option.map_eq_some_iff.mp e
    exact PM.two c (ih t0 e0 h2)
  | ch a b _ ih =>
    intro t e w2 as2 t2 h2
    obtain ⟨t0, e0, rfl⟩ := Option.map_eq_some_iff.mp e
    exact PM.ch a b (ih t0 e0 h2)
  | @arg r a as o _ ih =>
    intro t e w2 as2 t2 h2
    obtain ⟨t0, e0, rfl⟩ := Option.map_eq_some_iff.mp e
    have := PM.arg (a := a) (ih t0 e0 h2)
    show PM _ _ (some (a ++ t0 ++ t2))
    rw [List.append_assoc]
    exact this
  | bad => intro t e; cases e
theorem pm_arg (a : SS) : PM [123, 125] [a] (some a) := by
  have := PM.arg (a := a) PM.nil
  rw [show (some ([] : SS)).map (a ++ ·) = some a from by simp] at this
  exact this
theorem pm_dbl {c : Nat} (h : c = 123 ∨ c = 125) : PM [c, c] [] (some [c]) := PM.two h PM.nil
theorem pm_txt : ∀ {s : SS}, (∀ c ∈ s, c ≠ 123 ∧ c ≠ 125) → PM s [] (some s)
  | [], _ => PM.nil
  | c :: r, h => PM.ch (h c List.mem_cons_self).1 (h c List.mem_cons_self).2 (pm_txt fun d hd => h d (List.mem_cons_of_mem _ hd))
/-- the texts of args -/
def argT (ts : List Dt) : List SS := ts.map fun t => (RGm.strD t.py).cps.toList
theorem argT_snoc (ts : List Dt) (t : Dt) : argT (ts ++ [t]) = argT ts ++ [(RGm.strD t.py).cps.toList] := List.map_append
abbrev CB (l : List Nat) : Prop := ∀ c ∈ l, c < 16 ^ 8
theorem cb_app {a b : List Nat} (ha : CB a) (hb : CB b) : CB (a ++ b) := fun c hc => by
  rcases List.mem_append.mp hc with h | h
  · exact ha c h
  · exact hb c h
/-- what the pieces left -/
structure PcI (K : PySem.W.Frag) (H : Hp) (s l D : Addr) (k M : Nat) (i : Nat) (σ : L2.St) (H' : Hp) : Prop where
  ex : ∃ (w du : SS) (ts : List Dt) (ys : List V) (k2 : Nat) (a b c : Option V), k2 ≤ k + 1 + 101 * i ∧ w.length ≤ 4 * i ∧ du.length ≤ 1300 * i ∧ ys.length ≤ i ∧ Old s l H H' ∧ Stm H' s l k2 ∧ H' D = some (.lst ys) ∧ Row H H' 2 D ts ys ∧ PM w (argT ts) (some du) ∧ CB w ∧ CB du ∧
    σ = [some (.ref s), some (.int (M : Nat)), some (.str (tx w)), some (.ref D), some (.str (tx du)), a, b, c]
def spPieces (K : PySem.W.Frag) : Sp := fun vs H Q _ => ∃ (s l : Addr) (k M : Nat), vs = [.ref s, .int (M : Nat)] ∧ M ≤ 12 ∧ Stm H s l k ∧ k ≤ 800000 ∧ ∀ (H' : Hp) (k' : Nat) (p D : Addr) (w du : SS) (ts : List Dt) (ys : List V), k' ≤ k + 1300 → Old s l H H' → Stm H' s l k' → H D = none → H p = none → p ≠ D → H' D = some (.lst ys) → Row H H' 2 D ts ys →
  PM w (argT ts) (some du) → CB w → CB du → w.length ≤ 48 → du.length ≤ 15600 → ys.length ≤ 12 → H' p = some (.tup [.str (tx w), .ref D, .str (tx du)]) → Q (.ref p) H'
theorem ok_pieces {f : Addr} (T : Txt P w K mg) (F : Stands K "_law_pieces" "_law_pieces" s__law_pieces [] f) (c__law_draw : Callable P w K mg base 1 (He.ga K "_law_draw") ["_law_stream", "_law_many"] [] spDraw)
    (c__law_object : Callable P w K mg base 5 (He.ga K "_law_object") ["_law_stream", "_law_deep"] [] (spObj 2)) (c__law_text : Callable P w K mg base 3 (He.ga K "_law_text") ["_law_stream", "_law_signs", "_law_most"] [] spText) : RGd.CallG P w K mg base 6 f ["_law_stream", "_law_most"] (spPieces K) := by
  refine RGd.stands_callG0 F sc__law_pieces (fun vs H Q E h => ?_) (fun cdv A outer s0 H vs Q E hr gd h => ?_) (fun _ _ _ _ _ _ us hl => match us, hl with | [_, _], _ => rfl)
  · obtain ⟨s, l, k, M, rfl, _⟩ := h; rfl
  generalize e1 : spObj 2 = SO at c__law_object
  generalize e2 : spText = ST at c__law_text
  obtain ⟨s, l, k, M, rfl, hM, st, hk, hQ⟩ := h
  refine ⟨_, (pss_cons (ps_par3 (by rfl) sc__law_pieces.nd (i := 2) (j := 3) (l := 4) rfl rfl rfl (by decide) (by decide) (by decide) rfl rfl rfl (pa_cons pe_str (pa_cons (pe_lst pa_nil) (pa_cons pe_str pa_nil))) (by rfl))
      (pss_cons (ps_for PassesOwn.never rfl (pi_range1 (by rfl) T.b_range (pa_cons (pe_fn T.g__law_draw c__law_draw (hr.mono (by first | decide | exact Nat.le_refl _)) (by rfl) (pa_cons (pv 0) (pa_cons (pe_op op_add (pv 1) pe_int) pa_nil))) pa_nil)) (pg_name (i := 5) sc__law_pieces.nd rfl (by first | exact Or.inl rfl | exact Or.inr rfl)) (pss_cons (ps_set (i := 6) sc__law_pieces.nd rfl (by first | exact Or.inl rfl | exact Or.inr rfl) (pe_fn T.g__law_draw c__law_draw (hr.mono (by first | decide | exact Nat.le_refl _)) (by rfl) (pa_cons (pv 0) (pa_cons pe_int pa_nil))))
      (pss_one (ps_if (pt_cmpR op_lt (pv 6) pe_int (nomark _)) (pss_cons (ps_expr (pe_bm PySem.F.plainAttrs_list PySem.F.slot_list_append PySem.F.type_list_append mt_append (pv 3) (pa_cons (pe_fn T.g__law_object c__law_object (hr.mono (by first | decide | exact Nat.le_refl _)) (by rfl) (pa_cons (pv 0) (pa_cons pe_int pa_nil))) pa_nil)))
      (pss_one (ps_par (by rfl) sc__law_pieces.nd (i := 2) (j := 4) rfl rfl (by decide) rfl rfl (pa_cons (pe_op op_add_str (pv 2) pe_str) (pa_cons (pe_op op_add_str (pv 4) (pe_callTy (RGm.call_strN (n := 4) gd (RGm.hu24 hr)) (by rfl) T.b_str (by decide +kernel) (pa_cons (pe_ix ix_list (pv 3) (pe_un un_neg pe_int) (fun _ _ => rfl)) pa_nil))) pa_nil)) (by rfl)))) (pss_one (ps_if (pt_cmpR op_lt (pv 6) pe_int (nomark _)) (pss_one (ps_par (by rfl) sc__law_pieces.nd (i := 2) (j := 4) rfl rfl (by decide) rfl rfl (pa_cons (pe_op op_add_str (pv 2) (pe_ix ix_list (pe_lst (pa_cons pe_str (pa_cons pe_str pa_nil))) (pe_op op_sub (pv 6) pe_int) (fun _ _ => rfl))) (pa_cons (pe_op op_add_str (pv 4) (pe_ix ix_str pe_str (pe_op op_sub (pv 6) pe_int) (fun _ _ => rfl))) pa_nil)) (by rfl))) (pss_cons (ps_set (i := 7) sc__law_pieces.nd rfl (by first | exact Or.inl rfl | exact Or.inr rfl) (pe_fn T.g__law_text c__law_text (hr.mono (by first | decide | exact Nat.le_refl _)) (by rfl) (pa_cons (pv 0) (pa_cons pe_str (pa_cons pe_int pa_nil)))))
      (pss_one (ps_par (by rfl) sc__law_pieces.nd (i := 2) (j := 4) rfl rfl (by decide) rfl rfl (pa_cons (pe_op op_add_str (pv 2) (pv 7)) (pa_cons (pe_op op_add_str (pv 4) (pv 7)) pa_nil)) (by rfl))))))))))
      (pss_one (ps_ret (pe_tup (pa_cons (pv 2) (pa_cons (pv 3) (pa_cons (pv 4) pa_nil)))))))), ?_⟩
  dsimp only [cxKX]
  have tE : ("" : Str) = tx [] := rfl
  walk_at "go"
  intro D fD
  walk_at "go"
  intro H1 d o1 st1 h1 h2
  have s01 : Same H (upd H D (.lst [])) := same_new fD _
  obtain ⟨nDs, nDl⟩ := stm_new st fD
  have d1 := o1 _ _ nDs nDl upd_same
  have o01 : Old s l H H1 := (Old.of_same s01).trans o1
  obtain ⟨m, rfl⟩ := Int.eq_ofNat_of_zero_le h1
  have hm : m ≤ 12 := by omega
  clear o1 s01
  rw [tE]
  walk_at "go"
  refine for_it (n := m) walk_range (fun i σ H' => PcI K H s l D k M i σ H') ⟨[], [], [], [], k + 1, none, none, none, by omega, Nat.zero_le _, Nat.zero_le _, Nat.zero_le _, o01, st1, d1, ⟨rfl, fun j v h => by cases h⟩, PM.nil, (fun c h => by cases h), (fun c h => by cases h), rfl⟩ (fun i σ H' _ h => trivial) (fun i x σ H9 H3 hi hP hy => ?_) (fun σ H2 hP => ?_)
  · obtain ⟨rfl, rfl⟩ := hy
    obtain ⟨w, du, ts, ys, k2, a, b, c, hk2, hw, hdu, hyl, o3, st3, d3, row, hpm, hcw, hcd, rfl⟩ := hP
    have hi12 : i < 12 := by omega
    have fr3 := fr_old st st3 o3
    have hlw : (tx w).length = w.length := tx_len w
    have hld : (tx du).length = du.length := tx_len du
    walk_at "go"
    intro H4 d4 o4 st4 h41 h42
    have d4' := o4 _ _ nDs nDl d3
    obtain ⟨j, rfl⟩ := Int.eq_ofNat_of_zero_le h41
    walk_at "go"
    have o34 := o3.trans o4
    have row4 : ∀ (G : Hp), Old s l H4 G → ∀ (n : Nat) (v : V), ys[n]? = some v → HD G (ts.getD n .non) (fun b => H b = none ∧ b ≠ D) v := fun G o n v hv => ((row.2 n v hv).1.old st (fun b hb => hb.1) (o4.trans o))
    by_cases c1 : j < 2
    · refine iteT' (decide_eq_true (show ((j : Nat) : Int) < 2 by omega)) ?_
      walk_at "go"
      refine (?_ : SO [.ref s, .int ((2 : Nat) : Int)] _ _ E0)
      rw [← e1]
      have hbd : bnd 2 = 17 := rfl
      refine ⟨s, l, k2 + 1, rfl, st4, by omega, fun H5 v k3 hk3 o5 st5 ov => ?_⟩
      obtain ⟨t, ht, hdp, hmn⟩ := ov
      have fr4 := fr_old st st4 o34
      have d5 := o5 _ _ nDs nDl d4'
      have hsz : ys.length < sizeLine := by rw [sizeLine_eq]; omega
      have hD2 : HD H5 t (fun b => H b = none ∧ b ≠ D) v := ht.wide fun b hb => ⟨fr4 b hb, fun z => by rw [z, d4'] at hb; cases hb⟩
      have hD3 : HD (upd H5 D (.lst (ys ++ [v]))) t (fun b => H b = none ∧ b ≠ D) v := hD2.keep fun b u hb e => (by rw [upd_ne hb.2]; exact e)
      have htd := nd_of hD3 hdp.mono
      have hl1 := strD_le hdp hmn
      have hl2 := py_len hdp hmn
      have hshB : shB 3 = 1180 := by decide +kernel
      rw [hshB] at hl1 hl2
      have s_bb : ("{}" : Str) = tx [123, 125] := by decide +kernel
      have hA : (tx w).length + (tx [123, 125]).length ≤ sizeLine := by rw [hlw, tx_len, sizeLine_eq, List.length_cons, List.length_cons, List.length_nil]; omega
      have hB : (tx du).length + (RGm.strD t.py).length ≤ sizeLine := by rw [hld, sizeLine_eq]; omega
      have hat : atI (ys ++ [v]) (-1) = some v := atI_last _ _
      rw [s_bb]
      walk_at "go"
      refine ⟨by have := py_depth hdp; omega, py_show hmn, by rw [sizeLine_eq]; omega, ?_⟩
      walk_at "go"
      have hdt : (RGm.strD t.py) = tx (RGm.strD t.py).cps.toList := (tx_of _).symm
      have hll : (RGm.strD t.py).cps.toList.length = (RGm.strD t.py).length := Array.length_toList ..
      refine ⟨w ++ [123, 125], du ++ (RGm.strD t.py).cps.toList, ts ++ [t], ys ++ [v], k3, some (.int (0 + (i : Int))), some (.int (j : Int)), c, by omega, by rw [List.length_append, List.length_cons, List.length_cons, List.length_nil]; omega, by rw [List.length_append, hll]; omega, by rw [List.length_append, List.length_cons, List.length_nil]; omega, old_put (o34.trans o5) fD, st5.put nDs nDl, upd_same, ⟨by rw [List.length_append, List.length_append, row.1]; rfl, fun j w hw => ?_⟩, ?_, cb_app hcw (by decide), cb_app hcd (strD_okc hdp hmn), ?_⟩
      · by_cases z : j < ys.length
        · rw [List.getElem?_append_left z] at hw
          obtain ⟨_, r2, r3⟩ := row.2 j w hw
          rw [getD_left (by rw [row.1]; exact z)]
          exact ⟨(row4 H5 o5 j w hw).keep fun b u hb e => (by rw [upd_ne hb.2]; exact e), r2, r3⟩
        · rw [List.getElem?_append_right (by omega)] at hw
          have h0 : j - ys.length = 0 := by
            have := (List.getElem?_eq_some_iff.mp hw).1
            simp at this; omega
          rw [h0] at hw
          cases hw
          rw [getD_right (by rw [row.1]; omega)]
          exact ⟨hD3, hdp, hmn⟩
      · rw [argT_snoc]
        exact hpm.app _ rfl (pm_arg _)
      · rw [← tx_add, ← tx_add, ← hdt]; rfl
    · refine iteF' (decide_eq_false (show ¬ ((j : Nat) : Int) < 2 by omega)) ?_
      have hj : j = 2 ∨ j = 3 ∨ j = 4 ∨ j = 5 := by omega
      by_cases c2 : j < 4
      · have t2 : decide (((j : Nat) : Int) < 4) = true := decide_eq_true (by omega)
        have s_oo : ("{{" : Str) = tx [123, 123] := by decide +kernel
        have s_cc : ("}}" : Str) = tx [125, 125] := by decide +kernel
        obtain ⟨x, hx, hj2⟩ : ∃ x : Nat, (x = 123 ∨ x = 125) ∧ (j = 2 ∧ x = 123 ∨ j = 3 ∧ x = 125) := by
          rcases hj with h | h | h | h
          · exact ⟨123, .inl rfl, .inl ⟨h, rfl⟩⟩
          · exact ⟨125, .inr rfl, .inr ⟨h, rfl⟩⟩
          · omega
          · omega
        have hat1 : atI [V.str (tx [123, 123]), V.str (tx [125, 125])] (((j : Nat) : Int) - 2) = some (V.str (tx [x, x])) := by
          rcases hj2 with ⟨rfl, rfl⟩ | ⟨rfl, rfl⟩ <;> rfl
        have hat2 : atI ("{}" : Str).cps.toList (((j : Nat) : Int) - 2) = some x := by
          rcases hj2 with ⟨rfl, rfl⟩ | ⟨rfl, rfl⟩ <;> decide +kernel
        have hA : (tx w).length + (tx [x, x]).length ≤ sizeLine := by rw [hlw, tx_len, sizeLine_eq, List.length_cons, List.length_cons, List.length_nil]; omega
        have hB : (tx du).length + (⟨#[x]⟩ : Str).length ≤ sizeLine := by
          have : (⟨#[x]⟩ : Str).length = 1 := rfl
          rw [hld, sizeLine_eq, this]; omega
        rw [s_oo, s_cc]
        have hzb : ("{}" : Str).length ≤ sizeLine := by rw [sizeLine_eq]; decide +kernel
        walk_at "go"
        intro q fq
        walk_at "go"
        have s5 : Same H4 (upd H4 q (.lst [V.str (tx [123, 123]), V.str (tx [125, 125])])) := same_new fq _
        have e5 : tx du ++ (⟨#[x]⟩ : Str) = tx (du ++ [x]) := tx_add du [x]
        refine ⟨w ++ [x, x], du ++ [x], ts, ys, k2 + 1, some (.int (0 + (i : Int))), some (.int (j : Int)), c, by omega, by rw [List.length_append, List.length_cons, List.length_cons, List.length_nil]; omega, by rw [List.length_append, List.length_cons, List.length_nil]; omega, by omega, o34.trans (Old.of_same s5), st4.same s5, s5 _ _ d4', ⟨row.1, fun j w hw => ⟨row4 _ (Old.of_same s5) j w hw, (row.2 j w hw).2⟩⟩, ?_, cb_app hcw (by rcases hx with rfl | rfl <;> decide), cb_app hcd (by rcases hx with rfl | rfl <;> decide), ?_⟩
        · have := hpm.app _ rfl (pm_dbl hx)
          rw [List.append_nil] at this
          exact this
        · rw [← e5, ← tx_add]; rfl
      · have t2 : decide (((j : Nat) : Int) < 4) = false := decide_eq_false (by omega)
        walk_at "go"
        refine (?_ : ST [.ref s, .str "ab $!:\n.", .int 4] H4 _ E0)
        rw [← e2]
        refine ⟨s, l, k2 + 1, _, 4, rfl, st4, by omega, by decide +kernel, by decide +kernel, by omega, by omega, fun H5 r o5 st5 hr hc => ?_⟩
        have hrl : r.cps.toList.length = r.length := Array.length_toList ..
        have hr4 : r.length ≤ 4 := by omega
        have hA : (tx w).length + r.length ≤ sizeLine := by rw [hlw, sizeLine_eq]; omega
        have hB : (tx du).length + r.length ≤ sizeLine := by rw [hld, sizeLine_eq]; omega
        have e5 : tx r.cps.toList = r := tx_of r
        have d5 := o5 _ _ nDs nDl d4'
        have hcr : CB r.cps.toList := fun c h => (show ∀ c ∈ ("ab $!:\n." : Str).cps.toList, c < 16 ^ 8 from by decide +kernel) c (hc c h)
        have hnb : ∀ c ∈ r.cps.toList, c ≠ 123 ∧ c ≠ 125 := fun c h => by
          have h1 := hc c h
          have h2 : ("ab $!:\n." : Str).cps.toList = [97, 98, 32, 36, 33, 58, 10, 46] := by decide +kernel
          rw [h2] at h1
          constructor <;> intro e <;> subst e <;> revert h1 <;> decide
        walk_at "go"
        refine ⟨w ++ r.cps.toList, du ++ r.cps.toList, ts, ys, k2 + 1 + 100, some (.int (0 + (i : Int))), some (.int (j : Int)), some (.str r), by omega, by rw [List.length_append, hrl]; omega, by rw [List.length_append, hrl]; omega, by omega, o34.trans o5, st5, d5, ⟨row.1, fun j w hw => ⟨row4 _ o5 j w hw, (row.2 j w hw).2⟩⟩, ?_, cb_app hcw hcr, cb_app hcd hcr, ?_⟩
        · have := hpm.app _ rfl (pm_txt hnb)
          rw [List.append_nil] at this
          exact this
        · rw [← tx_add, ← tx_add, e5]; rfl
  · obtain ⟨w, du, ts, ys, k2, a, b, c, hk2, hw, hdu, hyl, o3, st3, d3, row, hpm, hcw, hcd, rfl⟩ := hP
    walk_at "go"
    intro p fp
    have fr2 := fr_old st st3 o3
    have nDp : p ≠ D := fun e => by rw [e, d3] at fp; cases fp
    have s2 := same_new fp (.tup [.str (tx w), .ref D, .str (tx du)])
    exact hQ _ k2 p D w du ts ys (by omega) (o3.trans (Old.of_same s2)) (st3.same s2) fD (fr2 p fp) nDp (s2 _ _ d3) ⟨row.1, fun j v hv => ⟨(row.2 j v hv).1.same s2, (row.2 j v hv).2⟩⟩ hpm hcw hcd (by omega) (by omega) (by omega) upd_same
end
end K17

set_option Elab.async false
set_option linter.all false
set_option maxRecDepth 100000
set_option maxHeartbeats 0

namespace K17
open PySem PySem.Spec PyProof.Rows L2 RC
section
variable {P : Program} {w : World} {K : PySem.W.Frag} {mg : Str → Option Value} {base : Heap}
/-! ### further values by names -/
theorem merge_rowK {α β : Type} [DecidableEq α] {f : α → Key} {g : β → V} (fi : ∀ a b, f a = f b → a = b) : ∀ (es ts : List (α × β)), mergeK (rowK f g ts) (rowK f g es) = rowK f g (es.foldl (fun a e => putL a e.1 e.2) ts)
  | [], ts => rfl
  | e :: es, ts => by
    show mergeK (putK (rowK f g ts) (f e.1) (g e.2)) (rowK f g es) = _
    rw [putK_rowK fi, merge_rowK fi es]
    rfl
theorem putL_new {α β : Type} [DecidableEq α] {ts : List (α × β)} {k : α} {v : β} (h : k ∉ ts.map (·.1)) : putL ts k v = ts ++ [(k, v)] := by
  unfold putL
  rw [if_neg]
  intro h2
  obtain ⟨e, he, h3⟩ := List.any_eq_true.mp h2
  exact h (List.mem_map.mpr ⟨e, he, of_decide_eq_true h3⟩)
theorem foldL_new {α β : Type} [DecidableEq α] : ∀ (es ts : List (α × β)), ((ts ++ es).map (·.1)).Nodup → es.foldl (fun a e => putL a e.1 e.2) ts = ts ++ es
  | [], ts, _ => by rw [List.append_nil]; rfl
  | e :: es, ts, h => by
    have h1 : e.1 ∉ ts.map (·.1) := by
      rw [List.map_append, List.nodup_append] at h
      intro z
      exact h.2.2 _ z _ (List.mem_cons_self) rfl
    show es.foldl _ (putL ts e.1 e.2) = _
    rw [putL_new h1, foldL_new es _ (by rw [List.append_assoc]; exact h), List.append_assoc]
    rfl
abbrev KN : List Str := ["user", "a", "b9", "_x", "Z"]
/-- a dict of further values stands at p, its places in P -/
structure KnV (H : Hp) (P : Addr → Prop) (p : Addr) (ks : List Str) (f : Nat → Dt) : Prop where
  hd : HD H (.dct ks f) P (.ref p)
  sub : ks.Sublist KN
  ok : ∀ i, i < ks.length → Dep 3 (f i) ∧ Men (f i)
def spKnown : Sp := fun vs H Q _ => ∃ (s l : Addr) (k : Nat), vs = [.ref s] ∧ Stm H s l k ∧ k ≤ 800000 ∧ ∀ H' p ks f k', k' ≤ k + 100 → Old s l H H' → Stm H' s l k' → H p = none → KnV H' (fun b => H b = none) p ks f → Q (.ref p) H'
abbrev XE := Str × (V × Dt)
structure XI (H H' : Hp) (s l D : Addr) (k i : Nat) (tps : List Addr) (es : List XE) (k2 : Nat) : Prop where
  hk : k2 ≤ k + i * 18
  o : Old s l H H'
  st : Stm H' s l k2
  d : H' D = some (.lst (tps.map V.ref))
  tl : tps.length = es.length
  el : (es.map (·.1)).Sublist (KN.take i)
  pr : Paired (fun (p : Addr) (e : XE) => H' p = some (.tup [.str e.1, e.2.1]) ∧ H p = none ∧ p ≠ D) tps es
  h : ∀ e ∈ es, HD H' e.2.2 (fun b => H b = none ∧ b ≠ D) e.2.1 ∧ Dep 3 e.2.2 ∧ Men e.2.2
structure XJ (H H' : Hp) (s l D p : Addr) (k i : Nat) : Prop where
  hp : H' p = some (.lst (KN.map V.str))
  ex : ∃ tps es k2, XI H H' s l D k i tps es k2
theorem ok_known {f : Addr} (T : Txt P w K mg) (F : Stands K "_law_known" "_law_known" s__law_known [] f)
    (c__law_draw : Callable P w K mg base 1 (He.ga K "_law_draw") ["_law_stream", "_law_many"] [] spDraw) (c__law_object : Callable P w K mg base 5 (He.ga K "_law_object") ["_law_stream", "_law_deep"] [] (spObj 2)) : Callable P w K mg base 6 f ["_law_stream"] [] spKnown := by
  refine F.call0 sc__law_known (fun vs H Q E h => ?_) (fun cdv A outer s0 H vs Q E hr h => ?_) (fun _ _ _ _ _ _ us hl => match us, hl with | [_], _ => rfl)
  · obtain ⟨s, l, k, rfl, _⟩ := h; rfl
  generalize e1 : spObj 2 = SO at c__law_object
  obtain ⟨s, l, k, rfl, st, hk, hQ⟩ := h
  refine ⟨_, (pss_cons (ps_set (i := 1) sc__law_known.nd rfl (by first | exact Or.inl rfl | exact Or.inr rfl) (pe_lst (pa_cons pe_str (pa_cons pe_str (pa_cons pe_str (pa_cons pe_str (pa_cons pe_str pa_nil)))))))
      (pss_one (ps_ret (pe_callTy (call_dictP rfl) (by rfl) T.b_dict (by decide +kernel) (pa_cons (pe_lc (own := [("_law_key", 2)]) (by rfl) sc__law_known.nd (pi_list (pv 1)) (blkOk_by (own := [("_law_key", 2)]) (N := nm__law_known) (sc := defScope s__law_known) (by decide +kernel)) (fun _ _ _ _ _ => (pg_name (i := 2) sc__law_known.nd rfl (by first | exact Or.inl rfl | exact Or.inr rfl))) (fun _ _ _ _ _ => (pts_one (pt_cmpR op_gt (pe_fn T.g__law_draw c__law_draw (hr.mono (by first | decide | exact Nat.le_refl _)) (by rfl) (pa_cons (pv 0) (pa_cons pe_int pa_nil))) pe_int (nomark _)))) (fun _ _ _ _ _ => (pe_tup (pa_cons (pv 2) (pa_cons (pe_fn T.g__law_object c__law_object (hr.mono (by first | decide | exact Nat.le_refl _)) (by rfl) (pa_cons (pv 0) (pa_cons pe_int pa_nil))) pa_nil))))) pa_nil))))), ?_⟩
  walk_at "in"
  walk_at "go"
  intro p fp
  walk_at "go"
  generalize hH1 : upd H p _ = H1
  have hp : H1 p = some (.lst (KN.map V.str)) := by rw [← hH1]; exact upd_same
  have s1 : Same H H1 := by rw [← hH1]; exact same_new fp _
  clear hH1
  obtain ⟨nps, npl⟩ := stm_new st fp
  have st1 := st.same s1
  intro D hD
  obtain ⟨nDs, nDl⟩ := stm_new st1 hD
  have hD0 := s1.free hD
  have npD : p ≠ D := fun z => by rw [← z, hp] at hD; cases hD
  refine lc_it (walk_list (xs := KN.map V.str)) (fun i H' => XJ H H' s l D p k i) ⟨by rw [upd_ne npD]; exact hp, [], [], k, ⟨by omega, (Old.of_same s1).trans (Old.of_same (same_new hD _)), st1.same (same_new hD _), upd_same, rfl, List.nil_sublist _, .nil, fun e h => by cases h⟩⟩ (fun _ _ _ h => SqL.of h.hp) (fun i x H9 H4 hi hP hx => ?_) (fun H4 hP => ?_)
  · obtain ⟨rfl, hx⟩ := hx
    obtain ⟨p4, tps, es, k2, X⟩ := hP
    have hi5 : i < 5 := hi
    have hk2 := X.hk
    obtain ⟨z, hz, rfl⟩ : ∃ z, KN[i]? = some z ∧ x = .str z := by
      rw [List.getElem?_map] at hx
      obtain ⟨z, h1, h2⟩ := Option.map_eq_some_iff.mp hx
      exact ⟨z, h1, h2.symm⟩
    have hel := X.el.length_le
    rw [List.length_map, List.length_take] at hel
    have hll : (tps.map V.ref).length < sizeLine := by rw [List.length_map, X.tl, sizeLine_eq]; omega
    have et : KN.take (i + 1) = KN.take i ++ [z] := take_snoc hz
    have X_st := X.st
    walk_at "go"
    intro H5 d o5 st5 h1 h2
    have p5 := o5 _ _ nps npl p4
    have d5 := o5 _ _ nDs nDl X.d
    have oH5 := X.o.trans o5
    have pr5 : ∀ (G : Hp), Old s l H4 G → Paired (fun (p : Addr) (e : XE) => G p = some (.tup [.str e.1, e.2.1]) ∧ H p = none ∧ p ≠ D) tps es := fun G oG => Paired.mapP X.pr fun a e h => by
      obtain ⟨g1, g2, g3⟩ := h
      obtain ⟨nas, nal⟩ := stm_new st g2
      exact ⟨oG _ _ nas nal g1, g2, g3⟩
    by_cases d0 : 0 < d
    · have t1 : decide (0 < d) = true := decide_eq_true d0
      walk_at "go"
      refine (?_ : SO [.ref s, .int ((2 : Nat) : Int)] _ _ E0)
      rw [← e1]
      have hbd : bnd 2 = 17 := rfl
      refine ⟨s, l, k2 + 1, rfl, st5, by omega, fun H6 v k3 hk3 o6 st6 ov => ?_⟩
      obtain ⟨t, ht, hdp, hmn⟩ := ov
      have o56 := o5.trans o6
      have d6 := o6 _ _ nDs nDl d5
      have p6 := o6 _ _ nps npl p5
      have oH6 := X.o.trans o56
      have fr5 := fr_old st st5 oH5
      have hv2 : HD H6 t (fun b => H b = none ∧ b ≠ D) v := ht.wide fun b hb => ⟨fr5 b hb, fun z => by rw [z, d5] at hb; cases hb⟩
      refine ⟨by show 2 ≤ sizeLine; decide, fun q fq => ?_⟩
      have s7 := same_new fq (.tup [.str z, v])
      have q7 := upd_same (H := H6) (a := q) (o := .tup [.str z, v])
      have nqD : q ≠ D := fun z => by rw [z, d6] at fq; cases fq
      have fr6 := fr_old st st6 oH6 q fq
      have d7 := s7 _ _ d6
      refine ⟨_, d7, hll, by rw [upd_ne npD]; exact s7 _ _ p6, tps ++ [q], es ++ [(z, v, t)], k3, ⟨by omega, old_put (oH6.trans (Old.of_same s7)) hD0, (st6.same s7).put nDs nDl, by rw [upd_same, List.map_append]; rfl, by rw [List.length_append, List.length_append, X.tl]; rfl, by rw [List.map_append, et]; exact X.el.append (List.Sublist.refl _), ?_, ?_⟩⟩
      · refine pr_snoc ⟨by rw [upd_ne nqD]; exact q7, fr6, nqD⟩ (Paired.mapP (pr5 H6 o56) fun a e h => ?_)
        obtain ⟨g1, g2, g3⟩ := h
        exact ⟨by rw [upd_ne g3]; exact s7 _ _ g1, g2, g3⟩
      · intro e he
        rcases List.mem_append.mp he with he | he
        · obtain ⟨g1, g2⟩ := X.h e he
          exact ⟨((g1.old st (fun b hb => hb.1) o56).same s7).keep fun b u hb e => (by rw [upd_ne hb.2]; exact e), g2⟩
        · rw [List.mem_singleton.mp he]
          exact ⟨(hv2.same s7).keep fun b u hb e => (by rw [upd_ne hb.2]; exact e), hdp, hmn⟩
    · have t1 : decide (0 < d) = false := decide_eq_false d0
      walk_at "go"
      exact ⟨p5, tps, es, k2 + 1, ⟨by omega, oH5, st5, d5, X.tl, by rw [et]; exact X.el.trans (List.sublist_append_left _ _), pr5 H5 o5, fun e he => ⟨(X.h e he).1.old st (fun b hb => hb.1) o5, (X.h e he).2⟩⟩⟩
  · obtain ⟨p4, tps, es, k2, X⟩ := hP
    have hk2 : k2 ≤ k + 5 * 18 := X.hk
    have hsub : (es.map (·.1)).Sublist KN := X.el
    have hnd : (es.map (·.1)).Nodup := hsub.nodup (by decide +kernel)
    have hel : es.length ≤ 5 := by
      have := hsub.length_le
      rw [List.length_map] at this
      exact this
    refine ⟨D, tps, rowK Sum.inr Prod.fst es, rfl, SqL.of X.d, ?_, fun q fq => ?_⟩
    · have : ∀ {ps : List Addr} {zs : List XE}, Paired (fun (p : Addr) (e : XE) => H4 p = some (.tup [.str e.1, e.2.1]) ∧ H p = none ∧ p ≠ D) ps zs → Paired (fun (p : Addr) (kv : Key × V) => SqT K H4 p [kV kv.1, kv.2]) ps (rowK Sum.inr Prod.fst zs) := fun {ps zs} h => by
        induction h with
        | nil => exact .nil
        | cons h t ih => exact .cons (SqT.of h.1) ih
      exact this X.pr
    have em : mergeK [] (rowK Sum.inr Prod.fst es) = rowK Sum.inr Prod.fst es := by
      have h1 : mergeK [] (rowK Sum.inr Prod.fst es) = rowK Sum.inr Prod.fst (es.foldl (fun a e => putL a e.1 e.2) []) := merge_rowK (fun _ _ z => Sum.inr.inj z) es []
      rw [h1, foldL_new es [] hnd]; rfl
    rw [em]
    have hall := X.h
    refine hQ _ q (es.map (·.1)) (fun j => ((es.map (·.2.2)).getD j .non)) k2 (by omega) (X.o.trans (Old.of_same (same_new fq _))) (X.st.same (same_new fq _)) (fr_old st X.st X.o q fq) ⟨⟨q, es.map (fun e => (e.1, e.2.1)), fun b => (H b = none ∧ b ≠ D) ∧ H4 b ≠ none, rfl, fr_old st X.st X.o q fq, fun z => z.2 fq, fun b hb => hb.1.1, ?_, ?_, hnd, by rw [List.length_map]; omega, fun j v hv => ?_⟩, hsub, fun j hj => ?_⟩
    · rw [upd_same]; unfold rowK; rw [List.map_map]; rfl
    · rw [List.map_map]; rfl
    · rw [List.getElem?_map] at hv
      obtain ⟨e0, he0, rfl⟩ := Option.map_eq_some_iff.mp hv
      dsimp only
      rw [List.getD_eq_getElem?_getD, List.getElem?_map, he0]
      exact (((hall e0 (List.mem_of_getElem? he0)).1).live).same (same_new fq _)
    · rw [List.length_map] at hj
      have he0 := List.getElem?_eq_getElem hj
      rw [List.getD_eq_getElem?_getD, List.getElem?_map, he0]
      exact (hall _ (List.mem_of_getElem? he0)).2
end
end K17

set_option Elab.async false
set_option linter.all false
set_option maxRecDepth 100000
set_option maxHeartbeats 0

namespace K17
open PySem PySem.Spec PyProof.Rows L2 RC
section
variable {P : Program} {w : World} {K : PySem.W.Frag} {mg : Str → Option Value} {base : Heap}
/-! ### a text filled up -/
def leftB (sd k : Nat) : Bool := decide (sd = 62) || (decide (sd = 94) && decide (k % 2 = 0))
def fillL (c sd : Nat) : Nat → List Nat → List Nat
  | 0, s => s
  | m + 1, s => fillL c sd m (if leftB sd (m + 1) = true then c :: s else s ++ [c])
theorem rep_snoc (c n : Nat) : List.replicate n c ++ [c] = List.replicate (n + 1) c := (List.replicate_succ' ..).symm
theorem fillL_eq (c : Nat) {sd : Nat} (h : sd = 60 ∨ sd = 62 ∨ sd = 94) : ∀ (m : Nat) (s : List Nat), fillL c sd m s = List.replicate (aheadN sd m) c ++ s ++ List.replicate (m - aheadN sd m) c
  | 0, s => by
    have : aheadN sd 0 = 0 := by have := ahead_le sd 0; omega
    rw [this]; simp [fillL]
  | m + 1, s => by
    rw [fillL, fillL_eq c h m]
    rcases h with rfl | rfl | rfl
    · have e1 : aheadN 60 m = 0 := rfl
      have e2 : aheadN 60 (m + 1) = 0 := rfl
      rw [e1, e2, if_neg (by simp [leftB])]
      show s ++ [c] ++ List.replicate m c = s ++ List.replicate (m + 1) c
      rw [List.append_assoc]; rfl
    · have e1 : aheadN 62 m = m := rfl
      have e2 : aheadN 62 (m + 1) = m + 1 := rfl
      rw [e1, e2, if_pos (by simp [leftB]), Nat.sub_self, Nat.sub_self]
      show List.replicate m c ++ (c :: s) ++ [] = List.replicate (m + 1) c ++ s ++ []
      rw [List.append_nil, List.append_nil, ← rep_snoc, List.append_assoc]; rfl
    · have e1 : aheadN 94 m = m / 2 := rfl
      have e2 : aheadN 94 (m + 1) = (m + 1) / 2 := rfl
      rw [e1, e2]
      by_cases p : (m + 1) % 2 = 0
      · rw [if_pos (by simp [leftB, p])]
        have h1 : (m + 1) / 2 = m / 2 + 1 := by omega
        have h2 : m + 1 - (m + 1) / 2 = m - m / 2 := by omega
        rw [h2, h1, ← rep_snoc]
        simp
      · rw [if_neg (by simp [leftB, p])]
        have h1 : (m + 1) / 2 = m / 2 := by omega
        have h2 : m + 1 - (m + 1) / 2 = (m - m / 2) + 1 := by omega
        rw [h2, h1, List.replicate_succ]
        simp
def spFilled : Sp := fun vs H Q _ => ∃ (s : List Nat) (c sd w : Nat), vs = [.str (tx s), .str (tx [c]), .str (tx [sd]), .int (w : Nat)] ∧ (sd = 60 ∨ sd = 62 ∨ sd = 94) ∧ s.length ≤ 300000 ∧ w ≤ 99 ∧ Q (.str (tx (padS s c sd w))) H
theorem ok_filled {f : Addr} (T : Txt P w K mg) (F : Stands K "_law_filled" "_law_filled" s__law_filled [] f) : Callable P w K mg base 1 f ["_law_shown", "_law_fill", "_law_align", "_law_width"] [] spFilled := by
  refine F.call0 sc__law_filled (fun vs H Q E h => ?_) (fun cdv A outer s H vs Q E hr h => ?_) (fun _ _ _ _ _ _ us hl => match us, hl with | [_, _, _, _], _ => rfl)
  · obtain ⟨s, c, sd, w, rfl, _⟩ := h; rfl
  obtain ⟨s0, c, sd, wd, rfl, hsd, hs, hw, hQ⟩ := h
  have hQ2 : Q (.str (tx (fillL c sd (wd - s0.length) s0))) H := by
    rw [fillL_eq c hsd]; exact hQ
  clear hQ
  refine ⟨_, (pss_cons (ps_while PassesOwn.never (pt_cmpR op_lt (pe_callB call_len_str (by rfl) T.b_len (by decide +kernel) (pa_cons (pv 0) pa_nil)) (pv 3) (nomark _)) (pss_cons (ps_set (i := 4) sc__law_filled.nd rfl (by first | exact Or.inl rfl | exact Or.inr rfl) (pe_or (pe_cmpR op_eq (pv 2) pe_str (nomark _)) (pe_one (pe_and (pe_cmpR op_eq (pv 2) pe_str (nomark _)) (pe_one (pe_cmpR op_eq (pe_op op_mod (pe_callTy call_int1 (by rfl) T.b_int (by decide +kernel) (pa_cons (pe_op op_sub (pv 3) (pe_callB call_len_str (by rfl) T.b_len (by decide +kernel) (pa_cons (pv 0) pa_nil))) pa_nil)) pe_int) pe_int (nomark _)))))))
      (pss_one (ps_set (i := 0) sc__law_filled.nd rfl (by first | exact Or.inl rfl | exact Or.inr rfl) (pe_ifExp (pt_val (pv 4)) (pe_op op_add_str (pv 1) (pv 0)) (pe_op op_add_str (pv 0) (pv 1)))))))
      (pss_one (ps_ret (pv 0)))), ?_⟩
  walk_at "in"
  refine ⟨fun m σ H' => H' = H ∧ ∃ (s : List Nat) (a : Option V), m = wd - s.length ∧ s.length ≤ 300100 ∧ fillL c sd (wd - s0.length) s0 = fillL c sd (wd - s.length) s ∧ σ = [some (.str (tx s)), some (.str (tx [c])), some (.str (tx [sd])), some (.int (wd : Nat)), a], ⟨_, rfl, s0, none, rfl, by omega, rfl, rfl⟩, fun m σ H' hP => ?_⟩
  obtain ⟨rfl, s, a, rfl, hsl, heq, rfl⟩ := hP
  have htl : (tx s).length = s.length := tx_len s
  have hcl : (tx [c]).length = 1 := tx_len _
  have hz : (tx s).length ≤ sizeLine := by rw [htl, sizeLine_eq]; omega
  rw [s_gt, s_up]
  by_cases d : s.length < wd
  · have t1 : decide (((tx s).length : Int) < (wd : Nat)) = true := decide_eq_true (by rw [htl]; omega)
    obtain ⟨m', hm'⟩ : ∃ m', wd - s.length = m' + 1 := ⟨wd - s.length - 1, by omega⟩
    have hA : (tx [c]).length + (tx s).length ≤ sizeLine := by rw [htl, hcl, sizeLine_eq]; omega
    have hA2 : (tx s).length + (tx [c]).length ≤ sizeLine := by rw [htl, hcl, sizeLine_eq]; omega
    have t2 : decide (V.str (tx [sd]) = V.str (tx [62])) = decide (sd = 62) := by rw [tx_dec]; simp
    have t3 : decide (V.str (tx [sd]) = V.str (tx [94])) = decide (sd = 94) := by rw [tx_dec]; simp
    walk_at "go"
    obtain ⟨N, hN⟩ : ∃ N : L2.St → Hp → Prop, N = fun σ' H9 => H9 = H' ∧ ∃ (s2 : List Nat) (a2 : Option V), s2 = (if leftB sd (m' + 1) = true then c :: s else s ++ [c]) ∧ σ' = [some (.str (tx s2)), some (.str (tx [c])), some (.str (tx [sd])), some (.int (wd : Nat)), a2] := ⟨_, rfl⟩
    refine ⟨N, fun σ' H9 h => ?_, ?_⟩
    · rw [hN] at h
      obtain ⟨rfl, s2, a2, e2, rfl⟩ := h
      have l2 : s2.length = s.length + 1 := by rw [e2]; split <;> simp
      refine ⟨wd - s2.length, by omega, rfl, s2, a2, rfl, by omega, ?_, rfl⟩
      rw [heq, hm', fillL, ← e2, show wd - s2.length = m' by omega]
    have hlen : ((wd : Nat) : Int) - ((tx s).length : Nat) = ((m' + 1 : Nat) : Int) := by rw [htl]; omega
    refine seq_of (fun σ' H9 => H9 = H' ∧ σ' = [some (.str (tx s)), some (.str (tx [c])), some (.str (tx [sd])), some (.int (wd : Nat)), some (.bl (leftB sd (m' + 1)))]) (fun b' kb => ?_) (fun σ' H9 hm => ?_)
    · rcases hsd with rfl | rfl | rfl
      · walk_at "go"
        exact kb _ _ ⟨rfl, rfl⟩
      · walk_at "go"
        exact kb _ _ ⟨rfl, rfl⟩
      · walk_at "go"
        refine .inl ?_
        walk_at "go"
        have eL : decide (V.int ((((wd : Nat) : Int) - ((tx s).length : Nat)) % 2) = V.int 0) = leftB 94 (m' + 1) := by
          rw [hlen]
          show _ = (false || (true && decide ((m' + 1) % 2 = 0)))
          rw [Bool.false_or, Bool.true_and]
          refine decide_eq_decide.mpr ⟨fun h => ?_, fun h => ?_⟩
          · have := V.int.inj h; omega
          · exact congrArg V.int (by omega)
        exact kb _ _ ⟨rfl, by rw [← eL]; rfl⟩
    obtain ⟨rfl, rfl⟩ := hm
    cases hb : leftB sd (m' + 1) with
    | true =>
      walk_at "go"
      rw [hN]
      exact ⟨rfl, c :: s, _, by rw [hb, if_pos rfl], by rw [← show tx [c] ++ tx s = tx (c :: s) from tx_add [c] s]; rfl⟩
    | false =>
      walk_at "go"
      rw [hN]
      exact ⟨rfl, s ++ [c], _, by rw [hb, if_neg (by decide)], by rw [← show tx s ++ tx [c] = tx (s ++ [c]) from tx_add s [c]]; rfl⟩
  · have t1 : decide (((tx s).length : Int) < (wd : Nat)) = false := decide_eq_false (by rw [htl]; omega)
    have e0 : wd - s.length = 0 := by omega
    rw [heq, e0] at hQ2
    walk_at "go"
    exact hQ2
/-! ### a value as the law writes it -/
def spLWritten (K : PySem.W.Frag) : Sp := fun vs H Q _ => ∃ (q : Addr) (v : V) (t : Dt) (R : Addr → Prop) (k g f a : List Nat) (c w : Nat), vs = [v, .ref q] ∧ H q = some (.tup [.str (tx k), .str (tx g), .str (tx f), .str (tx a), .int (w : Nat)]) ∧ f = [c] ∧ (g = [] ∨ g = [114] ∨ g = [115]) ∧ (a = [] ∨ a = [60] ∨ a = [62] ∨ a = [94]) ∧ w ≤ 99 ∧ HD H t R v ∧ Shw g t ∧ Q (.str (tx (padS (txtD g t).cps.toList c (sideN a g t) w))) H
theorem ok_lwritten {f : Addr} (T : Txt P w K mg) (F : Stands K "_law_written" "_law_written" s__law_written [] f) (c__law_filled : Callable P w K mg base 1 (He.ga K "_law_filled") ["_law_shown", "_law_fill", "_law_align", "_law_width"] [] spFilled) : RGd.CallG P w K mg base 2 f ["_law_value", "_law_field_here"] (spLWritten K) := by
  refine RGd.stands_callG0 F sc__law_written (fun vs H Q E h => ?_) (fun cdv A outer s H vs Q E hr gd h => ?_) (fun _ _ _ _ _ _ us hl => match us, hl with | [_, _], _ => rfl)
  · obtain ⟨q, v, t, R, k, g, f, a, c, w, rfl, _⟩ := h; rfl
  generalize e1 : spFilled = S1 at c__law_filled
  obtain ⟨q, v, t, R, k, g, fl, al, c, wd, rfl, hq, rfl, h1, h3, h5, hv, hsh, hQ⟩ := h
  refine ⟨_, (pss_cons (ps_asg (pv 1) (RG.pg_tupK (K := K) (n := 5) (by rfl) (pgs_cons (pg_name (i := 2) sc__law_written.nd rfl (by first | exact Or.inl rfl | exact Or.inr rfl)) (pgs_cons (pg_name (i := 3) sc__law_written.nd rfl (by first | exact Or.inl rfl | exact Or.inr rfl)) (pgs_cons (pg_name (i := 4) sc__law_written.nd rfl (by first | exact Or.inl rfl | exact Or.inr rfl)) (pgs_cons (pg_name (i := 5) sc__law_written.nd rfl (by first | exact Or.inl rfl | exact Or.inr rfl)) (pgs_cons (pg_name (i := 6) sc__law_written.nd rfl (by first | exact Or.inl rfl | exact Or.inr rfl)) pgs_nil)))))))
      (pss_cons (ps_if (pt_cmpR op_eq (pv 5) pe_str (nomark _)) (pss_cons (ps_set (i := 7) sc__law_written.nd rfl (by first | exact Or.inl rfl | exact Or.inr rfl) (pe_and (pe_callB call_isi (by rfl) T.b_isinstance (by decide +kernel) (pa_cons (pv 0) (pa_cons (pe_bltn (v := .ty "int") (u := .type "int") (by rfl) T.b_int (by decide +kernel) rfl) pa_nil))) (pe_one (pe_not (pe_callB call_isi (by rfl) T.b_isinstance (by decide +kernel) (pa_cons (pv 0) (pa_cons (pe_bltn (v := .ty "bool") (u := .type "bool") (by rfl) T.b_bool (by decide +kernel) rfl) pa_nil)))))))
      (pss_one (ps_set (i := 5) sc__law_written.nd rfl (by first | exact Or.inl rfl | exact Or.inr rfl) (pe_ifExp (PW.pt (pw_and (pt_val (pv 7)) (pw_and1 (pt_cmpR op_eq (pv 3) pe_str (nomark _))))) pe_str pe_str)))) pss_nil)
      (pss_one (ps_ret (pe_fn T.g__law_filled c__law_filled (hr.mono (by first | decide | exact Nat.le_refl _)) (by rfl) (pa_cons (pe_ifExp (pt_cmpR op_eq (pv 3) pe_str (nomark _)) (pe_callB (RGm.call_reprN (n := 4) gd (RGm.hu24 hr)) (by rfl) T.b_repr (by decide +kernel) (pa_cons (pv 0) pa_nil)) (RA.PE.or (pe_callTy (RGm.call_strN (n := 4) gd (RGm.hu24 hr)) (by rfl) T.b_str (by decide +kernel) (pa_cons (pv 0) pa_nil)) (pe_callTy SkE.call_str_str (by rfl) T.b_str (by decide +kernel) (pa_cons (pv 0) pa_nil)))) (pa_cons (pv 4) (pa_cons (pv 5) (pa_cons (pv 6) pa_nil))))))))), ?_⟩
  walk_at "in"
  refine seq_of (fun σ' H' => ∃ o7, σ' = [some v, some (.ref q), some (.str (tx k)), some (.str (tx g)), some (.str (tx [c])), some (.str (tx al)), some (.int (wd : Nat)), o7] ∧ H = H') (fun b' kb => ?_) (fun σ' H' hm => ?_)
  · walk_at "go"
    exact kb _ _ ⟨_, rfl, rfl⟩
  obtain ⟨o7, rfl, rfl⟩ := hm
  refine seq_of (fun σ' H' => ∃ o7, σ' = [some v, some (.ref q), some (.str (tx k)), some (.str (tx g)), some (.str (tx [c])), some (.str (tx [sideN al g t])), some (.int (wd : Nat)), o7] ∧ H = H') (fun b' kb => ?_) (fun σ' H' hm => ?_)
  · rw [s_empty, s_lt, s_gt]
    by_cases ca : al = []
    · have t1 : decide (V.str (tx al) = V.str (tx [])) = true := by rw [tx_dec, decide_eq_true ca]
      have t2 : decide (V.str (tx g) = V.str (tx [])) = decide (g = []) := tx_dec _ _
      have e0 : sideN al g t = if g = [] ∧ isI t = true then 62 else 60 := by rw [ca]; rfl
      have no : isI t = false → sideN al g t = 60 := fun ht => by rw [e0, if_neg fun h => by rw [ht] at h; exact nomatch h.2]
      cases t with
      | non => cases hv; rw [no rfl] at kb; walk_at "go"; exact kb _ _ ⟨_, rfl, rfl⟩
      | bl b => cases hv; rw [no rfl] at kb; walk_at "go"; exact kb _ _ ⟨_, rfl, rfl⟩
      | int i =>
        cases hv
        by_cases cg : g = []
        · have t3 : decide (V.str (tx g) = V.str (tx [])) = true := by rw [t2, decide_eq_true cg]
          rw [e0, if_pos ⟨cg, rfl⟩] at kb
          walk_at "go"
          exact kb _ _ ⟨_, rfl, rfl⟩
        · have t3 : decide (V.str (tx g) = V.str (tx [])) = false := by rw [t2, decide_eq_false cg]
          rw [e0, if_neg fun h => cg h.1] at kb
          walk_at "go"
          exact kb _ _ ⟨_, rfl, rfl⟩
      | str z => cases hv; rw [no rfl] at kb; walk_at "go"; exact kb _ _ ⟨_, rfl, rfl⟩
      | lst n' g' => obtain ⟨a, xs, P', rfl, _, _, _, ha, _⟩ := hv; rw [no rfl] at kb; walk_at "go"; exact kb _ _ ⟨_, rfl, rfl⟩
      | tup n' g' => obtain ⟨a, xs, P', rfl, _, _, _, ha, _⟩ := hv; rw [no rfl] at kb; walk_at "go"; exact kb _ _ ⟨_, rfl, rfl⟩
      | dct ks g' => obtain ⟨a, kvs, P', rfl, _, _, _, ha, _⟩ := hv; rw [no rfl] at kb; walk_at "go"; exact kb _ _ ⟨_, rfl, rfl⟩
    · have t1 : decide (V.str (tx al) = V.str (tx [])) = false := by rw [tx_dec, decide_eq_false ca]
      have e : [sideN al g t] = al := by
        rcases h3 with rfl | rfl | rfl | rfl
        · exact absurd rfl ca
        · rfl
        · rfl
        · rfl
      rw [e] at kb
      walk_at "go"
      exact kb _ _ ⟨_, rfl, rfl⟩
  obtain ⟨o7', rfl, rfl⟩ := hm
  have htl : (txtD g t).cps.toList.length ≤ 200000 := by
    have := hsh.le
    have h2 : (txtD g t).cps.toList.length = (txtD g t).length := Array.length_toList ..
    omega
  have es : txtD g t = tx (txtD g t).cps.toList := (tx_of _).symm
  rw [s_rr]
  have fin : ∀ u : Str, u = txtD g t → S1 [.str u, .str (tx [c]), .str (tx [sideN al g t]), .int (wd : Nat)] H Q E0 := fun u hu => by
    rw [← e1, hu, es]
    exact ⟨_, c, _, wd, rfl, side_is h3, by omega, h5, hQ⟩
  by_cases cc : g = [114]
  · have t1 : decide (V.str (tx g) = V.str (tx [114])) = true := by rw [tx_dec, decide_eq_true cc]
    have e : t.py.shown = txtD g t := (if_pos cc).symm
    rcases hsh with ⟨hdp, hsw, hl1, hl2⟩ | ⟨h, _⟩
    · have htd := nd_of hv hdp
      walk_at "go"
      refine ⟨by have := py_depth hdp; omega, hsw, by rw [sizeLine_eq]; omega, ?_⟩
      walk_at "go"
      exact fin _ e
    · exact absurd cc h
  · have t1 : decide (V.str (tx g) = V.str (tx [114])) = false := by rw [tx_dec, decide_eq_false cc]
    have e : RGm.strD t.py = txtD g t := (if_neg cc).symm
    rcases hsh with ⟨hdp, hsw, hl1, hl2⟩ | ⟨_, z, rfl, hzl⟩
    · have htd := nd_of hv hdp
      walk_at "go"
      refine .inl ?_
      walk_at "go"
      refine ⟨by have := py_depth hdp; omega, hsw, by rw [sizeLine_eq]; omega, ?_⟩
      walk_at "go"
      exact fin _ e
    · cases hv
      walk_at "go"
      refine .inr ?_
      walk_at "go"
      exact fin _ e
end
end K17

set_option Elab.async false
set_option linter.all false
set_option maxRecDepth 100000
set_option maxHeartbeats 0

namespace K17
open PySem PySem.Spec PyProof.Rows L2 RC
section
variable {P : Program} {w : World} {K : PySem.W.Frag} {mg : Str → Option Value} {base : Heap}
/-! ### the value that a field shows, by the law -/
def spWorth (K : PySem.W.Frag) : Sp := fun vs H Q _ => ∃ (r sp : Addr) (z : Str) (R : RD) (P Pd : Addr → Prop) (dk : List Str) (dd : Nat → Dt) (t : Dt), vs = [.ref r, .str z, .ref sp] ∧ RecD K H r R P ∧ HD H (.dct dk dd) Pd (.ref sp) ∧ (R.fld z).or (lkp (rowD dk dd) z) = some t ∧
  ∀ (H' : Hp) (q : Addr) (v : V) (Pv : Addr → Prop), Same H H' → HD H' t Pv v → H' q = some (.lst [v]) → Q (.ref q) H'
theorem lk_hd {H : Hp} {ks : List Str} {f : Nat → Dt} {P P' : Addr → Prop} {kvs : List (Str × V)} (hkl : kvs.map (·.1) = ks) (hki : ∀ i v, kvs[i]? = some v → HD H (f i) P' v.2) (q3 : ∀ b, P' b → P b) (z : Str) : (lkp kvs z = none ∧ lkp (rowD ks f) z = none) ∨ ∃ v t, lkp kvs z = some v ∧ lkp (rowD ks f) z = some t ∧ HD H t P v := by
  have prE : Paired (fun (a : Str × V) (b : Str × Dt) => a.1 = b.1 ∧ HD H b.2 P a.2) kvs (rowD ks f) := by
    have := pr_kvs (Rl := fun v t => HD H t P v) kvs f (fun i v hv => (hki i v hv).wide q3)
    rw [hkl] at this; exact this
  exact lkp_two (Rl := fun v t => HD H t P v) z prE
def wRest (R : RD) (z : Str) : Nat → Prop
  | 0 => True
  | 1 => lkp R.own z = none
  | 2 => lkp R.own z = none ∧ lkp (rowD R.ks R.fe) z = none
  | _ => False
structure WInv (R : RD) (z : Str) (H : Hp) (r sp q1 : Addr) (i : Nat) (σ : L2.St) (H' : Hp) : Prop where
  same : Same H H'
  rest : wRest R z i
  ex : ∃ a : Option V, σ = [some (.ref r), some (.str z), some (.ref sp), some (.ref q1), a]
theorem ok_worth {f : Addr} (T : Txt P w K mg) (F : Stands K "_law_worth" "_law_worth" s__law_worth [] f) : Callable P w K mg base 1 f ["_law_record", "_law_key", "_law_spare"] [] (spWorth K) := by
  refine F.call0 sc__law_worth (fun vs H Q E h => ?_) (fun cdv A outer s H vs Q E hr h => ?_) (fun _ _ _ _ _ _ us hl => match us, hl with | [_, _, _], _ => rfl)
  · obtain ⟨r, sp, z, R, P, Pd, dk, dd, t, rfl, _⟩ := h; rfl
  obtain ⟨r, sp, z, R, P, Pd, dk, dd, t, rfl, hR, hsp, ht, hQ⟩ := h
  obtain ⟨⟨dx, g, e, hrr, hg, he⟩, np⟩ := hR
  refine ⟨_, (pss_cons (ps_set (i := 3) sc__law_worth.nd rfl (by first | exact Or.inl rfl | exact Or.inr rfl) (pe_disp (pps_cons pe_str (pe_fld (pv 0) rfl) (pps_cons pe_str (pe_fld (pv 0) rfl) (pps_cons pe_str (pe_fld (pv 0) rfl) (pps_cons pe_str (pe_fld (pv 0) rfl) pps_nil)))) (by rfl) (by rfl) (fun z => by cases z) (by decide)))
      (pss_cons (ps_expr (pe_bm PySem.F.plainAttrs_dict PySem.F.slot_dict_update PySem.F.type_dict_update RF.mt_updD (pv 3) (pa_cons (pe_disp (pps_cons pe_str (pe_fld (pv 0) rfl) (pps_cons pe_str (pe_fld (pv 0) rfl) (pps_cons pe_str (pe_op op_mod (pe_callTy call_int1 (by rfl) T.b_int (by decide +kernel) (pa_cons (pe_fld (pv 0) rfl) pa_nil)) pe_int) pps_nil))) (by rfl) (by rfl) (fun z => by cases z) (by decide)) pa_nil)))
      (pss_cons (ps_for PassesOwn.never rfl (pi_tup (pe_tup (pa_cons (pv 3) (pa_cons (pe_fld (pv 0) rfl) (pa_cons (pv 2) pa_nil))))) (pg_name (i := 4) sc__law_worth.nd rfl (by first | exact Or.inl rfl | exact Or.inr rfl)) (pss_one (ps_if (pt_cmp (pc_din (hu_of hr) (pv 1) (pv 4))) (pss_one (ps_ret (pe_lst (pa_cons (pe_dget (hu_of hr) (pv 4) (pv 1) (fun _ _ => rfl)) pa_nil)))) pss_nil)))
      (pss_one (ps_ret (pe_lst pa_nil)))))), ?_⟩
  walk_at "in"
  walk_at "go"
  intro q1 fq1
  walk_at "go"
  generalize hH1 : upd (upd H q1 _) q1 _ = H1
  have s1 : Same H H1 := by rw [← hH1, upd_upd]; exact same_new fq1 _
  have hq1 : H1 q1 = some (.dK (dK [("name", .str R.nm), ("levelno", .int R.lv), ("levelname", .str R.ln), ("msg", .str R.msg)])) := by rw [← hH1]; exact upd_same
  clear hH1
  have hr2 := s1 _ _ hrr
  refine ⟨.inr (.inr (.inl ⟨rfl, .inl ⟨_, hq1⟩⟩)), ?_⟩
  walk_at "go"
  intro q2 fq2
  have n3 : q2 ≠ q1 := fun z => by rw [z, hq1] at fq2; cases fq2
  walk_at "go"
  refine .inl ⟨_, rfl, ?_⟩
  walk_at "go"
  generalize hH2 : upd (upd (upd H1 q2 _) q2 _) q1 _ = H2
  have hq3 : H2 q1 = some (.dK (rowK Sum.inr id [("name", .str R.nm), ("levelno", .int R.lv), ("levelname", .str R.ln), ("msg", .str R.msg), ("args", g), ("created", .int R.clk), ("msecs", .int (R.clk % 1000))])) := by rw [← hH2]; exact upd_same
  have s2 : Same H H2 := fun b u hb => by
    have b1 : b ≠ q1 := ne_of_none hb fq1
    have b2 : b ≠ q2 := ne_of_none (s1 _ _ hb) fq2
    rw [← hH2, upd_ne b1, upd_ne b2, upd_ne b2]; exact s1 _ _ hb
  clear hH2 s1 hq1 hr2
  obtain ⟨ea, kvs, P', rfl, q1', q2', q3', had, hkl, hnd, hkn, hki⟩ := he
  obtain ⟨sa, svs, S', esa, r1', r2', r3', hsd, hsl, hsnd, hskn, hski⟩ := hsp
  cases esa
  have hr2 := s2 _ _ hrr
  walk_at "go"
  intro pt fpt
  have s3 : Same H2 (upd H2 pt (.tup [.ref q1, .ref ea, .ref sp])) := same_new fpt _
  have hpt : (upd H2 pt (.tup [.ref q1, .ref ea, .ref sp])) pt = some (.tup [.ref q1, .ref ea, .ref sp]) := upd_same
  generalize upd H2 pt (.tup [.ref q1, .ref ea, .ref sp]) = H3 at s3 hpt ⊢
  have prO : Paired (fun (a : Str × V) (b : Str × Dt) => a.1 = b.1 ∧ HD H b.2 P a.2) [("name", .str R.nm), ("levelno", .int R.lv), ("levelname", .str R.ln), ("msg", .str R.msg), ("args", g), ("created", .int R.clk), ("msecs", .int (R.clk % 1000))] R.own :=
    .cons ⟨rfl, rfl⟩ (.cons ⟨rfl, rfl⟩ (.cons ⟨rfl, rfl⟩ (.cons ⟨rfl, rfl⟩ (.cons ⟨rfl, hg⟩ (.cons ⟨rfl, rfl⟩ (.cons ⟨rfl, rfl⟩ .nil))))))
  have lO := lkp_two (Rl := fun v t => HD H t P v) z prO
  have lE := lk_hd hkl hki q3' z
  have lS := lk_hd hsl hski r3' z
  have hq4 := s3 _ _ hq3
  have ha4 := s3 _ _ (s2 _ _ had)
  have hs4 := s3 _ _ (s2 _ _ hsd)
  have s23 := s2.trans s3
  unfold RD.fld at ht
  refine ⟨pt, rfl, ⟨_, SqT.of hpt⟩, ?_⟩
  refine for_it (walk_tup (xs := [V.ref q1, .ref ea, .ref sp])) (fun i σ H' => WInv R z H3 r sp q1 i σ H') ⟨Same.refl _, trivial, _, rfl⟩ (fun i σ H' _ h => SqT.of (h.same _ _ hpt)) (fun i x σ H0 H5 hi hP hx => ?_) (fun σ H5 hP => hP.rest.elim)
  obtain ⟨rfl, hx⟩ := hx
  obtain ⟨s5, hrest, a, rfl⟩ := hP
  have hcase : ∃ (d : Addr) (rows : List (Str × V)) (Pv : Addr → Prop), x = .ref d ∧ H3 d = some (.dK (rowK Sum.inr id rows)) ∧ (∀ v, lkp rows z = some v → HD H t Pv v) ∧ (lkp rows z = none → wRest R z (i + 1)) := by
    match i, hi, hx, hrest with
    | 0, _, hx, _ =>
      cases hx
      refine ⟨q1, _, P, rfl, hq4, fun v hv => ?_, fun hn => ?_⟩
      · rcases lO with ⟨l1, _⟩ | ⟨v', t', l1, l2, hh⟩
        · rw [l1] at hv; cases hv
        · rw [l1] at hv; cases hv
          rw [l2] at ht; cases ht
          exact hh
      · rcases lO with ⟨_, l2⟩ | ⟨v', t', l1, l2, hh⟩
        · exact l2
        · rw [l1] at hn; cases hn
    | 1, _, hx, hrest =>
      cases hx
      replace hrest : lkp R.own z = none := hrest
      rw [hrest] at ht
      refine ⟨ea, kvs, P, rfl, ha4, fun v hv => ?_, fun hn => ?_⟩
      · rcases lE with ⟨l1, _⟩ | ⟨v', t', l1, l2, hh⟩
        · rw [l1] at hv; cases hv
        · rw [l1] at hv; cases hv
          rw [l2] at ht; cases ht
          exact hh
      · rcases lE with ⟨_, l2⟩ | ⟨v', t', l1, l2, hh⟩
        · exact ⟨hrest, l2⟩
        · rw [l1] at hn; cases hn
    | 2, _, hx, hrest =>
      cases hx
      obtain ⟨h1, h2⟩ : lkp R.own z = none ∧ lkp (rowD R.ks R.fe) z = none := hrest
      rw [h1, h2] at ht
      refine ⟨sp, svs, Pd, rfl, hs4, fun v hv => ?_, fun hn => ?_⟩
      · rcases lS with ⟨l1, _⟩ | ⟨v', t', l1, l2, hh⟩
        · rw [l1] at hv; cases hv
        · rw [l1] at hv; cases hv
          rw [l2] at ht; cases ht
          exact hh
      · rcases lS with ⟨_, l2⟩ | ⟨v', t', l1, l2, hh⟩
        · rw [l2] at ht; cases ht
        · rw [l1] at hn; cases hn
  obtain ⟨d, rows, Pv, rfl, hd, hv, hn⟩ := hcase
  have hd5 := s5 _ _ hd
  have gE0 := DGet.k (k := Sum.inr z) hd5
  rw [valV_rowK (fun _ _ z => Sum.inr.inj z)] at gE0
  have evE := valV_rowK (f := (Sum.inr : Str → Key)) (g := (id : V → V)) (fun _ _ z => Sum.inr.inj z) z rows
  cases hl : lkp rows z with
  | none =>
    rw [hl] at evE
    walk_at "go"
    exact ⟨s5, hn hl, _, rfl⟩
  | some v =>
    rw [hl] at evE gE0
    walk_at "go"
    refine ⟨gE0, ?_⟩
    walk_at "go"
    intro q fq
    walk_at "go"
    exact hQ _ q v Pv ((s23.trans s5).trans (same_new fq _)) (((hv v hl).same (s23.trans s5)).same (same_new fq _)) upd_same
/-! ### a line, by the law -/
/-- a part as the law keeps it: a text, or a field's five values -/
inductive LPt (H : Hp) : Str ⊕ RO.Fd → V → Prop
  | txt (z : Str) : LPt H (.inl z) (.str z)
  | fld {q : Addr} {d : RO.Fd} : H q = some (.tup [.str (tx d.1), .str (tx d.2.1), .str (tx d.2.2.1), .str (tx d.2.2.2.1), .int (wN d.2.2.2.2)]) → LPt H (.inr d) (.ref q)
theorem LPt.same {H H' : Hp} (s : Same H H') : ∀ {p : Str ⊕ RO.Fd} {v : V}, LPt H p v → LPt H' p v
  | _, _, .txt z => .txt z
  | _, _, .fld h => .fld (s _ _ h)
structure LnAt (H : Hp) (a : Addr) (ps : List (Str ⊕ RO.Fd)) : Prop where
  ex : ∃ xs : List V, H a = some (.lst xs) ∧ Paired (LPt H) ps xs
theorem LnAt.same {H H' : Hp} (s : Same H H') {a : Addr} {ps : List (Str ⊕ RO.Fd)} (h : LnAt H a ps) : LnAt H' a ps := by
  obtain ⟨xs, h1, h2⟩ := h
  exact ⟨xs, s _ _ h1, Paired.mapP h2 fun _ _ q => q.same s⟩
def spLine (K : PySem.W.Frag) : Sp := fun vs H Q _ => ∃ (r a sp : Addr) (ps : List (Str ⊕ RO.Fd)) (ss : List (List Nat)) (R : RD) (P Pd : Addr → Prop) (dk : List Str) (dd : Nat → Dt) (o : Option SS), vs = [.ref r, .ref a, .ref sp] ∧ LnAt H a ps ∧ ps.length ≤ 60 ∧ RecD K H r R P ∧ R.Dp ∧ R.MsgO o ∧ HD H (.dct dk dd) Pd (.ref sp) ∧ Paired (PartT R o dk dd) ps ss ∧ (∀ (H' : Hp), Same H H' → Q (.str (tx ss.flatten)) H')
structure LInv (H : Hp) (r a sp : Addr) (ss : List (List Nat)) (i : Nat) (σ : L2.St) (H' : Hp) : Prop where
  same : Same H H'
  ex : ∃ (b : Option V), σ = [some (.ref r), some (.ref a), some (.ref sp), some (.str (tx (ss.take i).flatten)), b]
theorem take_flat {R : RD} {o : Option SS} {dk : List Str} {dd : Nat → Dt} {ps : List (Str ⊕ RO.Fd)} {ss : List (List Nat)} (h : Paired (PartT R o dk dd) ps ss) (i : Nat) : (ss.take i).flatten.length ≤ ss.flatten.length := by
  conv => rhs; rw [← List.take_append_drop i ss]
  rw [List.flatten_append, List.length_append]; omega
theorem ok_line {f : Addr} (T : Txt P w K mg) (F : Stands K "_law_line" "_law_line" s__law_line [] f)
    (c__law_written : RGd.CallG P w K mg base 2 (He.ga K "_law_written") ["_law_value", "_law_field_here"] (spLWritten K))
    (c__law_worth : Callable P w K mg base 1 (He.ga K "_law_worth") ["_law_record", "_law_key", "_law_spare"] [] (spWorth K))
    (c_LogRecord_message : RGn.CallNG P w K mg base 5 (He.ma K (He.ga K "LogRecord") "message") ["self"] (spMessage K)) : RGd.CallG P w K mg base 6 f ["_law_record", "_law_parts", "_law_spare"] (spLine K) := by
  refine RGd.stands_callG0 F sc__law_line (fun vs H Q E h => ?_) (fun cdv A outer s H vs Q E hr gd h => ?_) (fun _ _ _ _ _ _ us hl => match us, hl with | [_, _, _], _ => rfl)
  · obtain ⟨r, a, sp, ps, ss, R, P, Pd, dk, dd, o, rfl, _⟩ := h; rfl
  generalize e1 : spLWritten K = S1 at c__law_written
  generalize e2 : spWorth K = S2 at c__law_worth
  generalize e3 : spMessage K = S3 at c_LogRecord_message
  obtain ⟨r, a, sp, ps, ss, R, P, Pd, dk, dd, o, rfl, ⟨xs, ha, hxs⟩, hpl, hR, hD, hO, hsp, hpr, hQ⟩ := h
  have hss := Paired.length hpr
  have hxl := Paired.length hxs
  obtain ⟨⟨dx, g, e, hrr, _, _⟩, _⟩ := id hR
  have hfl := flat_len hpr
  refine ⟨_, (pss_cons (ps_set (i := 3) sc__law_line.nd rfl (by first | exact Or.inl rfl | exact Or.inr rfl) pe_str)
      (pss_cons (ps_for PassesOwn.never rfl (pi_list (pv 1)) (pg_name (i := 4) sc__law_line.nd rfl (by first | exact Or.inl rfl | exact Or.inr rfl)) (pss_one (ps_if (pt_val (pe_callB call_isi (by rfl) T.b_isinstance (by decide +kernel) (pa_cons (pv 4) (pa_cons (pe_bltn (v := .ty "str") (u := .type "str") (by rfl) T.b_str (by decide +kernel) rfl) pa_nil)))) (pss_one (ps_set (i := 3) sc__law_line.nd rfl (by first | exact Or.inl rfl | exact Or.inr rfl) (pe_op op_add_str (pv 3) (pv 4)))) (pss_one (ps_if (pt_cmpR op_eq (pe_ix ix_tup (pv 4) pe_int (fun _ _ => rfl)) pe_str (nomark _)) (pss_one (ps_set (i := 3) sc__law_line.nd rfl (by first | exact Or.inl rfl | exact Or.inr rfl) (pe_op op_add_str (pv 3) (RGd.pe_fnG gd T.g__law_written c__law_written (hr.mono (by first | decide | exact Nat.le_refl _)) (by rfl) (pa_cons (RGm.pe_mtXG0 gd takes_none5 T.c_LogRecord T.m_LogRecord_message c_LogRecord_message.toX (hr.mono (by first | decide | exact Nat.le_refl _)) (pv 0)) (pa_cons (pv 4) pa_nil)))))) (pss_one (ps_set (i := 3) sc__law_line.nd rfl (by first | exact Or.inl rfl | exact Or.inr rfl) (pe_op op_add_str (pv 3) (RGd.pe_fnG gd T.g__law_written c__law_written (hr.mono (by first | decide | exact Nat.le_refl _)) (by rfl) (pa_cons (pe_ix ix_list (pe_fn T.g__law_worth c__law_worth (hr.mono (by first | decide | exact Nat.le_refl _)) (by rfl) (pa_cons (pv 0) (pa_cons (pe_ix ix_tup (pv 4) pe_int (fun _ _ => rfl)) (pa_cons (pv 2) pa_nil)))) pe_int (fun _ _ => rfl)) (pa_cons (pv 4) pa_nil)))))))))))
      (pss_one (ps_ret (pv 3))))), ?_⟩
  walk_at "in"
  walk_at "go"
  refine for_it (walk_list (xs := xs)) (fun i σ H' => LInv H r a sp ss i σ H') ⟨Same.refl _, none, rfl⟩ (fun i σ H' _ h => SqL.of (h.same _ _ ha)) (fun i x σ H0 H1 hi hP hy => ?_) (fun σ H1 hP => ?_)
  · obtain ⟨rfl, hy⟩ := hy
    obtain ⟨s1, b, rfl⟩ := hP
    obtain ⟨part, hpart⟩ : ∃ part, ps[i]? = some part := ⟨_, List.getElem?_eq_getElem (by rw [hxl]; exact hi)⟩
    obtain ⟨s0, hs0⟩ : ∃ s0, ss[i]? = some s0 := ⟨_, List.getElem?_eq_getElem (by rw [← hss, hxl]; exact hi)⟩
    have hA := pr_get hxs hpart hy
    have hpt := pr_get hpr hpart hs0
    have h0 := part_len hpt
    have htk := take_flat hpr i
    have eT : tx (ss.take i).flatten ++ tx s0 = tx (ss.take (i + 1)).flatten := by rw [tx_add, take_snoc hs0, List.flatten_append]; simp
    have hlA : (tx (ss.take i).flatten).length + (tx s0).length ≤ sizeLine := by rw [tx_len, tx_len, sizeLine_eq]; omega
    have hrr1 := s1 _ _ hrr
    cases hA with
    | txt z0 =>
      obtain ⟨rfl, hz0⟩ := hpt
      rw [tx_of] at eT hlA
      walk_at "go"
      exact ⟨s1, _, by rw [← eT]; rfl⟩
    | @fld q d hq =>
      obtain ⟨t0, c, w0, g1, g2, g4, g5, rfl⟩ := hpt
      have hq1 := s1 _ _ hq
      obtain ⟨f1, f2, f3, f4, f5⟩ := g5
      rw [f4] at hq1
      have fin : ∀ (H2 : Hp) (v : V) (Pv : Addr → Prop) (Q2 : VK), Same H1 H2 → HD H2 t0 Pv v → Q2 (.str (tx (wrD d c w0 t0))) H2 → S1 [v, .ref q] H2 Q2 E0 := fun H2 v Pv Q2 s2 hv k => by
        rw [← e1]
        exact ⟨q, v, t0, Pv, d.1, d.2.1, d.2.2.1, d.2.2.2.1, c, w0, rfl, s2 _ _ hq1, f2, f1, f3, f5, hv, g2, k⟩
      by_cases cm : tx d.1 = "message"
      · have t1 : decide (V.str (tx d.1) = V.str (Str.ofString "message")) = true := decide_eq_true (congrArg V.str cm)
        have g3 := g1
        unfold valD at g3
        rw [if_pos cm] at g3
        obtain ⟨mt, hmt, e0⟩ := Option.map_eq_some_iff.mp g3
        subst e0
        walk_at "go"
        refine (?_ : S3 [.ref r] H1 _ _)
        rw [← e3]
        refine ⟨r, R, P, o, rfl, hR.same s1, hD, hO, fun mt2 H2 e s2 => ?_, fun e => (by rw [hmt] at e; cases e)⟩
        rw [hmt] at e
        cases e
        walk_at "go"
        refine (?_ : S1 [.str (tx mt), .ref q] H2 _ E0)
        refine fin H2 _ (fun _ => False) _ s2 rfl ?_
        refine ⟨_, _, rfl, rfl, hlA, ?_⟩
        walk_at "go"
        exact ⟨s1.trans s2, _, by rw [← eT]; rfl⟩
      · have t1 : decide (V.str (tx d.1) = V.str (Str.ofString "message")) = false := decide_eq_false fun h => cm (V.str.inj h)
        have g3 := g1
        unfold valD at g3
        rw [if_neg cm] at g3
        walk_at "go"
        refine (?_ : S2 [.ref r, .str (tx d.1), .ref sp] H1 _ E0)
        rw [← e2]
        refine ⟨r, sp, tx d.1, R, P, Pd, dk, dd, t0, rfl, hR.same s1, hsp.same s1, g3, fun H2 qv v Pv s2 hv hqv => ?_⟩
        have hq2 := s2 _ _ hq1
        walk_at "go"
        refine (?_ : S1 [v, .ref q] H2 _ E0)
        refine fin H2 v Pv _ s2 hv ?_
        refine ⟨_, _, rfl, rfl, hlA, ?_⟩
        walk_at "go"
        exact ⟨s1.trans s2, _, by rw [← eT]; rfl⟩
  · obtain ⟨s1, b, rfl⟩ := hP
    rw [List.take_of_length_le (by rw [← hss, hxl]; exact Nat.le_refl _)]
    walk_at "go"
    exact hQ _ s1
end
end K17

set_option Elab.async false
set_option linter.all false
set_option maxRecDepth 100000
set_option maxHeartbeats 0

namespace K17
open PySem PySem.Spec PyProof.Rows L2 RC
section
variable {P : Program} {w : World} {K : PySem.W.Frag} {mg : Str → Option Value} {base : Heap}
/-! ### parts, drawn and written -/
def spBracedText : Sp := fun vs H Q _ => ∃ t : List Nat, vs = [.str (tx t)] ∧ t.length ≤ 1000 ∧ Q (.str (tx (RO.escB t))) H
theorem ok_braced_text {f : Addr} (T : Txt P w K mg) (F : Stands K "_law_braced_text" "_law_braced_text" s__law_braced_text [] f) : Callable P w K mg base 1 f ["_law_shown"] [] spBracedText := by
  refine RT.call0T F sc__law_braced_text (by decide) (by decide) (fun vs H Q E h => ?_) (fun cdv A outer s0 H vs Q E hr h => ?_) (fun _ _ _ _ _ _ us hl => match us, hl with | [_], _ => rfl)
  · obtain ⟨t, rfl, _⟩ := h; rfl
  obtain ⟨t, rfl, ht, hQ⟩ := h
  refine ⟨_, (CwR.psst_one (CwR.pst_ret (CwR.pet_replT (CwR.pet_replC (pv 0))))), ?_⟩
  walk_at "in"
  have o2 : (Str.ofString "{{").length = 2 := by decide +kernel
  have c2 : (Str.ofString "}}").length = 2 := by decide +kernel
  have tl : (tx t).length = t.length := tx_len t
  have e0 : (Txt.replace (tx t) (Str.ofString "{") (Str.ofString "{{")).length ≤ t.length + (t.length + 1) * 2 := by
    have := TK.replace_len (tx t) (Str.ofString "{") (Str.ofString "{{")
    rw [o2, tl] at this
    exact this
  have eE : Txt.replace (Txt.replace (tx t) (Str.ofString "{") (Str.ofString "{{")) (Str.ofString "}") (Str.ofString "}}") = tx (RO.escB t) := RJ.rep_escB t
  rw [← eE] at hQ
  refine ⟨_, rfl, _, rfl, ?_, _, rfl, ?_, hQ⟩
  · rw [o2, tl]; omega
  · rw [c2]; omega
theorem old_tup {s l : Addr} {H H' : Hp} {n : Nat} (hs : Stm H s l n) (h : Old s l H H') : ∀ q xs, H q = some (.tup xs) → H' q = some (.tup xs) := fun q xs e => by
  obtain ⟨_, _, _, _, _, z1, z2, _⟩ := hs
  refine h _ _ (fun z => ?_) (fun z => ?_) e
  · rw [z, z1] at e; cases e
  · rw [z, z2] at e; cases e
/-- a part of a format: a text, or a field -/
abbrev Gp := List Nat ⊕ RO.Fd
def GpV (Z : List Str) (H : Hp) : Gp → V → Prop
  | .inl t, v => v = .str (tx t) ∧ t.length ≤ 5
  | .inr d, v => ∃ (q : Addr) (k g f a : List Nat) (w : Nat), v = .ref q ∧ d = (k, g, f, a, digS w) ∧ H q = some (.tup [.str (tx k), .str (tx g), .str (tx f), .str (tx a), .int (w : Nat)]) ∧ NmZ (tx k) ∧ tx k ∈ Z ∧ g ∈ RJ.signsS ∧ (f, a) ∈ RJ.faS ∧ w < 100
theorem GpV.to {Z : List Str} {H H' : Hp} (h : ∀ q xs, H q = some (.tup xs) → H' q = some (.tup xs)) : ∀ {p : Gp} {v : V}, GpV Z H p v → GpV Z H' p v
  | .inl _, _, e => e
  | .inr _, _, ⟨q, k, g, f, a, w, h1, h2, h3, h4⟩ => ⟨q, k, g, f, a, w, h1, h2, h _ _ h3, h4⟩
abbrev GpsV (Z : List Str) (H : Hp) (gs : List Gp) (xs : List V) : Prop := Paired (GpV Z H) gs xs
theorem gps_to {Z : List Str} {H H' : Hp} (h : ∀ q xs, H q = some (.tup xs) → H' q = some (.tup xs)) {gs : List Gp} {xs : List V} (p : GpsV Z H gs xs) : GpsV Z H' gs xs := Paired.mapP p fun _ _ q => q.to h
/-- how a part stands in a format in braces -/
def bpT : Gp → List Nat
  | .inl t => RO.escB t
  | .inr d => 123 :: (RJ.bodyB d.1 d.2.1 d.2.2.1 d.2.2.2.1 d.2.2.2.2 ++ [125])
def spBracedParts : Sp := fun vs H Q _ => ∃ (p : Addr) (Z : List Str) (gs : List Gp) (xs : List V), vs = [.ref p] ∧ H p = some (.lst xs) ∧ GpsV Z H gs xs ∧ gs.length ≤ 1000 ∧
  ∀ (t : Addr) (H' : Hp), Same H H' → H t = none → H' t = some (.lst (gs.map fun q => V.str (tx (bpT q)))) → Q (.ref t) H'
structure BPI (H : Hp) (D : Addr) (gs : List Gp) (i : Nat) (H' : Hp) : Prop where
  same : Same H H'
  at_ : H' D = some (.lst ((gs.take i).map fun q => V.str (tx (bpT q))))
theorem ok_braced_parts {f : Addr} (T : Txt P w K mg) (F : Stands K "_law_braced_parts" "_law_braced_parts" s__law_braced_parts [] f) (c__law_braced : Callable P w K mg base 1 (He.ga K "_law_braced") ["_law_field_here"] [] spBraced)
    (c__law_braced_text : Callable P w K mg base 1 (He.ga K "_law_braced_text") ["_law_shown"] [] spBracedText) : Callable P w K mg base 2 f ["_law_parts"] [] spBracedParts := by
  refine F.call0 sc__law_braced_parts (fun vs H Q E h => ?_) (fun cdv A outer s0 H vs Q E hr h => ?_) (fun _ _ _ _ _ _ us hl => match us, hl with | [_], _ => rfl)
  · obtain ⟨p, Z, gs, xs, rfl, _⟩ := h; rfl
  obtain ⟨p, Z, gs, xs, rfl, hp, hps, hpl, hQ⟩ := h
  have hxl := Paired.length hps
  refine ⟨_, (pss_one (ps_ret (pe_lc (own := [("_law_part", 1)]) (by rfl) sc__law_braced_parts.nd (pi_list (pv 0)) (blkOk_by (own := [("_law_part", 1)]) (N := nm__law_braced_parts) (sc := defScope s__law_braced_parts) (by decide +kernel)) (fun _ _ _ _ _ => (pg_name (i := 1) sc__law_braced_parts.nd rfl (by first | exact Or.inl rfl | exact Or.inr rfl))) (fun _ _ _ _ _ => pts_nil) (fun _ _ _ _ _ => (pe_ifExp (pt_val (pe_callB (callK (K := K) rIsi call_isi) (by rfl) T.b_isinstance (by decide +kernel) (pa_cons (pv 1) (pa_cons (pe_bltn (v := .ty "str") (u := .type "str") (by rfl) T.b_str (by decide +kernel) rfl) pa_nil)))) (pe_fn T.g__law_braced_text c__law_braced_text (hr.mono (by first | decide | exact Nat.le_refl _)) (by rfl) (pa_cons (pv 1) pa_nil)) (pe_fn T.g__law_braced c__law_braced (hr.mono (by first | decide | exact Nat.le_refl _)) (by rfl) (pa_cons (pv 1) pa_nil))))))), ?_⟩
  walk_at "in"
  walk_at "go"
  intro D hD
  refine lc_it (walk_list (xs := xs)) (fun i H' => BPI H D gs i H') ⟨same_new hD _, upd_same⟩ (fun i H' _ h => SqL.of (h.same _ _ hp)) (fun i x H3 H2 hi hP hy => ?_) (fun H2 h2 => ?_)
  · obtain ⟨rfl, hx⟩ := hy
    obtain ⟨g1, g2⟩ := hP
    obtain ⟨y, gy⟩ : ∃ y, gs[i]? = some y := ⟨_, List.getElem?_eq_getElem (by rw [hxl]; exact hi)⟩
    have hpy := pr_get hps gy hx
    have hpy2 := hpy.to fun q zs e => g1 _ _ e
    have hlen : ((gs.take i).map fun q => V.str (tx (bpT q))).length < sizeLine := by rw [List.length_map, List.length_take, sizeLine_eq]; omega
    have fin : BPI H D gs (i + 1) (upd H2 D (.lst (((gs.take i).map fun q => V.str (tx (bpT q))) ++ [V.str (tx (bpT y))]))) := by
      refine ⟨fun b o hb => ?_, ?_⟩
      · rw [upd_ne (ne_of_none hb hD)]; exact g1 _ _ hb
      · rw [upd_same, take_snoc gy, List.map_append]; rfl
    cases y with
    | inl t =>
      obtain ⟨rfl, ht⟩ := hpy2
      refine ⟨rfl, yes_if ?_⟩
      walk_at "go"
      exact fin
    | inr d =>
      obtain ⟨q, k, g, f, a, w, rfl, rfl, hq, hn, hk, hg, hfa, hw⟩ := hpy2
      have kl : k.length ≤ 9 := hn.le
      refine ⟨rfl, yes_if ?_⟩
      walk_at "go"
      exact fin
  · obtain ⟨g1, g2⟩ := h2
    rw [List.take_of_length_le (by rw [hxl]; exact Nat.le_refl _)] at g2
    exact hQ D _ g1 hD g2
def spFormatParts : Sp := fun vs H Q _ => ∃ (s l k : Addr) (n M : Nat) (Z : List Str), vs = [.ref s, .int (M : Nat), .ref k] ∧ M ≤ 8 ∧ 1 ≤ Z.length ∧ Z.length ≤ 1000 ∧ (∀ z ∈ Z, NmZ z) ∧ Stm H s l n ∧ n ≤ 800000 ∧ H k = some (.lst (Z.map V.str)) ∧ k ≠ s ∧ k ≠ l ∧
  ∀ (p : Addr) (gs : List Gp) (xs : List V) (H' : Hp), Old s l H H' → Stm H' s l (n + 3000) → H p = none → H' p = some (.lst xs) → GpsV Z H' gs xs → gs.length ≤ M → Q (.ref p) H'
structure FPI (Z : List Str) (H : Hp) (s l k p : Addr) (n M : Nat) (i : Nat) (σ : L2.St) (H' : Hp) : Prop where
  o : Old s l H H'
  st : Stm H' s l (n + 1 + 300 * i)
  ex : ∃ gs xs a, H' p = some (.lst xs) ∧ GpsV Z H' gs xs ∧ gs.length = i ∧ σ = [some (.ref s), some (.int (M : Nat)), some (.ref k), some (.ref p), a]
theorem ok_format_parts {f : Addr} (T : Txt P w K mg) (F : Stands K "_law_format_parts" "_law_format_parts" s__law_format_parts [] f) (c__law_draw : Callable P w K mg base 1 (He.ga K "_law_draw") ["_law_stream", "_law_many"] [] spDraw)
    (c__law_text : Callable P w K mg base 3 (He.ga K "_law_text") ["_law_stream", "_law_signs", "_law_most"] [] spText)
    (c__law_field : Callable P w K mg base 3 (He.ga K "_law_field") ["_law_stream", "_law_keys"] [] spLField) : Callable P w K mg base 4 f ["_law_stream", "_law_most", "_law_keys"] [] spFormatParts := by
  refine F.call0 sc__law_format_parts (fun vs H Q E h => ?_) (fun cdv A outer s0 H vs Q E hr h => ?_) (fun _ _ _ _ _ _ us hl => match us, hl with | [_, _, _], _ => rfl)
  · obtain ⟨s, l, k, n, M, Z, rfl, _⟩ := h; rfl
  generalize e1 : spLField = SF at c__law_field
  obtain ⟨s, l, k, n, M, Z, rfl, hM, hZ1, hZ2, hZ, hs, hn, hk, nks, nkl, hQ⟩ := h
  refine ⟨_, (pss_cons (ps_set (i := 3) sc__law_format_parts.nd rfl (by first | exact Or.inl rfl | exact Or.inr rfl) (pe_lst pa_nil))
      (pss_cons (ps_for PassesOwn.never rfl (pi_range1 (by rfl) T.b_range (pa_cons (pe_fn T.g__law_draw c__law_draw (hr.mono (by first | decide | exact Nat.le_refl _)) (by rfl) (pa_cons (pv 0) (pa_cons (pe_op op_add (pv 1) pe_int) pa_nil))) pa_nil)) (pg_name (i := 4) sc__law_format_parts.nd rfl (by first | exact Or.inl rfl | exact Or.inr rfl)) (pss_one (ps_if (pt_cmpR op_eq (pe_fn T.g__law_draw c__law_draw (hr.mono (by first | decide | exact Nat.le_refl _)) (by rfl) (pa_cons (pv 0) (pa_cons pe_int pa_nil))) pe_int (nomark _)) (pss_one (ps_expr (pe_bm PySem.F.plainAttrs_list PySem.F.slot_list_append PySem.F.type_list_append mt_append (pv 3) (pa_cons (pe_fn T.g__law_text c__law_text (hr.mono (by first | decide | exact Nat.le_refl _)) (by rfl) (pa_cons (pv 0) (pa_cons pe_str (pa_cons pe_int pa_nil)))) pa_nil)))) (pss_one (ps_expr (pe_bm PySem.F.plainAttrs_list PySem.F.slot_list_append PySem.F.type_list_append mt_append (pv 3) (pa_cons (pe_fn T.g__law_field c__law_field (hr.mono (by first | decide | exact Nat.le_refl _)) (by rfl) (pa_cons (pv 0) (pa_cons (pv 2) pa_nil))) pa_nil)))))))
      (pss_one (ps_ret (pv 3))))), ?_⟩
  walk_at "in"
  walk_at "go"
  intro p fp
  walk_at "go"
  intro H1 d h1 h2 h3 h4
  obtain ⟨nps, npl⟩ := stm_new hs fp
  have hp1 := h1 _ _ nps npl upd_same
  have gO : Old s l H H1 := (Old.of_same (same_new fp _)).trans h1
  obtain ⟨c, rfl⟩ := Int.eq_ofNat_of_zero_le h3
  refine ⟨(c : Int), rfl, by omega, by omega, ?_⟩
  refine for_it (n := c) walk_range (fun i σ H' => FPI Z H s l k p n M i σ H') ⟨gO, h2, [], [], _, hp1, .nil, rfl, rfl⟩ (fun _ _ _ _ _ => trivial) (fun i v σ H0 H2 hi hP hx => ?_) (fun σ H2 hP => ?_)
  · obtain ⟨rfl, rfl⟩ := hx
    obtain ⟨g1, g2, fs, xs, a, g3, g4, g5, rfl⟩ := hP
    have hxl : xs.length < sizeLine := by rw [← Paired.length g4, g5, sizeLine_eq]; omega
    walk_at "go"
    intro H3 d2 k1 k2 k3 k4
    have g3' := k1 _ _ nps npl g3
    have g4' := gps_to (old_tup g2 k1) g4
    have gO3 := g1.trans k1
    by_cases d0 : d2 = 0
    · have t1 : decide (V.int d2 = V.int 0) = true := decide_eq_true (congrArg V.int d0)
      walk_at "go"
      intro H4 r m1 m2 m3 m4
      have g5' := m1 _ _ nps npl g3'
      have er : (.str r : V) = .str (tx r.cps.toList) := by
        show V.str r = V.str ⟨r.cps.toList.toArray⟩
        rw [Array.toArray_toList]
      have hf : GpV Z H4 (.inl r.cps.toList) (.str r) := ⟨er, by rw [Array.length_toList]; exact Int.ofNat_le.mp (Int.le_trans m3 (by decide))⟩
      have g6' := pr_snoc hf (gps_to (old_tup k2 m1) g4')
      have gO4 := gO3.trans m1
      walk_at "go"
      exact ⟨old_put gO4 fp, (m2.put nps npl).mono (by omega), _, _, _, upd_same, gps_to (fun q ys e => by rw [upd_ne (fun z => by rw [z, g5'] at e; cases e)]; exact e) g6', by rw [List.length_append, g5]; rfl, rfl⟩
    · have t1 : decide (V.int d2 = V.int 0) = false := decide_eq_false fun z => d0 (V.int.inj z)
      have hk3 := gO3 _ _ nks nkl hk
      walk_at "go"
      refine (?_ : SF [.ref s, .ref k] H3 _ E0)
      rw [← e1]
      refine ⟨s, l, k, _, Z, rfl, hZ1, hZ2, k2, by omega, hk3, nks, nkl, fun q z g f a w H4 m1 m2 hz hg hfa hw hq => ?_⟩
      have hf : GpV Z H4 (.inr (z.cps.toList, g, f, a, digS w)) (.ref q) := ⟨q, z.cps.toList, g, f, a, w, rfl, rfl, by rw [tx_of]; exact hq, by rw [tx_of]; exact hZ z hz, by rw [tx_of]; exact hz, hg, hfa, hw⟩
      have g5' := m1 _ _ nps npl g3'
      have g6' := pr_snoc hf (gps_to (old_tup k2 m1) g4')
      have gO4 := gO3.trans m1
      walk_at "go"
      exact ⟨old_put gO4 fp, (m2.put nps npl).mono (by omega), _, _, _, upd_same, gps_to (fun q ys e => by rw [upd_ne (fun z => by rw [z, g5'] at e; cases e)]; exact e) g6', by rw [List.length_append, g5]; rfl, rfl⟩
  · obtain ⟨g1, g2, fs, xs, a, g3, g4, g5, rfl⟩ := hP
    walk_at "go"
    exact hQ p fs xs _ g1 (g2.mono (by omega)) fp g3 g4 (by omega)
end
end K17

set_option Elab.async false
set_option linter.all false
set_option maxRecDepth 100000
set_option maxHeartbeats 0
namespace K17
open PySem PySem.Spec PyProof.Rows L2 RC
section
variable {P : Program} {w : World} {K : PySem.W.Frag} {mg : Str → Option Value} {base : Heap}
/-! ### what the parts write, joined or not -/
def gA : Gp → Str ⊕ RO.Fd
  | .inl t => .inl (tx t)
  | .inr d => .inr d
def flatG : List Gp → List RO.Pt
  | [] => []
  | .inl t :: r => t.map Sum.inl ++ flatG r
  | .inr d :: r => .inr d :: flatG r
/-- what a part writes; val: the value of a name -/
def wrA (val : Str → Option Dt) : Str ⊕ RO.Fd → List Nat
  | .inl z => z.cps.toList
  | .inr d => match val (tx d.1) with
    | some t => wrD d (d.2.2.1.headD 32) (wN d.2.2.2.2).toNat t
    | none => []
def wrP (val : Str → Option Dt) : RO.Pt → List Nat
  | .inl c => [c]
  | .inr d => wrA val (.inr d)
def nmsB : List RO.Pt → List (List Nat)
  | [] => []
  | .inl _ :: r => nmsB r
  | .inr d :: r => d.1 :: nmsB r
theorem step_in (L : List (Str ⊕ RO.Fd)) (z : Str) (c : Nat) : stepP (L ++ [.inl z]) (.inl c) = L ++ [.inl (z ++ ⟨#[c]⟩)] := by unfold stepP; simp
theorem step_fd (L : List (Str ⊕ RO.Fd)) (d : RO.Fd) (c : Nat) : stepP (L ++ [.inr d]) (.inl c) = L ++ [.inr d] ++ [.inl ⟨#[c]⟩] := by unfold stepP; simp
theorem step_wr (val : Str → Option Dt) (acc : List (Str ⊕ RO.Fd)) (x : RO.Pt) : (stepP acc x).flatMap (wrA val) = acc.flatMap (wrA val) ++ wrP val x := by
  cases x with
  | inl c =>
    rcases snocCases acc with rfl | ⟨L, y, rfl⟩
    · rfl
    · cases y with
      | inl z =>
        rw [step_in, List.flatMap_append, List.flatMap_append, List.append_assoc]
        congr 1
        show (z ++ ⟨#[c]⟩ : Str).cps.toList ++ [] = (z.cps.toList ++ []) ++ [c]
        rw [List.append_nil, List.append_nil]
        exact TL.tl_append z ⟨#[c]⟩
      | inr d =>
        rw [step_fd, List.flatMap_append]
        rfl
  | inr d =>
    show (acc ++ [Sum.inr d]).flatMap (wrA val) = _
    rw [List.flatMap_append]
    show _ ++ (wrA val (Sum.inr d) ++ []) = _
    rw [List.append_nil]; rfl
theorem fold_wr (val : Str → Option Dt) : ∀ (ps : List RO.Pt) (acc : List (Str ⊕ RO.Fd)), (ps.foldl stepP acc).flatMap (wrA val) = acc.flatMap (wrA val) ++ ps.flatMap (wrP val)
  | [], acc => by rw [List.flatMap_nil, List.append_nil]; rfl
  | x :: ps, acc => by
    show (ps.foldl stepP (stepP acc x)).flatMap _ = _
    rw [fold_wr val ps, step_wr, List.append_assoc]; rfl
theorem join_wr (val : Str → Option Dt) (ps : List RO.Pt) : (joinP ps).flatMap (wrA val) = ps.flatMap (wrP val) := fold_wr val ps []
theorem step_nm (acc : List (Str ⊕ RO.Fd)) (x : RO.Pt) : nmsA (stepP acc x) = nmsA acc ++ nmsB [x] := by
  cases x with
  | inl c =>
    rcases snocCases acc with rfl | ⟨L, y, rfl⟩
    · rfl
    · cases y with
      | inl z => rw [step_in, nmsA_snoc, nmsA_snoc, List.append_assoc]; rfl
      | inr d => rw [step_fd, nmsA_snoc]; rfl
  | inr d => exact nmsA_snoc _ _
theorem nmsB_cons (x : RO.Pt) (r : List RO.Pt) : nmsB (x :: r) = nmsB [x] ++ nmsB r := by cases x <;> rfl
theorem fold_nm : ∀ (ps : List RO.Pt) (acc : List (Str ⊕ RO.Fd)), nmsA (ps.foldl stepP acc) = nmsA acc ++ nmsB ps
  | [], acc => by show nmsA acc = nmsA acc ++ []; rw [List.append_nil]
  | x :: ps, acc => by
    show nmsA (ps.foldl stepP (stepP acc x)) = _
    rw [fold_nm ps, step_nm, nmsB_cons x ps, List.append_assoc]
/-- texts are short, fields are among the given -/
def AllP (n : Nat) (D : RO.Fd → Prop) (acc : List (Str ⊕ RO.Fd)) : Prop := (∀ z : Str, Sum.inl z ∈ acc → z.length ≤ n) ∧ ∀ d : RO.Fd, Sum.inr d ∈ acc → D d
theorem step_all {n : Nat} {D : RO.Fd → Prop} {acc : List (Str ⊕ RO.Fd)} {x : RO.Pt} (h : AllP n D acc) (hx : ∀ d : RO.Fd, x = Sum.inr d → D d) : AllP (n + 1) D (stepP acc x) := by
  have up : AllP (n + 1) D acc := ⟨fun z hz => Nat.le_succ_of_le (h.1 z hz), h.2⟩
  have more : ∀ y : Str ⊕ RO.Fd, (∀ z, y = .inl z → z.length ≤ n + 1) → (∀ d, y = .inr d → D d) → AllP (n + 1) D (acc ++ [y]) := fun y h1 h2 => ⟨fun z hz => by
    rcases List.mem_append.mp hz with g | g
    · exact up.1 z g
    · exact h1 z (List.mem_singleton.mp g).symm, fun d hd => by
    rcases List.mem_append.mp hd with g | g
    · exact up.2 d g
    · exact h2 d (List.mem_singleton.mp g).symm⟩
  have c1 : ∀ c : Nat, (⟨#[c]⟩ : Str).length ≤ n + 1 := fun c => Nat.succ_le_succ (Nat.zero_le n)
  cases x with
  | inl c =>
    rcases snocCases acc with rfl | ⟨L, y, rfl⟩
    · exact more _ (fun z e => by cases e; exact c1 c) (fun d e => nomatch e)
    · cases y with
      | inl z =>
        rw [step_in]
        refine ⟨fun z' hz => ?_, fun d hd => ?_⟩
        · rcases List.mem_append.mp hz with g | g
          · exact up.1 z' (List.mem_append_left _ g)
          · cases List.mem_singleton.mp g
            rw [len_add]
            have := h.1 z (List.mem_append_right _ List.mem_cons_self)
            have e : (⟨#[c]⟩ : Str).length = 1 := rfl
            omega
        · rcases List.mem_append.mp hd with g | g
          · exact up.2 d (List.mem_append_left _ g)
          · cases List.mem_singleton.mp g
      | inr d => rw [step_fd]; exact more _ (fun z e => by cases e; exact c1 c) (fun d e => nomatch e)
  | inr d => exact more _ (fun z e => nomatch e) (fun d' e => by cases e; exact hx d rfl)
theorem fold_all {D : RO.Fd → Prop} : ∀ (ps : List RO.Pt) {n : Nat} {acc : List (Str ⊕ RO.Fd)}, AllP n D acc → (∀ d, Sum.inr d ∈ ps → D d) → AllP (n + ps.length) D (ps.foldl stepP acc)
  | [], _, _, h, _ => h
  | x :: ps, n, acc, h, hD => by
    have := fold_all ps (step_all (x := x) h fun d e => hD d (by rw [e]; exact List.mem_cons_self)) fun d hd => hD d (List.mem_cons_of_mem _ hd)
    rw [List.length_cons, show n + (ps.length + 1) = n + 1 + ps.length from by omega]
    exact this
theorem step_len (acc : List (Str ⊕ RO.Fd)) (x : RO.Pt) : (stepP acc x).length ≤ acc.length + 1 := by
  cases x with
  | inl c =>
    rcases snocCases acc with rfl | ⟨L, y, rfl⟩
    · exact Nat.le_refl _
    · cases y with
      | inl z => rw [step_in, List.length_append, List.length_append]; exact Nat.le_succ _
      | inr d => rw [step_fd, List.length_append]; exact Nat.le_refl _
  | inr d => show (acc ++ [_]).length ≤ _; rw [List.length_append]; exact Nat.le_refl _
theorem flat_wr (val : Str → Option Dt) : ∀ gs : List Gp, (flatG gs).flatMap (wrP val) = (gs.map gA).flatMap (wrA val)
  | [] => rfl
  | .inl t :: r => by
    show (t.map Sum.inl ++ flatG r).flatMap _ = t.toArray.toList ++ (r.map gA).flatMap _
    rw [List.flatMap_append, flat_wr val r]
    congr 1
    induction t with
    | nil => rfl
    | cons c t ih => rw [List.map_cons, List.flatMap_cons, ih]; rfl
  | .inr d :: r => by
    show wrP val (.inr d) ++ (flatG r).flatMap _ = wrA val (gA (.inr d)) ++ (r.map gA).flatMap _
    rw [flat_wr val r]; rfl
def nmsG : List Gp → List (List Nat)
  | [] => []
  | .inl _ :: r => nmsG r
  | .inr d :: r => d.1 :: nmsG r
theorem flat_nm : ∀ gs : List Gp, nmsB (flatG gs) = nmsG gs
  | [] => rfl
  | .inl t :: r => by
    show nmsB (t.map Sum.inl ++ flatG r) = nmsG r
    rw [← flat_nm r]
    induction t with
    | nil => rfl
    | cons c t ih => exact ih
  | .inr d :: r => congrArg (d.1 :: ·) (flat_nm r)
theorem flat_mem {d : RO.Fd} : ∀ {gs : List Gp}, Sum.inr d ∈ flatG gs → Sum.inr d ∈ gs
  | .inl t :: r, h => by
    rcases List.mem_append.mp (show Sum.inr d ∈ t.map Sum.inl ++ flatG r from h) with g | g
    · obtain ⟨c, _, e⟩ := List.mem_map.mp g; cases e
    · exact List.mem_cons_of_mem _ (flat_mem g)
  | .inr m :: r, h => by
    rcases List.mem_cons.mp (show Sum.inr d ∈ (Sum.inr m : RO.Pt) :: flatG r from h) with g | g
    · cases g; exact List.mem_cons_self
    · exact List.mem_cons_of_mem _ (flat_mem g)
theorem paired_of {R : RD} {o : Option SS} {dk : List Str} {dd : Nat → Dt} : ∀ {ps : List (Str ⊕ RO.Fd)}, (∀ p ∈ ps, PartT R o dk dd p (wrA (valD R o dk dd) p)) → Paired (PartT R o dk dd) ps (ps.map (wrA (valD R o dk dd)))
  | [], _ => .nil
  | p :: r, h => .cons (h p List.mem_cons_self) (paired_of fun q hq => h q (List.mem_cons_of_mem _ hq))
/-- a field that is made, of a name that has a value which can be shown -/
def FdG (R : RD) (o : Option SS) (dk : List Str) (dd : Nat → Dt) (d : RO.Fd) : Prop := (∃ t, valD R o dk dd (tx d.1) = some t ∧ Shw d.2.1 t) ∧ tx d.1 ≠ "asctime" ∧ ∃ c w, FdOk d c w
def FsOk (R : RD) (o : Option SS) (dk : List Str) (dd : Nat → Dt) (gs : List Gp) : Prop := ∀ d, Sum.inr d ∈ gs → FdG R o dk dd d
theorem fld_part {R : RD} {o : Option SS} {dk : List Str} {dd : Nat → Dt} {d : RO.Fd} (h : FdG R o dk dd d) : PartT R o dk dd (.inr d) (wrA (valD R o dk dd) (.inr d)) := by
  obtain ⟨⟨t, h1, h2⟩, h3, c, w, h5⟩ := h
  refine ⟨t, c, w, h1, h2, h3, h5, ?_⟩
  show (match valD R o dk dd (tx d.1) with | some t => wrD d (d.2.2.1.headD 32) (wN d.2.2.2.2).toNat t | none => []) = _
  rw [h1, h5.fl, h5.wd]; rfl
/-- what the law writes -/
theorem law_parts {R : RD} {o : Option SS} {dk : List Str} {dd : Nat → Dt} {gs : List Gp} (h : FsOk R o dk dd gs) (hs : ∀ t, Sum.inl t ∈ gs → t.length ≤ 5) : Paired (PartT R o dk dd) (gs.map gA) ((gs.map gA).map (wrA (valD R o dk dd))) := by
  refine paired_of fun p hp => ?_
  obtain ⟨f, hf, rfl⟩ := List.mem_map.mp hp
  cases f with
  | inl t => exact ⟨rfl, by show (tx t).length ≤ _; rw [tx_len]; have := hs t hf; omega⟩
  | inr d => exact fld_part (h d hf)
/-- what the formatter writes -/
theorem fm_parts {R : RD} {o : Option SS} {dk : List Str} {dd : Nat → Dt} {gs : List Gp} (h : FsOk R o dk dd gs) (hl : (flatG gs).length ≤ 1000) : Paired (PartT R o dk dd) (joinP (flatG gs)) ((joinP (flatG gs)).map (wrA (valD R o dk dd))) := by
  have hall := fold_all (D := fun d => Sum.inr d ∈ gs) (flatG gs) (n := 0) (acc := []) ⟨fun z h => (by cases h), fun d h => (by cases h)⟩ fun d hd => flat_mem hd
  rw [Nat.zero_add] at hall
  refine paired_of fun p hp => ?_
  cases p with
  | inl z => exact ⟨rfl, Nat.le_trans (hall.1 z hp) hl⟩
  | inr d => exact fld_part (h d (hall.2 d hp))
theorem flat_same {R : RD} {o : Option SS} {dk : List Str} {dd : Nat → Dt} (gs : List Gp) : ((joinP (flatG gs)).map (wrA (valD R o dk dd))).flatten = ((gs.map gA).map (wrA (valD R o dk dd))).flatten := by
  show (joinP (flatG gs)).flatMap _ = (gs.map gA).flatMap _
  rw [join_wr, flat_wr]
theorem flat_names (gs : List Gp) : nmsA (joinP (flatG gs)) = nmsG gs := by
  have := fold_nm (flatG gs) []
  rw [flat_nm] at this
  exact this
theorem fold_flat_len : ∀ (gs : List Gp) (acc : List (Str ⊕ RO.Fd)), ((flatG gs).foldl stepP acc).length ≤ acc.length + 2 * gs.length := fun gs => by
  induction gs with
  | nil => intro acc; exact Nat.le_refl _
  | cons f r ih =>
    intro acc
    cases f with
    | inl t =>
      have hin : ∀ (t : List Nat) (L : List (Str ⊕ RO.Fd)) (z : Str), ∃ z2, ((t.map Sum.inl).foldl stepP (L ++ [.inl z])) = L ++ [.inl z2] := fun t => by
        induction t with
        | nil => intro L z; exact ⟨z, rfl⟩
        | cons c t ih2 =>
          intro L z
          show ∃ z2, (t.map Sum.inl).foldl stepP (stepP (L ++ [.inl z]) (.inl c)) = _
          rw [step_in]
          exact ih2 L _
      have h1 : ((t.map Sum.inl).foldl stepP acc).length ≤ acc.length + 1 := by
        cases t with
        | nil => exact Nat.le_succ _
        | cons c t =>
          show ((t.map Sum.inl).foldl stepP (stepP acc (.inl c))).length ≤ _
          rcases snocCases acc with rfl | ⟨L, y, rfl⟩
          · obtain ⟨z2, e⟩ := hin t [] ⟨#[c]⟩
            rw [show stepP [] (.inl c) = [] ++ [.inl ⟨#[c]⟩] from rfl, e]
            exact Nat.le_refl _
          · cases y with
            | inl z =>
              rw [step_in]
              obtain ⟨z2, e⟩ := hin t L (z ++ ⟨#[c]⟩)
              rw [e, List.length_append, List.length_append]
              exact Nat.le_succ _
            | inr d =>
              rw [step_fd]
              obtain ⟨z2, e⟩ := hin t (L ++ [.inr d]) ⟨#[c]⟩
              rw [e, List.length_append]
              exact Nat.le_refl _
      show ((t.map Sum.inl ++ flatG r).foldl stepP acc).length ≤ _
      rw [List.foldl_append]
      have h2 := ih ((t.map Sum.inl).foldl stepP acc)
      rw [List.length_cons]
      omega
    | inr d =>
      show ((flatG r).foldl stepP (stepP acc (.inr d))).length ≤ _
      have h1 := step_len acc (.inr d)
      have h2 := ih (stepP acc (.inr d))
      rw [List.length_cons]
      omega
/-- what a list of parts holds -/
structure GsOk (Z : List Str) (gs : List Gp) : Prop where
  tl : ∀ t, Sum.inl t ∈ gs → t.length ≤ 5
  fd : ∀ d, Sum.inr d ∈ gs → ∃ (k g f a : List Nat) (w : Nat), d = (k, g, f, a, digS w) ∧ NmZ (tx k) ∧ tx k ∈ Z ∧ g ∈ RJ.signsS ∧ (f, a) ∈ RJ.faS ∧ w < 100
theorem gps_ok {Z : List Str} {H : Hp} : ∀ {gs : List Gp} {xs : List V}, GpsV Z H gs xs → GsOk Z gs
  | _, _, .nil => ⟨fun _ h => (by cases h), fun _ h => (by cases h)⟩
  | .inl t :: _, _, .cons a b => by
    have ⟨h1, h2⟩ := gps_ok b
    refine ⟨fun s hs => ?_, fun n hn => ?_⟩
    · rcases List.mem_cons.mp hs with g | g
      · cases g; exact a.2
      · exact h1 s g
    · rcases List.mem_cons.mp hn with g | g
      · cases g
      · exact h2 n g
  | .inr m :: _, _, .cons a b => by
    have ⟨h1, h2⟩ := gps_ok b
    refine ⟨fun s hs => ?_, fun n hn => ?_⟩
    · rcases List.mem_cons.mp hs with g | g
      · cases g
      · exact h1 s g
    · rcases List.mem_cons.mp hn with g | g
      · cases g
        obtain ⟨q, k, g, f, a, w, _, h2, _, h4⟩ := a
        exact ⟨k, g, f, a, w, h2, h4⟩
      · exact h2 n g
theorem GsOk.fdOk {Z : List Str} {gs : List Gp} (h : GsOk Z gs) {d : RO.Fd} (hd : Sum.inr d ∈ gs) : ∃ c w, FdOk d c w := by
  obtain ⟨k, g, f, a, w, rfl, _, _, h1, h2, h3⟩ := h.fd d hd
  obtain ⟨⟨c, hc⟩, _⟩ := fa_shape _ h2
  exact ⟨c, w, fdOk_of h1 h2 h3 hc⟩
theorem gps_ln {Z : List Str} {H : Hp} : ∀ {gs : List Gp} {xs : List V}, GpsV Z H gs xs → Paired (LPt H) (gs.map gA) xs
  | _, _, .nil => .nil
  | .inl t :: _, _, .cons a b => by
    obtain ⟨rfl, _⟩ := a
    exact .cons (.txt (tx t)) (gps_ln b)
  | .inr d :: _, _, .cons a b => by
    obtain ⟨q, k, g, f, a, w, rfl, rfl, hq, _, _, _, _, hw⟩ := a
    refine .cons (.fld (d := (k, g, f, a, digS w)) ?_) (gps_ln b)
    show H q = some (.tup [.str (tx k), .str (tx g), .str (tx f), .str (tx a), .int (wN (digS w))])
    rw [hq, dig_wN w hw]
theorem flat_len9 {Z : List Str} : ∀ {gs : List Gp}, GsOk Z gs → (flatG gs).length ≤ 5 * gs.length
  | [], _ => Nat.le_refl _
  | .inl t :: r, h => by
    have h1 := flat_len9 (gs := r) ⟨fun s hs => h.tl s (List.mem_cons_of_mem _ hs), fun d hd => h.fd d (List.mem_cons_of_mem _ hd)⟩
    have h2 := h.tl t List.mem_cons_self
    show (t.map Sum.inl ++ flatG r).length ≤ _
    rw [List.length_append, List.length_map, List.length_cons]; omega
  | .inr d :: r, h => by
    have h1 := flat_len9 (gs := r) ⟨fun s hs => h.tl s (List.mem_cons_of_mem _ hs), fun d hd => h.fd d (List.mem_cons_of_mem _ hd)⟩
    show (flatG r).length + 1 ≤ _
    rw [List.length_cons]; omega
/-- the format in braces is read as these parts -/
theorem braces_read {Z : List Str} : ∀ {gs : List Gp}, GsOk Z gs → RO.Pc (gs.map bpT).flatten (flatG gs)
  | [], _ => RO.Pc.nil
  | .inl t :: r, h => by
    rw [List.map_cons, List.flatten_cons]
    exact (RO.Pc.text t).app (braces_read (gs := r) ⟨fun s hs => h.tl s (List.mem_cons_of_mem _ hs), fun d hd => h.fd d (List.mem_cons_of_mem _ hd)⟩)
  | .inr d :: r, h => by
    rw [List.map_cons, List.flatten_cons]
    obtain ⟨k, g, f, a, w, rfl, hn, _, h1, h2, h3⟩ := h.fd d List.mem_cons_self
    exact (RO.Pc.field (field_ok hn.ok h1 h2 h3)).app (braces_read (gs := r) ⟨fun s hs => h.tl s (List.mem_cons_of_mem _ hs), fun d hd => h.fd d (List.mem_cons_of_mem _ hd)⟩)
theorem bpT_len {Z : List Str} {gs : List Gp} (h : GsOk Z gs) : ∀ p ∈ gs, (bpT p).length ≤ 30 := fun p hp => by
  cases p with
  | inl t =>
    have := RJ.escB_len t
    have h2 := h.tl t hp
    show (RO.escB t).length ≤ 30
    omega
  | inr d =>
    obtain ⟨k, g, f, a, w, rfl, hn, _, h1, h2, h3⟩ := h.fd d hp
    have kl : k.length ≤ 9 := hn.le
    have gl := signs_len g h1
    obtain ⟨fl, al⟩ := fa_len _ h2
    have wl := dig_len w h3
    replace fl : f.length ≤ 1 := fl
    replace al : a.length ≤ 1 := al
    have s1 : (RJ.spcB f a (digS w)).length ≤ 4 := by
      unfold RJ.spcB
      rw [List.length_append, List.length_append]
      split
      · show 0 + a.length + _ ≤ 4; omega
      · omega
    show (123 :: (RJ.bodyB k g f a (digS w) ++ [125])).length ≤ 30
    unfold RJ.bodyB
    simp only [List.length_cons, List.length_append, List.length_nil]
    have e1 : (if g = [] then ([] : List Nat) else 33 :: g).length ≤ 2 := by split <;> simp <;> omega
    have e2 : (if RJ.spcB f a (digS w) = [] then ([] : List Nat) else 58 :: RJ.spcB f a (digS w)).length ≤ 5 := by split <;> simp <;> omega
    omega
theorem flat_le : ∀ {ls : List (List Nat)}, (∀ l ∈ ls, l.length ≤ 30) → ls.flatten.length ≤ 30 * ls.length
  | [], _ => Nat.le_refl _
  | l :: r, h => by
    have h1 := h l List.mem_cons_self
    have h2 := flat_le (ls := r) fun x hx => h x (List.mem_cons_of_mem _ hx)
    rw [List.flatten_cons, List.length_append, List.length_cons]; omega
end
end K17

set_option Elab.async false
set_option linter.all false
set_option maxRecDepth 100000
set_option maxHeartbeats 0

namespace K17
open PySem PySem.Spec PyProof.Rows L2 RC
section
variable {P : Program} {w : World} {K : PySem.W.Frag} {mg : Str → Option Value} {base : Heap}
/-! ### the yard: its names, its numbers, its clock -/
structure YS where
  T : List (Int × Str)
  U : List (Str × Int)
  clk : Int
def yQf (S : YS) (na nu : Addr) (a : Nat → Addr) (bar : Int) : List (Str × V) := [("clock", .int S.clk), ("stream_texts", .ref (a 1)), ("file_rows", .ref (a 2)), ("names_of", .ref na), ("numbers_of", .ref nu), ("bar_level", .int bar), ("logger_map", .ref (a 3)), ("made", .ref (a 4)), ("handler_names", .ref (a 5)), ("failure_rows", .ref (a 6)), ("root", .ref (a 7)), ("last_resort", .ref (a 8))]
structure YD (K : PySem.W.Frag) (H : Hp) (y na nu : Addr) (S : YS) : Prop where
  hy : ∃ (dy : Addr) (a : Nat → Addr) (bar : Int), H y = some (.ins (CY K) dy (yQf S na nu a bar))
  gna : H na = some (.dK (txtK S.T))
  gnu : H nu = some (.dK (intK S.U))
  ne : na ≠ nu
theorem YD.same {K : PySem.W.Frag} {H H' : Hp} {y na nu : Addr} {S : YS} (d : YD K H y na nu S) (s : Same H H') : YD K H' y na nu S := by
  obtain ⟨⟨dy, a, bar, hy⟩, h1, h2, h3⟩ := d
  exact ⟨⟨dy, a, bar, s _ _ hy⟩, s _ _ h1, s _ _ h2, h3⟩
theorem YD.ny {K : PySem.W.Frag} {H : Hp} {y na nu : Addr} {S : YS} (d : YD K H y na nu S) : na ≠ y ∧ nu ≠ y := by
  obtain ⟨⟨dy, a, bar, hy⟩, gna, gnu, ne⟩ := d
  exact ⟨fun z => (by rw [z, hy] at gna; cases gna), fun z => (by rw [z, hy] at gnu; cases gnu)⟩
def YS.adv (S : YS) (d : Int) : YS := { S with clk := S.clk + d }
def spAdv (K : PySem.W.Frag) : Sp := fun vs H Q _ => ∃ (y na nu : Addr) (S : YS) (d : Int), vs = [.ref y, .int d] ∧ YD K H y na nu S ∧ ∀ H', (∀ b o, b ≠ y → H b = some o → H' b = some o) → YD K H' y na nu (S.adv d) → (∀ b, H' b = none → H b = none) → Q .non H'
theorem ok_adv {f : Addr} (T : Txt P w K mg) (F : Stands K "advance" "Yard.advance" s_Yard_advance [] f) : Callable P w K mg base 1 f ["self", "milliseconds"] [] (spAdv K) := by
  refine F.call0 sc_Yard_advance (fun vs H Q E h => ?_) (fun cdv A outer s0 H vs Q E hr h => ?_) (fun _ _ _ _ _ _ us hl => match us, hl with | [_, _], _ => rfl)
  · obtain ⟨y, na, nu, S, d, rfl, _⟩ := h; rfl
  obtain ⟨y, na, nu, S, d, rfl, yd, hQ⟩ := h
  obtain ⟨n1, n2⟩ := yd.ny
  obtain ⟨⟨dy, a, bar, hy⟩, gna, gnu, ne⟩ := yd
  refine ⟨_, (pss_one (ps_fld (pv 0) (pe_op op_add (pe_fld (pv 0) rfl) (pv 1)) rfl)), ?_⟩
  walk_at "in"
  have fin := hQ (upd H y (.ins (CY K) dy (yQf (S.adv d) na nu a bar))) (fun b o h1 e => by rw [upd_ne h1]; exact e) ⟨⟨dy, a, bar, upd_same⟩, by rw [upd_ne n1]; exact gna, by rw [upd_ne n2]; exact gnu, ne⟩ (fun b hb => (upd_none hb).2)
  walk_at "go"
  exact fin
theorem nms_txt (T : List (Int × Str)) : NmsOk (txtK T) := fun k v h => by
  unfold valV at h
  obtain ⟨e, h1, rfl⟩ := Option.map_eq_some_iff.mp h
  obtain ⟨e0, _, rfl⟩ := List.mem_map.mp (List.mem_of_find?_eq_some h1)
  exact ⟨_, rfl⟩
theorem YD.old {K : PySem.W.Frag} {H H' : Hp} {s l y na nu : Addr} {S : YS} (d : YD K H y na nu S) (o : Old s l H H') (h1 : y ≠ s) (h2 : y ≠ l) (h3 : na ≠ s) (h4 : na ≠ l) (h5 : nu ≠ s) (h6 : nu ≠ l) : YD K H' y na nu S := by
  obtain ⟨⟨dy, a, bar, hy⟩, g1, g2, ne⟩ := d
  exact ⟨⟨dy, a, bar, o _ _ h1 h2 hy⟩, o _ _ h3 h4 g1, o _ _ h5 h6 g2, ne⟩
def T0 : List (Int × Str) := [(50, "CRITICAL"), (40, "ERROR"), (30, "WARNING"), (20, "INFO"), (10, "DEBUG"), (0, "NOTSET")]
def U0 : List (Str × Int) := [("CRITICAL", 50), ("FATAL", 50), ("ERROR", 40), ("WARNING", 30), ("WARN", 30), ("INFO", 20), ("DEBUG", 10), ("NOTSET", 0)]
abbrev YC (c : Int) : YS := ⟨T0, U0, c⟩
/-! ### values that can be shown -/
theorem shw_tup {n : Nat} {f : Nat → Dt} (hn : n ≤ 12) (h : ∀ i, i < n → Dep 3 (f i) ∧ Men (f i)) : ShwL (.tup n f) := by
  have hB : shB 3 = 1180 := by decide +kernel
  have hlen : (Dt.tup n f).py.shown.length ≤ 20000 := by
    rw [Dt.py, PyData.shown, shownAll_map]
    have h1 := tups_le (((List.range n).map fun i => (f i).py).map (·.shown))
    have h2 := piled_le (b := shB 3) (((List.range n).map fun i => (f i).py).map (·.shown)) fun t ht => by
      obtain ⟨p, hp, rfl⟩ := List.mem_map.mp ht
      obtain ⟨i, hi, rfl⟩ := List.mem_map.mp hp
      exact py_len (h i (List.mem_range.mp hi)).1 (h i (List.mem_range.mp hi)).2
    rw [List.length_map, List.length_map, List.length_range, hB] at h2
    have h3 : n * (1180 + 2) ≤ 12 * (1180 + 2) := Nat.mul_le_mul_right _ hn
    omega
  refine ⟨fun i hi => (h i hi).1, ?_, by omega, ?_⟩
  · rw [Dt.py, PyData.showable, showAll_map]
    refine List.all_eq_true.mpr fun d hd => ?_
    obtain ⟨i, hi, rfl⟩ := List.mem_map.mp hd
    exact py_show (h i (List.mem_range.mp hi)).2
  · rw [Dt.py] at hlen ⊢; exact hlen
theorem shw_int {i : Int} (h : i.natAbs < 2 ^ 63) : ShwL (.int i) := shwL_of trivial h
/-- all values of a record can be shown -/
structure RD.Sh (R : RD) : Prop where
  own : ∀ z t, lkp R.own z = some t → ShwL t
  ext : ∀ i, i < R.ks.length → ShwL (R.fe i)
theorem row_at {ks : List Str} {f : Nat → Dt} {z : Str} {t : Dt} (h : lkp (rowD ks f) z = some t) : ∃ i, i < ks.length ∧ t = f i := by
  obtain ⟨i, hi⟩ := lkp_at h
  rw [rowD_get] at hi
  obtain ⟨k, hk, e⟩ := Option.map_eq_some_iff.mp hi
  cases e
  exact ⟨i, (List.getElem?_eq_some_iff.mp hk).1, rfl⟩
theorem row_in : ∀ {ks : List Str} {f : Nat → Dt} {z : Str}, z ∈ ks → ∃ t, lkp (rowD ks f) z = some t
  | k :: r, f, z, h => by
    show ∃ t, lkp ((k, f 0) :: rowD r fun i => f (i + 1)) z = some t
    rw [lk_cons]
    by_cases c : k = z
    · rw [if_pos c]; exact ⟨_, rfl⟩
    · rw [if_neg c]
      rcases List.mem_cons.mp h with g | g
      · exact absurd g.symm c
      · exact row_in g
theorem own_in_row {R : RD} {z : Str} (h : z ∈ R.own.map (·.1)) : ∃ t, lkp R.own z = some t := by
  generalize R.own = rows at h
  induction rows with
  | nil => cases h
  | cons e r ih =>
    rw [lk_cons]
    by_cases c : e.1 = z
    · rw [if_pos c]; exact ⟨_, rfl⟩
    · rw [if_neg c]
      rcases List.mem_cons.mp h with g | g
      · exact absurd g.symm c
      · exact ih g
/-- a value that can be shown, of each name that the record, its further values or the defaults have -/
theorem val_ok {R : RD} {mt : SS} {dk : List Str} {dd : Nat → Dt} (hS : R.Sh) (hd : ∀ i, i < dk.length → ShwL (dd i)) (hm : mt.length ≤ 19000) (hc : CB mt) {z : Str} (h : z = "message" ∨ z ∈ R.own.map (·.1) ∨ z ∈ R.ks ∨ z ∈ dk) : ∃ t, valD R (some mt) dk dd z = some t ∧ ShwL t := by
  unfold valD
  by_cases c : z = "message"
  · rw [if_pos c]
    exact ⟨_, rfl, shwL_str (by rw [tx_len]; exact hm) hc⟩
  · rw [if_neg c]
    unfold RD.fld
    cases h1 : lkp R.own z with
    | some t => exact ⟨t, rfl, hS.own z t h1⟩
    | none =>
      cases h2 : lkp (rowD R.ks R.fe) z with
      | some t =>
        obtain ⟨i, hi, rfl⟩ := row_at h2
        exact ⟨_, rfl, hS.ext i hi⟩
      | none =>
        have h3 : z ∈ dk := by
          rcases h with h | h | h | h
          · exact absurd h c
          · obtain ⟨t, ht⟩ := own_in_row h; rw [h1] at ht; cases ht
          · obtain ⟨t, ht⟩ := row_in (f := R.fe) h; rw [h2] at ht; cases ht
          · exact h
        obtain ⟨t, ht⟩ := row_in (f := dd) h3
        obtain ⟨i, hi, rfl⟩ := row_at ht
        exact ⟨_, ht, hd i hi⟩
end
end K17

set_option Elab.async false
set_option linter.all false
set_option maxRecDepth 100000
set_option maxHeartbeats 0

namespace K17
open PySem PySem.Spec PyProof.Rows L2 RC
section
variable {P : Program} {w : World} {K : PySem.W.Frag} {mg : Str → Option Value} {base : Heap}
/-! ### any record -/
def anyN : List Int := [0, 7, 10, 20, 30, 50, -5, 12345]
abbrev anyC : List Str := ["", "a", "a.b", "root", "x y", "{a}"]
theorem lv_len : ∀ i ∈ anyN, (lvName (txtK T0) i).length ≤ 40 ∧ OkC (lvName (txtK T0) i) := by decide +kernel
theorem any_len : ∀ z ∈ anyC, z.length ≤ 10 ∧ OkC z := by decide +kernel
theorem any_abs : ∀ i ∈ anyN, i.natAbs < 2 ^ 63 := by decide +kernel
theorem kn_own : ∀ z ∈ KN, ownB z = false := by decide +kernel
theorem kn_bad {mk : List Str} (h : mk.Sublist KN) : badK mk = [] := List.filter_eq_nil_iff.mpr fun z hz => by
  rw [kn_own z (h.subset hz)]; decide
theorem nat_arg {nm ln msg : Str} {lv clk : Int} {mk : List Str} {mf : Nat → Dt} {ts : List Dt} {n : Nat} (h : ts.length = n) : (⟨nm, ln, msg, lv, clk, n, fun i => ts.getD i .non, mk, mf⟩ : RD).args = argT ts := by
  subst h
  show (List.range ts.length).map (fun i => (RGm.strD (ts.getD i .non).py).cps.toList) = ts.map _
  refine List.ext_getElem (by simp) fun i h1 h2 => ?_
  simp at h1
  simp [List.getD_eq_getElem?_getD, List.getElem?_eq_getElem h1]
def spAny (K : PySem.W.Frag) : Sp := fun vs H Q _ => ∃ (s l y na nu mp : Addr) (k : Nat) (clk : Int) (mk : List Str) (mf : Nat → Dt) (Pm : Addr → Prop), vs = [.ref s, .ref y, .ref mp] ∧ Stm H s l k ∧ k ≤ 700000 ∧ YD K H y na nu (YC clk) ∧ clk.natAbs < 2 ^ 62 ∧ (y ≠ s ∧ y ≠ l ∧ na ≠ s ∧ na ≠ l ∧ nu ≠ s ∧ nu ≠ l) ∧ HD H (.dct mk mf) Pm (.ref mp) ∧ ¬ Pm s ∧ ¬ Pm l ∧ mk.Sublist KN ∧ (∀ i, i < mk.length → Dep 3 (mf i) ∧ Men (mf i)) ∧
  ∀ (H' : Hp) (r : Addr) (R : RD) (mt : SS) (k' : Nat), k' ≤ k + 1400 → Old s l H H' → Stm H' s l k' → H r = none → RecD K H' r R (fun b => H b = none ∧ b ≠ r) → R.Dp → R.MsgO (some mt) → mt.length ≤ 19000 → CB mt → R.ks = mk → R.Sh → Q (.ref r) H'
theorem ok_any {f : Addr} (T : Txt P w K mg) (F : Stands K "_law_any_record" "_law_any_record" s__law_any_record [] f)
    (c__law_pieces : RGd.CallG P w K mg base 6 (He.ga K "_law_pieces") ["_law_stream", "_law_most"] (spPieces K))
    (c__law_pick : Callable P w K mg base 2 (He.ga K "_law_pick") ["_law_stream", "_law_some"] [] (spPick K))
    (c_Yard_make_record : RQ.CallX P w K mg base 9 (He.ma K (He.ga K "Yard") "make_record") ["self", "name", "level", "msg", "args", "extra"] [] (spMakeD K)) : RGd.CallG P w K mg base 10 f ["_law_stream", "_law_yard", "_law_more"] (spAny K) := by
  refine RGd.stands_callG0 F sc__law_any_record (fun vs H Q E h => ?_) (fun cdv A outer s0 H vs Q E hr gd h => ?_) (fun _ _ _ _ _ _ us hl => match us, hl with | [_, _, _], _ => rfl)
  · obtain ⟨s, l, y, na, nu, mp, k, clk, mk, mf, Pm, rfl, _⟩ := h; rfl
  generalize e1 : spPieces K = S1 at c__law_pieces
  generalize e2 : spPick K = S2 at c__law_pick
  generalize e3 : spMakeD K = S3 at c_Yard_make_record
  obtain ⟨s, l, y, na, nu, mp, k, clk, mk, mf, Pm, rfl, st, hk, yd, hclk, ⟨n1, n2, n3, n4, n5, n6⟩, hmp, nPs, nPl, hmk, hmo, hQ⟩ := h
  refine ⟨_, (pss_cons (ps_asg (RGd.pe_fnG gd T.g__law_pieces c__law_pieces (hr.mono (by first | decide | exact Nat.le_refl _)) (by rfl) (pa_cons (pv 0) (pa_cons pe_int pa_nil))) (RG.pg_tupK (K := K) (n := 3) (by rfl) (pgs_cons (pg_name (i := 3) sc__law_any_record.nd rfl (by first | exact Or.inl rfl | exact Or.inr rfl)) (pgs_cons (pg_name (i := 4) sc__law_any_record.nd rfl (by first | exact Or.inl rfl | exact Or.inr rfl)) (pgs_cons (pg_name (i := 5) sc__law_any_record.nd rfl (by first | exact Or.inl rfl | exact Or.inr rfl)) pgs_nil)))))
      (pss_cons (ps_set (i := 6) sc__law_any_record.nd rfl (by first | exact Or.inl rfl | exact Or.inr rfl) (pe_fn T.g__law_pick c__law_pick (hr.mono (by first | decide | exact Nat.le_refl _)) (by rfl) (pa_cons (pv 0) (pa_cons (pe_lst (pa_cons pe_int (pa_cons pe_int (pa_cons pe_int (pa_cons pe_int (pa_cons pe_int (pa_cons pe_int (pa_cons (pe_un un_neg pe_int) (pa_cons pe_int pa_nil))))))))) pa_nil))))
      (pss_cons (ps_set (i := 7) sc__law_any_record.nd rfl (by first | exact Or.inl rfl | exact Or.inr rfl) (pe_fn T.g__law_pick c__law_pick (hr.mono (by first | decide | exact Nat.le_refl _)) (by rfl) (pa_cons (pv 0) (pa_cons (pe_lst (pa_cons pe_str (pa_cons pe_str (pa_cons pe_str (pa_cons pe_str (pa_cons pe_str (pa_cons pe_str pa_nil))))))) pa_nil))))
      (pss_one (ps_ret (RQ.pe_mtX takes_none5 T.c_Yard T.m_Yard_make_record c_Yard_make_record (hr.mono (by first | decide | exact Nat.le_refl _)) (pv 1) (pa_cons (pv 7) (pa_cons (pv 6) (pa_cons (pv 3) (pa_cons (pv 4) (pa_cons (pv 2) pa_nil))))))))))), ?_⟩
  walk_at "in"
  walk_at "go"
  refine (?_ : S1 [.ref s, .int ((5 : Nat) : Int)] H _ E0)
  rw [← e1]
  refine ⟨s, l, k, 5, rfl, by decide, st, by omega, fun H1 k1 p D w du ts ys hk1 o1 st1 fD fp nDp hD hrow hpm hcw hcd hwl hdl hyl hp => ?_⟩
  walk_at "go"
  intro q1 fq1
  obtain ⟨nq1, nq1'⟩ := stm_new st1 fq1
  have sq1 := same_new fq1 (.lst (anyN.map V.int))
  have hq1 : (upd H1 q1 (.lst (anyN.map V.int))) q1 = some (.lst (anyN.map V.int)) := upd_same
  refine (?_ : S2 [.ref s, .ref q1] (upd H1 q1 (.lst (anyN.map V.int))) _ E0)
  have st2 := st1.same sq1
  generalize upd H1 q1 (.lst (anyN.map V.int)) = H2 at sq1 hq1 st2 ⊢
  have o12 := Old.of_same (s := s) (l := l) sq1
  rw [← e2]
  refine ⟨s, l, q1, k1, _, rfl, st2, by omega, nq1, nq1', hq1, by decide, by decide, fun H3 x o3 st3 hx => ?_⟩
  obtain ⟨num, hnum, rfl⟩ := List.mem_map.mp hx
  rw [e2]
  walk_at "go"
  intro q2 fq2
  obtain ⟨nq2, nq2'⟩ := stm_new st3 fq2
  have sq2 := same_new fq2 (.lst (anyC.map V.str))
  have hq2 : (upd H3 q2 (.lst (anyC.map V.str))) q2 = some (.lst (anyC.map V.str)) := upd_same
  refine (?_ : S2 [.ref s, .ref q2] (upd H3 q2 (.lst (anyC.map V.str))) _ E0)
  have st4 := st3.same sq2
  generalize upd H3 q2 (.lst (anyC.map V.str)) = H4 at sq2 hq2 st4 ⊢
  have o14 := (o12.trans o3).trans (Old.of_same sq2)
  rw [← e2]
  refine ⟨s, l, q2, k1 + 1, _, rfl, st4, by omega, nq2, nq2', hq2, by decide, by decide, fun H5 x o5 st5 hx => ?_⟩
  obtain ⟨called, hcal, rfl⟩ := List.mem_map.mp hx
  have o15 := o14.trans o5
  have o05 := o1.trans o15
  have yd5 := yd.old o05 n1 n2 n3 n4 n5 n6
  obtain ⟨⟨dy, ya, bar, hy5⟩, gna5, gnu5, _⟩ := id yd5
  obtain ⟨nDs, nDl⟩ := stm_new st fD
  have hD5 := o15 _ _ nDs nDl hD
  have hmp5 : HD H5 (.dct mk mf) Pm (.ref mp) := hmp.keep fun b u hb e => o05 _ _ (fun z => nPs (by rw [← z]; exact hb)) (fun z => nPl (by rw [← z]; exact hb)) e
  have htl : ts.length = ys.length := hrow.1
  have hargs : HD H5 (.lst ys.length (fun i => ts.getD i .non)) (fun b => H b = none) (.ref D) := ⟨D, ys, fun b => H b = none ∧ b ≠ D, rfl, fD, fun z => z.2 rfl, fun b hb => hb.1, hD5, rfl, by omega, fun i v hv => (hrow.2 i v hv).1.old st (fun b hb => hb.1) o15⟩
  have hok : ∀ i, i < ys.length → Dep 3 (ts.getD i .non) ∧ Men (ts.getD i .non) := fun i hi => (hrow.2 i _ (List.getElem?_eq_getElem hi)).2
  have hnabs := any_abs num hnum
  walk_at "go"
  refine (?_ : S3 [.ref y, .str called, .int num, .str (tx w), .ref D, .ref mp] H5 _ _)
  rw [← e3]
  refine ⟨y, dy, na, nu, _, _, U0, called, tx w, .int num, .ref D, .ref mp, clk, ys.length, fun i => ts.getD i .non, mk, mf, (fun b => H b = none), Pm, rfl, hy5, rfl, rfl, rfl, rfl, rfl, gna5, gnu5, nms_txt _, .int num, (fun i hi => by cases hi; exact hnabs), .inl hargs, (fun i hi => (hok i hi).1), .inr hmp5, (fun i hi => (hmo i hi).1), fun i hi _ H6 r dx g e s6 fr hr hg he => ?_, (fun i hi z zs hp => ?_), (fun z => nomatch z)⟩
  · cases hi
    have fr0 : H r = none := fr_old st st5 o05 r fr
    have fr5 := fr_old st st5 o05
    have hargs2 := nat_arg (nm := called) (ln := lvName (txtK T0) num) (msg := tx w) (lv := num) (clk := clk) (mk := mk) (mf := mf) htl
    have hwl2 : (tx w).length = w.length := tx_len w
    refine hQ H6 r ⟨called, lvName (txtK T0) num, tx w, num, clk, ys.length, fun i => ts.getD i .non, mk, mf⟩ (if ys.length = 0 then w else du) (k1 + 1 + 1) (by omega) (o05.trans (Old.of_same s6)) (st5.same s6) fr0 ⟨⟨dx, g, e, hr, hg.wide fun b hb => ⟨fr5 b hb.1, hb.2⟩, he.wide fun b hb => ⟨fr5 b hb.1, hb.2⟩⟩, fun z => z.2 rfl⟩ ⟨fun i hi => (hok i hi).1, fun i hi => (hmo i hi).1, fun i hi => (hok i hi).2, by show ys.length ≤ 100; omega, by show (tx w).length ≤ 2000; omega⟩ ?_ ?_ ?_ rfl ⟨fun z t ht => ?_, fun i hi => shwL_of (hmo i hi).1.mono (hmo i hi).2⟩
    · by_cases c : ys.length = 0
      · exact .inl ⟨c, by rw [if_pos c]⟩
      · refine .inr ⟨c, ?_⟩
        rw [if_neg c, hargs2]
        exact hpm
    · split <;> omega
    · split
      · exact hcw
      · exact hcd
    · have hm := mem_lk ht
      simp only [RD.own, List.mem_cons, List.not_mem_nil, or_false, Prod.mk.injEq] at hm
      obtain ⟨hl1, hlc⟩ := lv_len num hnum
      obtain ⟨hl2, hlc2⟩ := any_len called hcal
      have hcw2 : OkC (tx w) := hcw
      rcases hm with ⟨_, rfl⟩ | ⟨_, rfl⟩ | ⟨_, rfl⟩ | ⟨_, rfl⟩ | ⟨_, rfl⟩ | ⟨_, rfl⟩ | ⟨_, rfl⟩
      · exact shwL_str (by omega) hlc2
      · exact shw_int hnabs
      · exact shwL_str (by omega) hlc
      · exact shwL_str (by omega) hcw2
      · exact shw_tup (by omega) hok
      · exact shw_int (by omega)
      · exact shw_int (by omega)
  · rw [kn_bad hmk] at hp
    exact absurd hp.length_eq (by simp)
end
end K17

set_option Elab.async false
set_option linter.all false
set_option maxRecDepth 100000
set_option maxHeartbeats 0

namespace K17
open PySem PySem.Spec PyProof.Rows L2 RC
section
variable {P : Program} {w : World} {K : PySem.W.Frag} {mg : Str → Option Value} {base : Heap}
/-! ### a record written -/
def bodyFor : Stmt → List Stmt
  | .For _ _ b _ _ => b
  | _ => []
abbrev b_turn : List Stmt := bodyFor ((defBody s_law).getD 2 (.Pass ⟨0, 0, 0, 0⟩))
abbrev b_deed : List Stmt := bodyFor (b_turn.getD 6 (.Pass ⟨0, 0, 0, 0⟩))
/-- what stays (G), the stream, the yard -/
structure W3 (K : PySem.W.Frag) (G H : Hp) (s l y na nu : Addr) (k : Nat) (clk : Int) : Prop where
  sg : Same G H
  st : Stm H s l k
  yd : YD K H y na nu (YC clk)
  n : y ≠ s ∧ y ≠ l ∧ na ≠ s ∧ na ≠ l ∧ nu ≠ s ∧ nu ≠ l
  ns : G s = none ∧ G l = none ∧ G y = none
theorem W3.old {K : PySem.W.Frag} {G H H' : Hp} {s l y na nu : Addr} {k k' : Nat} {clk : Int} (w : W3 K G H s l y na nu k clk) (o : Old s l H H') (st : Stm H' s l k') : W3 K G H' s l y na nu k' clk := by
  obtain ⟨sg, _, yd, n, ns⟩ := w
  obtain ⟨n1, n2, n3, n4, n5, n6⟩ := id n
  exact ⟨fun b u e => o _ _ (fun z => by rw [z, ns.1] at e; cases e) (fun z => by rw [z, ns.2.1] at e; cases e) (sg _ _ e), st, yd.old o n1 n2 n3 n4 n5 n6, n, ns⟩
theorem W3.same {K : PySem.W.Frag} {G H H' : Hp} {s l y na nu : Addr} {k : Nat} {clk : Int} (w : W3 K G H s l y na nu k clk) (o : Same H H') : W3 K G H' s l y na nu k clk :=
  ⟨w.sg.trans o, w.st.same o, w.yd.same o, w.n, w.ns⟩
theorem stm_but {H H' : Hp} {s l y : Addr} {k : Nat} (st : Stm H s l k) (o : ∀ b u, b ≠ y → H b = some u → H' b = some u) (n1 : y ≠ s) (n2 : y ≠ l) : Stm H' s l k := by
  obtain ⟨a, b, c, d, e, z1, z2, r⟩ := st
  exact ⟨a, b, c, d, e, o _ _ (Ne.symm n1) z1, o _ _ (Ne.symm n2) z2, r⟩
theorem W3.adv {K : PySem.W.Frag} {G H H' : Hp} {s l y na nu : Addr} {k : Nat} {clk c2 : Int} (w : W3 K G H s l y na nu k clk) (o : ∀ b u, b ≠ y → H b = some u → H' b = some u) (yd : YD K H' y na nu (YC c2)) : W3 K G H' s l y na nu k c2 :=
  ⟨fun b u e => o _ _ (fun z => by rw [z, w.ns.2.2] at e; cases e) (w.sg _ _ e), stm_but w.st o w.n.1 w.n.2.1, yd, w.n, w.ns⟩
/-- what stands now is kept from here on -/
def cut3 (s l y : Addr) (H : Hp) : Hp := fun b => if b = s ∨ b = l ∨ b = y then none else H b
theorem cut3_at {s l y : Addr} {H : Hp} {b : Addr} {u : HO} (h : H b = some u) (h1 : b ≠ s) (h2 : b ≠ l) (h3 : b ≠ y) : cut3 s l y H b = some u := by
  unfold cut3; rw [if_neg fun z => by rcases z with z | z | z <;> contradiction]; exact h
theorem W3.grow {K : PySem.W.Frag} {G H : Hp} {s l y na nu : Addr} {k : Nat} {clk : Int} (w : W3 K G H s l y na nu k clk) : W3 K (cut3 s l y H) H s l y na nu k clk :=
  ⟨fun b u e => by
    unfold cut3 at e
    split at e
    · cases e
    · exact e, w.st, w.yd, w.n, by unfold cut3; simp⟩
theorem W3.grew {K : PySem.W.Frag} {G H : Hp} {s l y na nu : Addr} {k : Nat} {clk : Int} (w : W3 K G H s l y na nu k clk) : Same G (cut3 s l y H) := fun b u e =>
  cut3_at (w.sg _ _ e) (fun z => by rw [z, w.ns.1] at e; cases e) (fun z => by rw [z, w.ns.2.1] at e; cases e) (fun z => by rw [z, w.ns.2.2] at e; cases e)
abbrev own7 : List Str := ["name", "levelno", "levelname", "msg", "args", "created", "msecs"]
/-- a name that has a value -/
def NmK (mk dk : List Str) (z : Str) : Prop := z ≠ "asctime" ∧ (z = "message" ∨ z ∈ own7 ∨ z ∈ mk ∨ z ∈ dk)
/-- what a turn has made ahead of its records -/
structure Made (K : PySem.W.Frag) (G : Hp) (mp sp pa m : Addr) (gs : List Gp) (mk dk : List Str) (mf dd : Nat → Dt) (Pm Pd Pq : Addr → Prop) : Prop where
  fm : FmAt K G m (joinP (flatG gs)) dk dd Pd
  ln : LnAt G pa (gs.map gA)
  more : HD G (.dct mk mf) Pm (.ref mp)
  spare : HD G (.dct dk dd) Pq (.ref sp)
  fl : gs.length ≤ 10
  flat : (flatG gs).length ≤ 1000
  sub : mk.Sublist KN
  mok : ∀ i, i < mk.length → Dep 3 (mf i) ∧ Men (mf i)
  dok : ∀ i, i < dk.length → ShwL (dd i)
  nm : ∀ d, Sum.inr d ∈ gs → NmK mk dk (tx d.1) ∧ ∃ c w, FdOk d c w
  tl : ∀ t, Sum.inl t ∈ gs → t.length ≤ 5
theorem pick3 {x : V} (h : x ∈ [V.int 0, V.int 3, V.int 999]) : ∃ d : Int, x = .int d ∧ 0 ≤ d ∧ d ≤ 999 := by
  simp only [List.mem_cons, List.not_mem_nil, or_false] at h
  rcases h with rfl | rfl | rfl
  · exact ⟨0, rfl, by decide, by decide⟩
  · exact ⟨3, rfl, by decide, by decide⟩
  · exact ⟨999, rfl, by decide, by decide⟩
theorem deed (T : Txt P w K mg) {f : Addr} {cdv : Value} {A : Around} {outer : List Env} {st0 : Shared} {E : XK} {HS : Hp} (hr : Room 12 (A.deeper (envOfC "law" (defScope s_law) st0.heap.objs.size f cdv))) (gd : (A.deeper (envOfC "law" (defScope s_law) st0.heap.objs.size f cdv)).guards = some [])
    (c__law_pick : Callable P w K mg base 2 (He.ga K "_law_pick") ["_law_stream", "_law_some"] [] (spPick K))
    (c_Yard_advance : Callable P w K mg base 1 (He.ma K (He.ga K "Yard") "advance") ["self", "milliseconds"] [] (spAdv K))
    (c__law_any_record : RGd.CallG P w K mg base 10 (He.ga K "_law_any_record") ["_law_stream", "_law_yard", "_law_more"] (spAny K))
    (c__law_line : RGd.CallG P w K mg base 6 (He.ga K "_law_line") ["_law_record", "_law_parts", "_law_spare"] (spLine K))
    (c_Formatter_formatted : RGm.CallXG P w K mg base 8 (He.ma K (He.ga K "Formatter") "formatted") ["self", "record"] (spFormatted K)) :
    ∃ t, PSs (cxOf CX0 P w K mg base nm_law "law" (defScope s_law) f cdv A outer st0 HS E).nox b_deed t ∧ ∀ {s l y na nu mp sp pa m : Addr} {gs : List Gp} {mk dk : List Str} {mf dd : Nat → Dt} {Pm Pd Pq : Addr → Prop} {G : Hp} (H : Hp) (D : Ends) (k : Nat) (clk : Int), W3 K G H s l y na nu k clk → Made K G mp sp pa m gs mk dk mf dd Pm Pd Pq → k ≤ 600000 → 0 ≤ clk → clk ≤ 10000000000 → ∀ (o0 o3 o6 o9 o10 o11 o12 : Option V),
      (∀ σ H' k' c' x10 x11, W3 K G H' s l y na nu k' c' → k' ≤ k + 1500 → clk ≤ c' → c' ≤ clk + 999 → σ = [o0, some (.ref s), some (.ref y), o3, some (.ref mp), some (.ref sp), o6, some (.ref pa), some (.ref m), o9, x10, x11, o12] → D.nx σ H') →
      t D [o0, some (.ref s), some (.ref y), o3, some (.ref mp), some (.ref sp), o6, some (.ref pa), some (.ref m), o9, o10, o11, o12] H := by
  generalize e1 : spPick K = S1 at c__law_pick
  generalize e2 : spAdv K = S2 at c_Yard_advance
  generalize e3 : spAny K = S3 at c__law_any_record
  generalize e4 : spLine K = S4 at c__law_line
  generalize e5 : spFormatted K = S5 at c_Formatter_formatted
  refine ⟨_, (pss_cons (ps_expr (pe_mt T.c_Yard T.m_Yard_advance c_Yard_advance (hr.mono (by first | decide | exact Nat.le_refl _)) (pv 2) (pa_cons (pe_fn T.g__law_pick c__law_pick (hr.mono (by first | decide | exact Nat.le_refl _)) (by rfl) (pa_cons (pv 1) (pa_cons (pe_lst (pa_cons pe_int (pa_cons pe_int (pa_cons pe_int pa_nil)))) pa_nil))) pa_nil)))
      (pss_cons (ps_set (i := 10) sc_law.nd rfl (by first | exact Or.inl rfl | exact Or.inr rfl) (RGd.pe_fnG gd T.g__law_any_record c__law_any_record (hr.mono (by first | decide | exact Nat.le_refl _)) (by rfl) (pa_cons (pv 1) (pa_cons (pv 2) (pa_cons (pv 4) pa_nil)))))
      (pss_cons (ps_set (i := 11) sc_law.nd rfl (by first | exact Or.inl rfl | exact Or.inr rfl) (RGd.pe_fnG gd T.g__law_line c__law_line (hr.mono (by first | decide | exact Nat.le_refl _)) (by rfl) (pa_cons (pv 10) (pa_cons (pv 7) (pa_cons (pv 5) pa_nil)))))
      (pss_one (ps_if (PW.pt (pw_or (pt_cmpR op_ne (RGm.pe_mtXG gd takes_none5 T.c_Formatter T.m_Formatter_formatted c_Formatter_formatted (hr.mono (by first | decide | exact Nat.le_refl _)) (pv 8) (pa_cons (pv 10) pa_nil)) (pv 11) (nomark _)) (pw_or1 (pt_cmpR op_ne (RGm.pe_mtXG gd takes_none5 T.c_Formatter T.m_Formatter_formatted c_Formatter_formatted (hr.mono (by first | decide | exact Nat.le_refl _)) (pv 8) (pa_cons (pv 10) pa_nil)) (pv 11) (nomark _))))) (pss_one (ps_ret pe_bl)) pss_nil))))), ?_⟩
  walk_at "in"
  intro s l y na nu mp sp pa m gs mk dk mf dd Pm Pd Pq G H D k clk W M hk hc0 hc1 o0 o3 o6 o9 o10 o11 o12 done
  obtain ⟨⟨dy, ya, bar, hy⟩, gna, gnu, _⟩ := id W.yd
  have st := W.st
  walk_at "go"
  intro q fq
  obtain ⟨nqs, nql⟩ := stm_new W.st fq
  have sq := same_new fq (.lst [V.int 0, V.int 3, V.int 999])
  have hq : (upd H q (.lst [V.int 0, V.int 3, V.int 999])) q = some (.lst [V.int 0, V.int 3, V.int 999]) := upd_same
  refine (?_ : S1 [.ref s, .ref q] (upd H q (.lst [V.int 0, V.int 3, V.int 999])) _ E0)
  have W1 := W.same sq
  generalize upd H q (.lst [V.int 0, V.int 3, V.int 999]) = H1 at sq hq W1 ⊢
  rw [← e1]
  refine ⟨s, l, q, k, _, rfl, W1.st, by omega, nqs, nql, hq, by decide, by decide, fun H2 x o2 st2 hx => ?_⟩
  obtain ⟨d, rfl, hd0, hd9⟩ := pick3 hx
  have W2 := W1.old o2 st2
  walk_at "go"
  refine (?_ : S2 [.ref y, .int d] H2 _ E0)
  rw [← e2]
  refine ⟨y, na, nu, YC clk, d, rfl, W2.yd, fun H3 k3 yd3 fr3 => ?_⟩
  have W3_ := W2.adv (c2 := clk + d) k3 yd3
  clear hy gna gnu st
  obtain ⟨⟨dy3, ya3, bar3, hy3⟩, gna3, gnu3, _⟩ := id W3_.yd
  walk_at "go"
  refine (?_ : S3 [.ref s, .ref y, .ref mp] H3 _ E0)
  rw [← e3]
  refine ⟨s, l, y, na, nu, mp, k + 1, clk + d, mk, mf, (fun b => Pm b ∧ G b ≠ none), rfl, W3_.st, by omega, W3_.yd, by omega, W3_.n, M.more.live.same W3_.sg, fun z => z.2 W3_.ns.1, fun z => z.2 W3_.ns.2.1, M.sub, M.mok, fun H4 r R mt k4 hk4 o4 st4 fr4 hR4 hD hO hml hmc hks hSh => ?_⟩
  have W4 := W3_.old o4 st4
  have hfs : FsOk R (some mt) dk dd gs := fun d hd => by
    obtain ⟨⟨g1, g2⟩, g3⟩ := M.nm d hd
    obtain ⟨t, h1, h2⟩ := val_ok hSh M.dok hml hmc (z := tx d.1) (by rw [hks]; exact g2)
    exact ⟨⟨t, h1, .inl h2⟩, g1, g3⟩
  have pL := law_parts hfs M.tl
  have pF := fm_parts hfs M.flat
  have eFL : ((joinP (flatG gs)).map (wrA (valD R (some mt) dk dd))).flatten = ((gs.map gA).map (wrA (valD R (some mt) dk dd))).flatten := flat_same gs
  have hjl : (joinP (flatG gs)).length ≤ 60 := by
    have := fold_flat_len gs []
    have h2 := M.fl
    show ((flatG gs).foldl stepP []).length ≤ 60
    rw [List.length_nil] at this
    omega
  generalize ((gs.map gA).map (wrA (valD R (some mt) dk dd))) = sL at pL eFL
  generalize ((joinP (flatG gs)).map (wrA (valD R (some mt) dk dd))) = sF at pF eFL
  walk_at "go"
  refine (?_ : S4 [.ref r, .ref pa, .ref sp] H4 _ E0)
  rw [← e4]
  refine ⟨r, pa, sp, gs.map gA, sL, R, _, Pq, dk, dd, some mt, rfl, M.ln.same W4.sg, by rw [List.length_map]; have := M.fl; omega, hR4, hD, hO, M.spare.same W4.sg, pL, fun H5 s5 => ?_⟩
  have W5 := W4.same s5
  have hR5 := hR4.same s5
  have hF5 := M.fm.same W5.sg
  obtain ⟨⟨dm, tt, df, zz, yy, vs, hm5, _⟩⟩ := id hF5
  have FK : ∀ (HX : Hp) (QX : VK) (EX : XK), Same H5 HX → (∀ H', Same HX H' → QX (.str (tx sL.flatten)) H') → S5 [.ref m, .ref r] HX QX EX := fun HX QX EX sX kx => by
    rw [← e5]
    exact ⟨m, r, _, dk, dd, Pd, sF, R, _, some mt, rfl, hF5.same sX, hjl, hR5.same sX, hD, hO, pF, fun H' s' => by rw [eFL]; exact kx H' s'⟩
  have t1 : (!decide (V.str (tx sL.flatten) = V.str (tx sL.flatten))) = false := by rw [decide_eq_true rfl]; rfl
  walk_at "go"
  refine (?_ : S5 [.ref m, .ref r] H5 _ _)
  refine FK H5 _ _ (Same.refl _) fun H6 s6 => ?_
  have hm6 := s6 _ _ hm5
  walk_at "go"
  refine (?_ : S5 [.ref m, .ref r] H6 _ _)
  refine FK H6 _ _ s6 fun H7 s7 => ?_
  walk_at "go"
  exact done _ H7 k4 (clk + d) _ _ ((W5.same s6).same s7) (by omega) (by omega) (by omega) rfl
end
end K17

set_option Elab.async false
set_option linter.all false
set_option maxRecDepth 100000
set_option maxHeartbeats 0

namespace K17
open PySem PySem.Spec PyProof.Rows L2 RC
section
variable {P : Program} {w : World} {K : PySem.W.Frag} {mg : Str → Option Value} {base : Heap}
/-! ### a turn: further values, defaults -/
theorem valV_row {ts : List (Str × V)} (z : Str) : valV (rowK Sum.inr id ts) (Sum.inr z) = (lkp ts z).map id := valV_rowK (fun _ _ z => Sum.inr.inj z) z ts
abbrev spN : List Str := ["levelno", "d"]
theorem kn_spN : ∀ z ∈ spN, z ∉ KN := by decide +kernel
def dfv (n : Nat) (sf : Nat → Dt) (t : Dt) (i : Nat) : Dt := if i < n then sf i else [.int 5, t].getD (i - n) .non
abbrev spRow (v : V) : List (Str × V) := [("levelno", .int 5), ("d", v)]
/-- the defaults, put together -/
theorem spare_hd {H0 H : Hp} {p : Addr} {kvs : List (Str × V)} {sk : List Str} {sf : Nat → Dt} {t : Dt} {v : V} (fp : H0 p = none) (hp : H p = some (.dK (rowK Sum.inr id (kvs ++ spRow v)))) (hk : kvs.map (·.1) = sk) (hs : sk.Sublist KN) (hv : ∀ (i : Nat) (w : Str × V), kvs[i]? = some w → HD H (sf i) (fun b => H0 b = none ∧ b ≠ p) w.2) (ht : HD H t (fun b => H0 b = none ∧ b ≠ p) v) :
    HD H (.dct (sk ++ spN) (dfv sk.length sf t)) (fun b => H0 b = none) (.ref p) := by
  have hkl : kvs.length = sk.length := by rw [← hk, List.length_map]
  have hsl := hs.length_le
  refine ⟨p, kvs ++ spRow v, fun b => H0 b = none ∧ b ≠ p, rfl, fp, fun z => z.2 rfl, fun b hb => hb.1, hp, by rw [List.map_append, hk]; rfl, ?_, by rw [List.length_append]; show sk.length + 2 < 64; have : KN.length = 5 := rfl; omega, fun i w hw => ?_⟩
  · refine List.nodup_append.mpr ⟨hs.nodup (by decide +kernel), by decide +kernel, fun a ha b hb e => ?_⟩
    subst e
    exact kn_spN _ hb (hs.subset ha)
  · by_cases c : i < kvs.length
    · rw [List.getElem?_append_left c] at hw
      have e : dfv sk.length sf t i = sf i := if_pos (by omega)
      rw [e]
      exact hv i w hw
    · rw [List.getElem?_append_right (by omega)] at hw
      have e : dfv sk.length sf t i = [Dt.int 5, t].getD (i - kvs.length) .non := by rw [hkl]; exact if_neg (by omega)
      rw [e]
      generalize i - kvs.length = j at hw
      match j, hw with
      | 0, hw => cases hw; exact rfl
      | 1, hw => cases hw; exact ht
theorem dfv_ok {sk : List Str} {sf : Nat → Dt} {t : Dt} (h : ∀ i, i < sk.length → Dep 3 (sf i) ∧ Men (sf i)) (ht : Dep 3 t ∧ Men t) : ∀ i, i < (sk ++ spN).length → Dep 3 (dfv sk.length sf t i) ∧ Men (dfv sk.length sf t i) := fun i hi => by
  rw [List.length_append] at hi
  unfold dfv
  split
  · exact h i (by assumption)
  · have hj : i - sk.length < 2 := by have : spN.length = 2 := rfl; omega
    generalize i - sk.length = j at hj
    match j, hj with
    | 0, _ => exact ⟨trivial, by show (5 : Int).natAbs < 2 ^ 63; decide⟩
    | 1, _ => exact ht
theorem merge_new {kvs es : List (Str × V)} (h : ((kvs ++ es).map (·.1)).Nodup) : mergeK (rowK Sum.inr id kvs) (rowK Sum.inr id es) = rowK Sum.inr id (kvs ++ es) := by
  rw [merge_rowK (fun _ _ z => Sum.inr.inj z) es kvs, foldL_new es kvs h]
/-- both dicts are there -/
structure MidA (H0 H : Hp) (s l : Addr) (k : Nat) (mp p2 : Addr) (mk sk : List Str) (mf sf : Nat → Dt) (kvs : List (Str × V)) : Prop where
  o : Old s l H0 H
  st : ∃ k2, k2 ≤ k + 200 ∧ Stm H s l k2
  fr : H0 mp = none ∧ H0 p2 = none
  more : HD H (.dct mk mf) (fun b => H0 b = none ∧ b ≠ p2) (.ref mp)
  msub : mk.Sublist KN
  mok : ∀ i, i < mk.length → Dep 3 (mf i) ∧ Men (mf i)
  spare : H p2 = some (.dK (rowK Sum.inr id kvs))
  keys : kvs.map (·.1) = sk
  ssub : sk.Sublist KN
  sok : ∀ i, i < sk.length → Dep 3 (sf i) ∧ Men (sf i)
  sv : ∀ (i : Nat) (w : Str × V), kvs[i]? = some w → HD H (sf i) (fun b => H0 b = none ∧ b ≠ p2) w.2
structure MidB (H0 H : Hp) (s l : Addr) (k : Nat) (mp p2 : Addr) (mk dk : List Str) (mf dd : Nat → Dt) : Prop where
  o : Old s l H0 H
  st : ∃ k2, k2 ≤ k + 220 ∧ Stm H s l k2
  more : HD H (.dct mk mf) (fun b => H0 b = none) (.ref mp)
  msub : mk.Sublist KN
  mok : ∀ i, i < mk.length → Dep 3 (mf i) ∧ Men (mf i)
  spare : HD H (.dct dk dd) (fun b => H0 b = none) (.ref p2)
  dsub : ∃ sk : List Str, sk.Sublist KN ∧ dk = sk ++ spN
  dok : ∀ i, i < dk.length → Dep 3 (dd i) ∧ Men (dd i)
abbrev own11 : List Str := ["name", "levelno", "levelname", "msg", "message", "args", "created", "msecs", "d"]
theorem un_ok : ∀ z ∈ own11 ++ KN, (RP.nmOk z.cps.toList = true ∧ z.cps.toList.length ≤ 9) ∧ z ≠ "asctime" := by decide +kernel
theorem own_msg : ∀ z ∈ own11, z = "message" ∨ z ∈ own7 ∨ z ∈ spN := by decide +kernel
/-- the names that a turn draws from -/
structure KeysZ (Z mk dk : List Str) : Prop where
  l1 : 1 ≤ Z.length
  l2 : Z.length ≤ 100
  ok : ∀ z ∈ Z, NmZ z ∧ NmK mk dk z
theorem keysZ {mk sk ym yd : List Str} (hm : mk.Sublist KN) (hs : sk.Sublist KN) (pm : ym.Perm mk) (pd : yd.Perm (sk ++ spN)) : KeysZ (own11 ++ ym ++ yd) mk (sk ++ spN) := by
  have l1 := hm.length_le
  have l2 := hs.length_le
  have l3 := pm.length_eq
  have l4 := pd.length_eq
  have l0 : KN.length = 5 := rfl
  rw [List.length_append] at l4
  have l5 : spN.length = 2 := rfl
  have l6 : own11.length = 9 := rfl
  have un : ∀ z ∈ own11 ++ KN, NmZ z ∧ z ≠ "asctime" := fun z hz => ⟨⟨(un_ok z hz).1.1, (un_ok z hz).1.2⟩, (un_ok z hz).2⟩
  have sp11 : ∀ z ∈ spN, z ∈ own11 := by decide +kernel
  refine ⟨by rw [List.length_append, List.length_append]; omega, by rw [List.length_append, List.length_append]; omega, fun z hz => ?_⟩
  rcases List.mem_append.mp hz with h | h
  · rcases List.mem_append.mp h with h | h
    · have h1 := un z (List.mem_append_left _ h)
      refine ⟨h1.1, h1.2, ?_⟩
      rcases own_msg z h with g | g | g
      · exact .inl g
      · exact .inr (.inl g)
      · exact .inr (.inr (.inr (List.mem_append_right _ g)))
    · have h0 := pm.mem_iff.mp h
      have h1 := un z (List.mem_append_right _ (hm.subset h0))
      exact ⟨h1.1, h1.2, .inr (.inr (.inl h0))⟩
  · have h0 := pd.mem_iff.mp h
    have h1 : NmZ z ∧ z ≠ "asctime" := by
      rcases List.mem_append.mp h0 with g | g
      · exact un z (List.mem_append_right _ (hs.subset g))
      · exact un z (List.mem_append_left _ (sp11 z g))
    exact ⟨h1.1, h1.2, .inr (.inr (.inr h0))⟩
theorem keys_map {kvs : List (Str × V)} {ks : List Str} (h : kvs.map (·.1) = ks) : (kvs.map fun e => ((Sum.inr e.1 : Key), e.2)).map (fun kv => kV kv.1) = ks.map V.str := by
  rw [← h, List.map_map, List.map_map]; rfl
theorem FmAt.wide {K : PySem.W.Frag} {H : Hp} {m : Addr} {ps : List (Str ⊕ RO.Fd)} {dk : List Str} {dd : Nat → Dt} {P P2 : Addr → Prop} (h : FmAt K H m ps dk dd P) (k : ∀ b, P b → P2 b) : FmAt K H m ps dk dd P2 := by
  obtain ⟨dm, t, df, z, y, vs, h1, h2, h3, h4⟩ := h
  exact ⟨dm, t, df, z, y, vs, h1, h2.wide k, h3, h4⟩
theorem cat_bp : ∀ gs : List Gp, catS (gs.map fun q => tx (bpT q)) = (gs.map bpT).flatten
  | [] => rfl
  | g :: r => congrArg ((bpT g) ++ ·) (cat_bp r)
theorem flat_fld {d : RO.Fd} : ∀ {gs : List Gp}, Sum.inr d ∈ gs → (((flatG gs).map tB).all id) = false
  | .inl t :: r, h => by
    rcases List.mem_cons.mp h with g | g
    · cases g
    · show (((t.map Sum.inl ++ flatG r).map tB).all id) = false
      rw [List.map_append, List.all_append, flat_fld g, Bool.and_false]
  | .inr m :: r, h => rfl
theorem FmAt.cut {K : PySem.W.Frag} {H : Hp} {s l y na nu m : Addr} {k : Nat} {S : YS} {ps : List (Str ⊕ RO.Fd)} {dk : List Str} {dd : Nat → Dt} {P : Addr → Prop} (st : Stm H s l k) (yd : YD K H y na nu S) (hP : ∀ b, P b → b ≠ s ∧ b ≠ l ∧ b ≠ y) (h : FmAt K H m ps dk dd P) : FmAt K (cut3 s l y H) m ps dk dd P := by
  obtain ⟨_, _, _, _, _, z1, z2, _⟩ := st
  obtain ⟨⟨dy, a, bar, hy⟩, _, _, _⟩ := yd
  obtain ⟨dm, t, df, z, yy, vs, h1, h2, h3, h4⟩ := h
  refine ⟨dm, t, df, z, yy, vs, cut3_at h1 (fun e => by rw [e, z1] at h1; cases h1) (fun e => by rw [e, z2] at h1; cases h1) (fun e => ?_), h2.keep fun b u hb e => cut3_at e (hP b hb).1 (hP b hb).2.1 (hP b hb).2.2, cut3_at h3 (fun e => by rw [e, z1] at h3; cases h3) (fun e => by rw [e, z2] at h3; cases h3) (fun e => by rw [e, hy] at h3; cases h3), h4.to fun q dx fs l5 hq => cut3_at hq (fun e => by rw [e, z1] at hq; cases hq) (fun e => by rw [e, z2] at hq; cases hq) (fun e => ?_)⟩
  · rw [e, hy] at h1
    have := congrArg List.length (HO.ins.inj (Option.some.inj h1)).2.2
    simp [yQf, fmF] at this
  · rw [e, hy] at hq
    have := congrArg List.length (HO.ins.inj (Option.some.inj hq)).2.2
    rw [l5] at this
    simp [yQf] at this
theorem gps_cut {K : PySem.W.Frag} {Z : List Str} {H : Hp} {s l y na nu : Addr} {k : Nat} {S : YS} {gs : List Gp} {xs : List V} (st : Stm H s l k) (yd : YD K H y na nu S) (h : GpsV Z H gs xs) : GpsV Z (cut3 s l y H) gs xs := by
  obtain ⟨_, _, _, _, _, z1, z2, _⟩ := st
  obtain ⟨⟨dy, a, bar, hy⟩, _, _, _⟩ := yd
  exact gps_to (fun q ys e => cut3_at e (fun w => by rw [w, z1] at e; cases e) (fun w => by rw [w, z2] at e; cases e) (fun w => by rw [w, hy] at e; cases e)) h
theorem nmsG_snoc (x : Gp) : ∀ gs : List Gp, nmsG (gs ++ [x]) = nmsG gs ++ nmsG [x]
  | [] => rfl
  | .inl _ :: r => nmsG_snoc x r
  | .inr n :: r => congrArg (n.1 :: ·) (nmsG_snoc x r)
theorem nmsG_len : ∀ gs : List Gp, (nmsG gs).length ≤ gs.length
  | [] => Nat.le_refl _
  | .inl _ :: r => Nat.le_succ_of_le (nmsG_len r)
  | .inr _ :: r => Nat.succ_le_succ (nmsG_len r)
theorem neVT {K : PySem.W.Frag} {H : Hp} {t u : Addr} {xs : List V} {Q : VK} (h1 : H t = some (.tup xs)) (h2 : H u = some (.tup xs)) (hf : xs.all RY.flatW = true) (q : Q (.bl false) H) : RU.rNeVT K (.ref t) (.ref u) H Q :=
  ⟨t, u, xs, rfl, rfl, SqT.of h1, SqT.of h2, hf, q⟩
/-- the loop over the records -/
structure FJ (K : PySem.W.Frag) (G : Hp) (a s l y na nu mp p2 kq pa m : Addr) (j : Int) (k8 : Nat) (clk : Int) (o12 : Option V) (i : Nat) (σ : L2.St) (H' : Hp) : Prop where
  w : ∃ k' c', W3 K G H' s l y na nu k' c' ∧ k' ≤ k8 + 1500 * i ∧ clk ≤ c' ∧ c' ≤ clk + 999 * i
  ex : ∃ x9 x10 x11 : Option V, σ = [some (.ref a), some (.ref s), some (.ref y), some (.int j), some (.ref mp), some (.ref p2), some (.ref kq), some (.ref pa), some (.ref m), x9, x10, x11, o12]
structure CJ (H : Hp) (D : Addr) (gs : List Gp) (i : Nat) (H' : Hp) : Prop where
  same : Same H H'
  at_ : H' D = some (.lst ((nmsG (gs.take i)).map fun n => V.str (tx n)))
/-- at the start of a turn -/
structure TI (K : PySem.W.Frag) (H : Hp) (s l y na nu : Addr) (i : Nat) : Prop where
  ex : ∃ (G : Hp) (k : Nat) (clk : Int), W3 K G H s l y na nu k clk ∧ k ≤ 10 + 10000 * i ∧ 0 ≤ clk ∧ clk ≤ 2000000000 + 3000 * i
theorem turn (T : Txt P w K mg) {f : Addr} {cdv : Value} {A : Around} {outer : List Env} {st0 : Shared} {E : XK} {HS : Hp} (hr : Room 12 (A.deeper (envOfC "law" (defScope s_law) st0.heap.objs.size f cdv))) (gd : (A.deeper (envOfC "law" (defScope s_law) st0.heap.objs.size f cdv)).guards = some [])
    (c__law_draw : Callable P w K mg base 1 (He.ga K "_law_draw") ["_law_stream", "_law_many"] [] spDraw)
    (c__law_pick : Callable P w K mg base 2 (He.ga K "_law_pick") ["_law_stream", "_law_some"] [] (spPick K))
    (c__law_object : Callable P w K mg base 5 (He.ga K "_law_object") ["_law_stream", "_law_deep"] [] (spObj 2))
    (c__law_known : Callable P w K mg base 6 (He.ga K "_law_known") ["_law_stream"] [] spKnown)
    (c__law_format_parts : Callable P w K mg base 4 (He.ga K "_law_format_parts") ["_law_stream", "_law_most", "_law_keys"] [] spFormatParts)
    (c__law_field : Callable P w K mg base 3 (He.ga K "_law_field") ["_law_stream", "_law_keys"] [] spLField)
    (c__law_braced_parts : Callable P w K mg base 2 (He.ga K "_law_braced_parts") ["_law_parts"] [] spBracedParts)
    (c_Formatter_init : Callable P w K mg base 6 (He.ma K (He.ga K "Formatter") "__init__") ["self", "fmt", "style", "validate", "defaults"] [] (spFmInit K))
    (c_Formatter_fields : Callable P w K mg base 1 (He.ma K (He.ga K "Formatter") "fields") ["self"] [] (spFields K))
    (c_Yard_advance : Callable P w K mg base 1 (He.ma K (He.ga K "Yard") "advance") ["self", "milliseconds"] [] (spAdv K))
    (c__law_any_record : RGd.CallG P w K mg base 10 (He.ga K "_law_any_record") ["_law_stream", "_law_yard", "_law_more"] (spAny K))
    (c__law_line : RGd.CallG P w K mg base 6 (He.ga K "_law_line") ["_law_record", "_law_parts", "_law_spare"] (spLine K))
    (c_Formatter_formatted : RGm.CallXG P w K mg base 8 (He.ma K (He.ga K "Formatter") "formatted") ["self", "record"] (spFormatted K)) :
    ∃ t, PSs (cxOf CX0 P w K mg base nm_law "law" (defScope s_law) f cdv A outer st0 HS E).nox b_turn t ∧ ∀ {a s l y na nu : Addr} {i : Nat} (H0 : Hp) (D : Ends), TI K H0 s l y na nu i → i < 6 → ∀ (j : Int) (o4 o5 o6 o7 o8 o9 o10 o11 o12 : Option V),
      (∀ σ H', TI K H' s l y na nu (i + 1) → (∃ o : List (Option V), o.length = 9 ∧ σ = [some (.ref a), some (.ref s), some (.ref y), some (.int j)] ++ o) → D.nx σ H') →
      t D [some (.ref a), some (.ref s), some (.ref y), some (.int j), o4, o5, o6, o7, o8, o9, o10, o11, o12] H0 := by
  obtain ⟨t1, hdeed, qdeed⟩ := deed (f := f) (cdv := cdv) (outer := outer) (st0 := st0) (HS := HS) (E := E) T hr gd c__law_pick c_Yard_advance c__law_any_record c__law_line c_Formatter_formatted
  generalize e1 : spKnown = S1 at c__law_known
  generalize e2 : spObj 2 = S2 at c__law_object
  generalize e3 : spFormatParts = S3 at c__law_format_parts
  generalize e4 : spLField = S4 at c__law_field
  generalize e5 : spBracedParts = S5 at c__law_braced_parts
  generalize e6 : spFmInit K = S6 at c_Formatter_init
  generalize e7 : spFields K = S7 at c_Formatter_fields
  refine ⟨_, (pss_cons (ps_par (by rfl) sc_law.nd (i := 4) (j := 5) rfl rfl (by decide) rfl rfl (pa_cons (pe_fn T.g__law_known c__law_known (hr.mono (by first | decide | exact Nat.le_refl _)) (by rfl) (pa_cons (pv 1) pa_nil)) (pa_cons (pe_fn T.g__law_known c__law_known (hr.mono (by first | decide | exact Nat.le_refl _)) (by rfl) (pa_cons (pv 1) pa_nil)) pa_nil)) (by rfl))
      (pss_cons (ps_expr (pe_bm PySem.F.plainAttrs_dict PySem.F.slot_dict_update PySem.F.type_dict_update RF.mt_updD (pv 5) (pa_cons (pe_disp (pps_cons pe_str pe_int (pps_cons pe_str (pe_fn T.g__law_object c__law_object (hr.mono (by first | decide | exact Nat.le_refl _)) (by rfl) (pa_cons (pv 1) (pa_cons pe_int pa_nil))) pps_nil)) (by rfl) (by rfl) (fun z => by cases z) (by decide)) pa_nil)))
      (pss_cons (ps_set (i := 6) sc_law.nd rfl (by first | exact Or.inl rfl | exact Or.inr rfl) (pe_lst (pa_cons pe_str (pa_cons pe_str (pa_cons pe_str (pa_cons pe_str (pa_cons pe_str (pa_cons pe_str (pa_cons pe_str (pa_cons pe_str (pa_cons pe_str pa_nil)))))))))))
      (pss_cons (ps_set (i := 6) sc_law.nd rfl (by first | exact Or.inl rfl | exact Or.inr rfl) (pe_op op_cat (pe_op op_cat (pv 6) (pe_callB cr_sortedS (by rfl) T.b_sorted (by decide +kernel) (pa_cons (pe_callTy (call_list_dK rfl) (by rfl) T.b_list (by decide +kernel) (pa_cons (pv 4) pa_nil)) pa_nil))) (pe_callB cr_sortedS (by rfl) T.b_sorted (by decide +kernel) (pa_cons (pe_callTy (call_list_dK rfl) (by rfl) T.b_list (by decide +kernel) (pa_cons (pv 5) pa_nil)) pa_nil))))
      (pss_cons (ps_set (i := 7) sc_law.nd rfl (by first | exact Or.inl rfl | exact Or.inr rfl) (pe_op op_cat (pe_fn T.g__law_format_parts c__law_format_parts (hr.mono (by first | decide | exact Nat.le_refl _)) (by rfl) (pa_cons (pv 1) (pa_cons pe_int (pa_cons (pv 6) pa_nil)))) (pe_lst (pa_cons (pe_fn T.g__law_field c__law_field (hr.mono (by first | decide | exact Nat.le_refl _)) (by rfl) (pa_cons (pv 1) (pa_cons (pv 6) pa_nil))) pa_nil))))
      (pss_cons (ps_set (i := 8) sc_law.nd rfl (by first | exact Or.inl rfl | exact Or.inr rfl) (pe_mk T.k_Formatter T.g_Formatter c_Formatter_init (hr.mono (by first | decide | exact Nat.le_refl _)) (by rfl) (pa_cons (pe_join pe_str (pe_fn T.g__law_braced_parts c__law_braced_parts (hr.mono (by first | decide | exact Nat.le_refl _)) (by rfl) (pa_cons (pv 7) pa_nil))) (pa_cons pe_str (pa_cons (pe_cmpR op_eq (pe_fn T.g__law_draw c__law_draw (hr.mono (by first | decide | exact Nat.le_refl _)) (by rfl) (pa_cons (pv 1) (pa_cons pe_int pa_nil))) pe_int (nomark _)) (pa_cons (pv 5) pa_nil))))))
      (pss_cons (ps_for PassesOwn.never rfl (pi_range1 (by rfl) T.b_range (pa_cons pe_int pa_nil)) (pg_name (i := 9) sc_law.nd rfl (by first | exact Or.inl rfl | exact Or.inr rfl)) hdeed)
      (pss_one (ps_if (pt_cmpR (RU.op_neVT (Nat.lt_of_succ_lt (hu_of hr))) (pe_mt0 T.c_Formatter T.m_Formatter_fields c_Formatter_fields (hr.mono (by first | decide | exact Nat.le_refl _)) (pv 8)) (pe_callTy call_tuple_of (by rfl) T.b_tuple (by decide +kernel) (pa_cons (pe_lc (own := [("_law_part", 12)]) (by rfl) sc_law.nd (pi_list (pv 7)) (blkOk_by (own := [("_law_part", 12)]) (N := nm_law) (sc := defScope s_law) (by decide +kernel)) (fun _ _ _ _ _ => (pg_name (i := 12) sc_law.nd rfl (by first | exact Or.inl rfl | exact Or.inr rfl))) (fun _ _ _ _ _ => (pts_one (pt_val (pe_callB (callK (K := K) rIsi call_isi) (by rfl) T.b_isinstance (by decide +kernel) (pa_cons (pv 12) (pa_cons (pe_bltn (v := .ty "tuple") (u := .type "tuple") (by rfl) T.b_tuple (by decide +kernel) rfl) pa_nil)))))) (fun _ _ _ _ _ => (pe_ix (ixK (K := K) rIxT ix_tup) (pv 12) pe_int (fun _ _ => rfl)))) pa_nil)) (nomark _)) (pss_one (ps_ret pe_bl)) pss_nil))))))))), ?_⟩
  walk_at "in"
  intro a s l y na nu i H0 D I hi j o4 o5 o6 o7 o8 o9 o10 o11 o12 done
  obtain ⟨G0, k, clk, W0, hk, hc0, hc1⟩ := I
  have st0 := W0.st
  -- both dicts
  refine seq_of (fun σ' H2 => ∃ mp p2 mk sk mf sf kvs, MidA H0 H2 s l k mp p2 mk sk mf sf kvs ∧ σ' = [some (.ref a), some (.ref s), some (.ref y), some (.int j), some (.ref mp), some (.ref p2), o6, o7, o8, o9, o10, o11, o12]) (fun b' kb => ?_) (fun σ' H2 hm => ?_)
  · have SK : ∀ (HX : Hp) (kx : Nat) (QX : VK), Stm HX s l kx → kx ≤ 800000 → (∀ H' p ks f k', k' ≤ kx + 100 → Old s l HX H' → Stm H' s l k' → HX p = none → KnV H' (fun b => HX b = none) p ks f → QX (.ref p) H') → S1 [.ref s] HX QX E0 := fun HX kx QX sX kX qX => by
      rw [← e1]
      exact ⟨s, l, kx, rfl, sX, kX, qX⟩
    walk_at "go"
    refine (?_ : S1 [.ref s] H0 _ E0)
    refine SK H0 k _ st0 (by omega) fun H1 mp mk mf k1 hk1 o1 st1 fmp hM => ?_
    walk_at "go"
    refine (?_ : S1 [.ref s] H1 _ E0)
    refine SK H1 k1 _ st1 (by omega) fun H2 p2 sk sf k2 hk2 o2 st2 fp2 hS => ?_
    have fr1 := fr_old st0 st1 o1
    obtain ⟨_, kvs, P', e0, q1', q2', q3', had, hkl, hnd, hkn, hki⟩ := hS.hd
    cases e0
    walk_at "go"
    refine kb _ _ ⟨mp, p2, mk, sk, mf, sf, kvs, ⟨o1.trans o2, ⟨k2, by omega, st2⟩, ⟨fmp, fr1 _ fp2⟩, ?_, hM.sub, hM.ok, had, hkl, hS.sub, hS.ok, fun i w hw => (hki i w hw).wide fun b hb => ⟨fr1 _ (q3' b hb), fun z => q2' (by rw [← z]; exact hb)⟩⟩, rfl⟩
    exact ((hM.hd.live).old st0 (fun b hb => hb.1) o2).wide fun b hb => ⟨hb.1, fun z => hb.2 (by rw [z]; exact fp2)⟩
  obtain ⟨mp, p2, mk, sk, mf, sf, kvs, MA, rfl⟩ := hm
  obtain ⟨o2, ⟨k2, hk2, st2⟩, ⟨fmp, fp2⟩, hmore, hmsub, hmok, hsp, hkeys, hssub, hsok, hsv⟩ := MA
  -- the defaults
  refine seq_of (fun σ' H3 => ∃ dk dd, MidB H0 H3 s l k mp p2 mk dk mf dd ∧ σ' = [some (.ref a), some (.ref s), some (.ref y), some (.int j), some (.ref mp), some (.ref p2), o6, o7, o8, o9, o10, o11, o12]) (fun b' kb => ?_) (fun σ' H3 hm => ?_)
  · walk_at "go"
    refine ⟨.inr (.inr (.inl ⟨rfl, .inl ⟨_, hsp⟩⟩)), ?_⟩
    refine (?_ : ∀ q, H2 q = none → _)
    intro q fq
    walk_at "go"
    have s3 := same_new fq (.dK [])
    have q3 := upd_same (H := H2) (a := q) (o := .dK [])
    refine (?_ : S2 [.ref s, .int ((2 : Nat) : Int)] (upd H2 q (.dK [])) _ E0)
    generalize upd H2 q (.dK []) = H3 at s3 q3 ⊢
    rw [← e2]
    have hbd : bnd 2 = 17 := rfl
    refine ⟨s, l, k2, rfl, st2.same s3, by omega, fun H4 v k4 hk4 o4 st4 ov => ?_⟩
    obtain ⟨t, ht, hdp, hmn⟩ := ov
    obtain ⟨nqs, nql⟩ := stm_new st2 fq
    obtain ⟨nps, npl⟩ := stm_new st0 fp2
    have npq : p2 ≠ q := fun z => by rw [z, fq] at hsp; cases hsp
    have q4 := o4 _ _ nqs nql q3
    have hsp3 := s3 _ _ hsp
    have hsp4 := o4 _ _ nps npl hsp3
    refine ⟨q4, [(Sum.inr "levelno", .int 5), (Sum.inr "d", v)], rfl, by show 2 ≤ 15; decide, ?_⟩
    have q5 : (upd H4 q (.dK [(Sum.inr "levelno", .int 5), (Sum.inr "d", v)])) q = some (.dK (rowK Sum.inr id (spRow v))) := upd_same
    have hsp5 : (upd H4 q (.dK [(Sum.inr "levelno", .int 5), (Sum.inr "d", v)])) p2 = some (.dK (rowK Sum.inr id kvs)) := by rw [upd_ne npq]; exact hsp4
    walk_at "go"
    have e0 : mergeK [] [(Sum.inr "levelno", .int 5), (Sum.inr "d", v)] = rowK Sum.inr id (spRow v) := rfl
    have hkl : kvs.length = sk.length := by rw [← hkeys, List.length_map]
    have hsl : sk.length ≤ 5 := hssub.length_le
    have hndp : ((kvs ++ spRow v).map (·.1)).Nodup := by
      rw [List.map_append, hkeys]
      refine List.nodup_append.mpr ⟨hssub.nodup (by decide +kernel), by show spN.Nodup; decide +kernel, fun x hx z hz e => ?_⟩
      subst e
      exact kn_spN _ hz (hssub.subset hx)
    have em : mergeK (rowK Sum.inr id kvs) (rowK Sum.inr id (spRow v)) = rowK Sum.inr id (kvs ++ spRow v) := merge_new hndp
    rw [e0, em]
    have ll : (rowK Sum.inr id (kvs ++ spRow v)).length = kvs.length + 2 := by unfold rowK; rw [List.length_map, List.length_append]; rfl
    refine ⟨by unfold rowK; rw [List.length_map, List.length_map, sizeLine_eq]; show kvs.length + 2 ≤ _; omega, by rw [ll, sizeLine_eq]; omega, ?_⟩
    have oq : Old s l H2 H4 := (Old.of_same s3).trans o4
    have fq0 : H0 q = none := fr_old st0 st2 o2 q fq
    have k5 : ∀ (b : Addr) (u : HO) (o1 o2 : HO), b ≠ p2 → b ≠ q → H4 b = some u → (upd (upd H4 q o1) p2 o2) b = some u := fun b u o1 o2 h1 h2 h3 => by rw [upd_ne h1, upd_ne h2]; exact h3
    have fr4 := fr_old st0 st4 (o2.trans oq)
    refine kb _ _ ⟨sk ++ spN, dfv sk.length sf t, ⟨fun b u h1 h2 e => ?_, ⟨k4, by omega, ?_⟩, ?_, hmsub, hmok, ?_, ⟨sk, hssub, rfl⟩, dfv_ok hsok ⟨hdp, hmn⟩⟩, rfl⟩
    · exact k5 b u _ _ (ne_of_none e fp2) (ne_of_none e fq0) ((o2.trans oq) b u h1 h2 e)
    · exact (st4.put nqs nql).put nps npl
    · refine HD.wide (P := fun b => (H0 b = none ∧ b ≠ p2) ∧ H2 b ≠ none) (((hmore.live).old st0 (fun b hb => hb.1.1) oq).keep fun b u hb e => k5 b u _ _ hb.1.2 (fun z => hb.2 (by rw [z]; exact fq)) e) fun b hb => hb.1.1
    · refine spare_hd (v := v) fp2 upd_same hkeys hssub (fun i w hw => ?_) ?_
      · refine HD.wide (P := fun b => (H0 b = none ∧ b ≠ p2) ∧ H2 b ≠ none) ((((hsv i w hw).live).old st0 (fun b hb => hb.1.1) oq).keep fun b u hb e => k5 b u _ _ hb.1.2 (fun z => hb.2 (by rw [z]; exact fq)) e) fun b hb => hb.1
      · refine HD.wide (P := fun b => H3 b = none) (ht.keep fun b u hb e => k5 b u _ _ (fun z => by rw [z, hsp3] at hb; cases hb) (fun z => by rw [z, q3] at hb; cases hb) e) fun b hb => ⟨fr_old st0 st2 o2 b (s3.free hb), fun z => by rw [z, hsp3] at hb; cases hb⟩
  obtain ⟨dk, dd, MB, rfl⟩ := hm
  clear o2 st2 fmp fp2 hmore hmsub hmok hsp hkeys hssub hsok hsv
  clear hk2
  obtain ⟨o3, ⟨k3, hk3, st3⟩, hmore, hmsub, hmok, hspare, ⟨sk, hssub, rfl⟩, hdok⟩ := MB
  -- the names
  refine seq_of (fun σ' H4 => ∃ kp, Same H3 H4 ∧ H3 kp = none ∧ H4 kp = some (.lst (own11.map V.str)) ∧ σ' = [some (.ref a), some (.ref s), some (.ref y), some (.int j), some (.ref mp), some (.ref p2), some (.ref kp), o7, o8, o9, o10, o11, o12]) (fun b' kb => ?_) (fun σ' H4 hm => ?_)
  · walk_at "go"
    intro kp fkp
    walk_at "go"
    exact kb _ _ ⟨kp, same_new fkp _, fkp, upd_same, rfl⟩
  obtain ⟨kp, s34, fkp, hkp, rfl⟩ := hm
  refine seq_of (fun σ' H5 => ∃ kq Z, Same H3 H5 ∧ H3 kq = none ∧ H5 kq = some (.lst (Z.map V.str)) ∧ KeysZ Z mk (sk ++ spN) ∧ σ' = [some (.ref a), some (.ref s), some (.ref y), some (.int j), some (.ref mp), some (.ref p2), some (.ref kq), o7, o8, o9, o10, o11, o12]) (fun b' kb => ?_) (fun σ' H5 hm => ?_)
  · obtain ⟨_, mkv, mP', e0, m1, m2, m3, hma, hmkl, mnd, mkn, mki⟩ := id hmore
    cases e0
    obtain ⟨_, skv, sP', e0, n1, n2, n3, hsa, hskl, snd, skn, ski⟩ := id hspare
    cases e0
    have hma4 := s34 _ _ hma
    have hsa4 := s34 _ _ hsa
    have hml : mk.length < 64 := mkn
    have hsl : (sk ++ spN).length < 64 := skn
    have l11 : own11.length = 9 := rfl
    walk_at "go"
    intro q1 fq1
    generalize hH5 : upd H4 q1 _ = H5
    have hq1 : H5 q1 = some (.lst (mk.map V.str)) := by rw [← hH5, upd_same, keys_map hmkl]
    have s45 : Same H4 H5 := by rw [← hH5]; exact same_new fq1 _
    clear hH5
    refine ⟨q1, mk, rfl, SqL.of hq1, hml, fun ym p1 pm1 so1 fp1 => ?_⟩
    have s56 := same_new fp1 (.lst (ym.map V.str))
    have hp1 := upd_same (H := H5) (a := p1) (o := .lst (ym.map V.str))
    generalize upd H5 p1 (.lst (ym.map V.str)) = H6 at s56 hp1 ⊢
    have lym := pm1.length_eq
    refine ⟨kp, p1, _, _, rfl, rfl, s56 _ _ (s45 _ _ hkp), hp1, by rw [List.length_map, List.length_map, sizeLine_eq]; omega, fun c1 fc1 => ?_⟩
    have s67 := same_new fc1 (.lst (own11.map V.str ++ ym.map V.str))
    have hc1 := upd_same (H := H6) (a := c1) (o := .lst (own11.map V.str ++ ym.map V.str))
    generalize upd H6 c1 (.lst (own11.map V.str ++ ym.map V.str)) = H7 at s67 hc1 ⊢
    have s47 := (s45.trans s56).trans s67
    have hsa7 := s47 _ _ hsa4
    refine ⟨_, rfl, p2, _, rfl, hsa7, fun q2 fq2 => ?_⟩
    generalize hH8 : upd H7 q2 _ = H8
    have hq2 : H8 q2 = some (.lst ((sk ++ spN).map V.str)) := by rw [← hH8, upd_same, keys_map hskl]
    have s78 : Same H7 H8 := by rw [← hH8]; exact same_new fq2 _
    clear hH8
    refine ⟨q2, sk ++ spN, rfl, SqL.of hq2, hsl, fun yd p3 pm2 so2 fp3 => ?_⟩
    have s89 := same_new fp3 (.lst (yd.map V.str))
    have hp3 := upd_same (H := H8) (a := p3) (o := .lst (yd.map V.str))
    generalize upd H8 p3 (.lst (yd.map V.str)) = H9 at s89 hp3 ⊢
    have lyd := pm2.length_eq
    have lzz : (own11.map V.str ++ ym.map V.str).length = 9 + ym.length := by rw [List.length_append, List.length_map, List.length_map, l11]
    refine ⟨c1, p3, _, _, rfl, rfl, s89 _ _ (s78 _ _ hc1), hp3, by rw [lzz, List.length_map, sizeLine_eq]; omega, fun c2 fc2 => ?_⟩
    have s39 := (s34.trans s47).trans (s78.trans s89)
    refine kb _ _ ⟨c2, own11 ++ ym ++ yd, s39.trans (same_new fc2 _), s39.free fc2, ?_, keysZ hmsub hssub pm1 pm2, rfl⟩
    rw [upd_same, List.map_append, List.map_append]
  obtain ⟨kq, Z, s35, fkq, hkq, hZ, rfl⟩ := hm
  clear hkp s34 fkp
  have st5 := st3.same s35
  obtain ⟨nks, nkl⟩ := stm_new st3 fkq
  have hZ1 := hZ.l1
  have hZ2 := hZ.l2
  -- the parts
  refine seq_of (fun σ' H6 => ∃ (pa : Addr) (gs : List Gp) (xs : List V), Old s l H5 H6 ∧ Stm H6 s l (k3 + 3100) ∧ H5 pa = none ∧ H6 pa = some (.lst xs) ∧ GpsV Z H6 gs xs ∧ gs.length ≤ 9 ∧ (∃ n, Sum.inr n ∈ gs) ∧ σ' = [some (.ref a), some (.ref s), some (.ref y), some (.int j), some (.ref mp), some (.ref p2), some (.ref kq), some (.ref pa), o8, o9, o10, o11, o12]) (fun b' kb => ?_) (fun σ' H6 hm => ?_)
  · walk_at "go"
    refine (?_ : S3 [.ref s, .int ((8 : Nat) : Int), .ref kq] H5 _ E0)
    rw [← e3]
    refine ⟨s, l, kq, k3, 8, Z, rfl, by decide, hZ1, by omega, fun z hz => (hZ.ok z hz).1, st5, by omega, hkq, nks, nkl, fun p gs xs H6 ol6 st6 fp hp hfs hfl => ?_⟩
    obtain ⟨nps, npl⟩ := stm_new st5 fp
    have hkq6 := ol6 _ _ nks nkl hkq
    walk_at "go"
    refine (?_ : S4 [.ref s, .ref kq] H6 _ E0)
    rw [← e4]
    refine ⟨s, l, kq, k3 + 3000, Z, rfl, hZ1, by omega, st6, by omega, hkq6, nks, nkl, fun q z g f a w H7 ol7 st7 hz hg hfa hw hq => ?_⟩
    have hp7 := ol7 _ _ nps npl hp
    have hfs7 := gps_to (old_tup st6 ol7) hfs
    have hxl : xs.length ≤ 8 := by rw [← Paired.length hfs]; exact hfl
    walk_at "go"
    intro q2 fq2
    walk_at "go"
    intro pa fpa
    obtain ⟨fpa1, fpa2⟩ := upd_none fpa
    have s89 : Same H7 (upd (upd H7 q2 (.lst [.ref q])) pa (.lst (xs ++ [.ref q]))) := (same_new fq2 _).trans (same_new fpa _)
    have oA : Old s l H5 H7 := ol6.trans ol7
    have fpa5 : H5 pa = none := fr_old st5 st7 oA pa fpa2
    have hf : GpV Z (upd (upd H7 q2 (.lst [.ref q])) pa (.lst (xs ++ [.ref q]))) (.inr (z.cps.toList, g, f, a, digS w)) (.ref q) := ⟨q, z.cps.toList, g, f, a, w, rfl, rfl, by rw [tx_of]; exact s89 _ _ hq, by rw [tx_of]; exact (hZ.ok z hz).1, by rw [tx_of]; exact hz, hg, hfa, hw⟩
    refine kb _ _ ⟨pa, gs ++ [.inr (z.cps.toList, g, f, a, digS w)], xs ++ [.ref q], oA.trans (Old.of_same s89), (st7.same s89).mono (by omega), fpa5, upd_same, pr_snoc hf (gps_to (fun _ _ e => s89 _ _ e) hfs7), by rw [List.length_append]; exact Nat.succ_le_succ hfl, ⟨_, List.mem_append_right _ List.mem_cons_self⟩, rfl⟩
  obtain ⟨pa, gs, xs, o56, st6, fpa, hpa, hfs, hfl, hfn, rfl⟩ := hm
  have o06 := (o3.trans (Old.of_same s35)).trans o56
  have hmore6 := hmore.old st0 (fun b hb => hb) ((Old.of_same s35).trans o56)
  have hspare6 := hspare.old st0 (fun b hb => hb) ((Old.of_same s35).trans o56)
  have W6 := W0.old o06 st6
  have fpa0 : H0 pa = none := fr_old st0 st3 o3 pa (s35.free fpa)
  have fr6 := fr_old st0 st6 o06
  clear st5 st3 o3 s35 hkq hmore hspare o56 fkq nks nkl
  obtain ⟨nps, npl⟩ := stm_new st0 fpa0
  have GO := gps_ok hfs
  -- the formatter
  refine seq_of (fun σ' H8 => ∃ (m : Addr) (k8 : Nat), Old s l H6 H8 ∧ Stm H8 s l k8 ∧ k8 ≤ k3 + 3200 ∧ H6 m = none ∧ FmAt K H8 m (joinP (flatG gs)) (sk ++ spN) dd (fun b => H6 b = none) ∧ σ' = [some (.ref a), some (.ref s), some (.ref y), some (.int j), some (.ref mp), some (.ref p2), some (.ref kq), some (.ref pa), some (.ref m), o9, o10, o11, o12]) (fun b' kb => ?_) (fun σ' H8 hm => ?_)
  · walk_at "go"
    refine ⟨⟨_, rfl⟩, ?_⟩
    walk_at "go"
    refine (?_ : S5 [.ref pa] H6 _ E0)
    rw [← e5]
    refine ⟨pa, Z, gs, xs, rfl, hpa, hfs, by omega, fun t H7 s67 ft ht => ?_⟩
    have hfl2 := flat_le (ls := gs.map bpT) fun l hl => by
      obtain ⟨g, hg, rfl⟩ := List.mem_map.mp hl
      exact bpT_len GO g hg
    rw [List.length_map] at hfl2
    refine ⟨"", t, gs.map fun q => tx (bpT q), rfl, rfl, .inl (SqL.of (by rw [ht, List.map_map]; rfl)), ?_, ?_⟩
    · rw [catS_len, cat_bp, List.length_map]
      show (gs.map bpT).flatten.length + gs.length * 0 ≤ _
      omega
    rw [join_cat, cat_bp]
    have st7 := st6.same s67
    walk_at "go"
    intro H8 d oa8 st8 hd0 hd1
    have oa68 := (Old.of_same s67).trans oa8
    have hspare8 := hspare6.old st0 (fun b hb => hb) oa68
    have fr8 := fr_old st6 st8 oa68
    walk_at "go"
    intro x dx hx hdx hne
    refine (?_ : S6 [.ref x, .str (tx (gs.map bpT).flatten), .str "{", .bl (decide (V.int d = V.int 0)), .ref p2] (upd (upd H8 dx (.own x)) x (.ins (CFm K) dx [])) _ E0)
    rw [← e6]
    have s89 : Same H8 (upd (upd H8 dx (.own x)) x (.ins (CFm K) dx [])) := fun b u hb => by rw [upd_ne (ne_of_none hb hx), upd_ne (ne_of_none hb hdx)]; exact hb
    refine ⟨x, dx, tx (gs.map bpT).flatten, _, .ref p2, sk ++ spN, dd, (fun b => H0 b = none ∧ H8 b ≠ none), flatG gs, rfl, upd_same, fun z => z.2 hx, hspare8.live.same s89, fun i hi => (hdok i hi).1, by rw [tx_len]; omega, (braces_read GO).right, by have := flat_len9 GO; omega, (hfn.elim fun n hn => flat_fld hn), fun H9 keep hF => ⟨rfl, ?_⟩⟩
    have s9 : Same H8 H9 := fun b u hb => keep b u (ne_of_none hb hx) (s89 _ _ hb)
    walk_at "go"
    refine kb _ _ ⟨x, _, oa68.trans (Old.of_same s9), st8.same s9, by omega, fr8 x hx, hF.wide fun b hb => fr8 b (s89.free hb), rfl⟩
  obtain ⟨m, k8, o68, st8, hk8, fm6, hFm, rfl⟩ := hm
  have W8 := W6.old o68 st8
  have W := W8.grow
  have hyl : ∃ u, H0 y = some u := by obtain ⟨⟨dy, ya, bar, hy⟩, _⟩ := W0.yd; exact ⟨_, hy⟩
  have live0 : ∀ b, H0 b = none → b ≠ s ∧ b ≠ l ∧ b ≠ y := fun b hb => by
    obtain ⟨_, _, _, _, _, z1, z2, _⟩ := st0
    obtain ⟨u, hu⟩ := hyl
    exact ⟨fun e => (by rw [e, z1] at hb; cases hb), fun e => (by rw [e, z2] at hb; cases hb), fun e => (by rw [e, hu] at hb; cases hb)⟩
  have live6 : ∀ b, H6 b = none → b ≠ s ∧ b ≠ l ∧ b ≠ y := fun b hb => live0 b (fr6 b hb)
  have hpa8 := o68 _ _ nps npl hpa
  have hfs8 := gps_to (old_tup st6 o68) hfs
  have hfsG := gps_cut W8.st W8.yd hfs8
  have hpaG : cut3 s l y H8 pa = some (.lst xs) := cut3_at hpa8 nps npl (live0 pa fpa0).2.2
  have M : Made K (cut3 s l y H8) mp p2 pa m gs mk (sk ++ spN) mf dd (fun b => H0 b = none) (fun b => H6 b = none) (fun b => H0 b = none) :=
    ⟨hFm.cut W8.st W8.yd live6, ⟨xs, hpaG, gps_ln hfsG⟩, (hmore6.old st0 (fun b hb => hb) o68).keep fun b u hb e => cut3_at e (live0 b hb).1 (live0 b hb).2.1 (live0 b hb).2.2, (hspare6.old st0 (fun b hb => hb) o68).keep fun b u hb e => cut3_at e (live0 b hb).1 (live0 b hb).2.1 (live0 b hb).2.2, by omega, by have := flat_len9 GO; omega, hmsub, hmok, fun i hi => shwL_of (hdok i hi).1.mono (hdok i hi).2, fun d hd => ⟨by obtain ⟨k, g, f, a, w, rfl, _, hz, _⟩ := GO.fd d hd; exact (hZ.ok _ hz).2, GO.fdOk hd⟩, GO.tl⟩
  generalize cut3 s l y H8 = G at W M hfsG hpaG
  clear hmore6 hspare6 hfs hfs8 hFm W6 W8
  -- the records
  refine seq_of (fun σ' H9 => FJ K G a s l y na nu mp p2 kq pa m j k8 clk o12 3 σ' H9) (fun b' kb => ?_) (fun σ' H9 hm => ?_)
  · walk_at "go"
    refine for_it (n := 3) walk_range (fun i σ H' => FJ K G a s l y na nu mp p2 kq pa m j k8 clk o12 i σ H') ⟨⟨k8, clk, W, by omega, by omega, by omega⟩, o9, o10, o11, rfl⟩ (fun _ _ _ _ _ => trivial) (fun i x σ H9 H10 hi hP hx => ?_) (fun σ H9 hP => kb _ _ hP)
    obtain ⟨rfl, rfl⟩ := hx
    obtain ⟨⟨k', c', Wi, hk', hc1', hc2'⟩, x9, x10, x11, rfl⟩ := hP
    have hi3 : i < 3 := hi
    refine qdeed H10 _ k' c' Wi M (by omega) (by omega) (by omega) _ _ _ _ _ _ _ fun σ H11 k2 c2 y10 y11 W2 g1 g2 g3 e => ?_
    exact ⟨⟨k2, c2, W2, by omega, by omega, by omega⟩, _, _, _, e⟩
  obtain ⟨⟨k9, c9, W9, hk9, hc91, hc92⟩, x9, x10, x11, rfl⟩ := hm
  have hF9 := M.fm.same W9.sg
  have hpa9 := W9.sg _ _ hpaG
  have hfs9 := gps_to (fun q ys e => W9.sg _ _ e) hfsG
  obtain ⟨⟨dm, tt, df, zz, yy, vs, hm9, _⟩⟩ := id hF9
  walk_at "go"
  refine (?_ : S7 [.ref m] H9 _ E0)
  rw [← e7]
  refine ⟨m, _, _, dd, _, rfl, hF9, by have := fold_flat_len gs []; have h2 := M.fl; show ((flatG gs).foldl stepP []).length ≤ 1000; rw [List.length_nil] at this; omega, fun r H10 s10 hr10 => ?_⟩
  rw [flat_names] at hr10
  have hpa10 := s10 _ _ hpa9
  have hfs10 := gps_to (fun q ys e => s10 _ _ e) hfs9
  walk_at "go"
  intro D2 hD2
  refine lc_it (walk_list (xs := xs)) (fun i H' => CJ H10 D2 gs i H') ⟨same_new hD2 _, upd_same⟩ (fun i H' _ h => SqL.of (h.same _ _ hpa10)) (fun i x H3 H2 hi hP hx => ?_) (fun H11 hP => ?_)
  · obtain ⟨rfl, hx⟩ := hx
    obtain ⟨g1, g2⟩ := hP
    have hgl := Paired.length hfs10
    obtain ⟨f0, gf⟩ : ∃ y, gs[i]? = some y := ⟨_, List.getElem?_eq_getElem (by rw [hgl]; exact hi)⟩
    have hf0 := pr_get hfs10 gf hx
    have e1 : nmsG (gs.take (i + 1)) = nmsG (gs.take i) ++ nmsG [f0] := by rw [take_snoc gf, nmsG_snoc]
    have ml := nmsG_len (gs.take i)
    rw [List.length_take] at ml
    have hsz : ((nmsG (gs.take i)).map fun n => V.str (tx n)).length < sizeLine := by rw [List.length_map, sizeLine_eq]; omega
    cases f0 with
    | inl t =>
      obtain ⟨rfl, _⟩ := hf0
      walk_at "go"
      exact ⟨g1, by rw [e1]; show _ = some (HO.lst ((nmsG (gs.take i) ++ []).map _)); rw [List.append_nil]; exact g2⟩
    | inr dd0 =>
      obtain ⟨q, n, g0, f0', a0, w0, rfl, rfl, hq, _⟩ := hf0
      have hq2 := g1 _ _ hq
      walk_at "go"
      exact ⟨fun b u hb => by rw [upd_ne (ne_of_none hb hD2)]; exact g1 _ _ hb, by rw [upd_same, e1, List.map_append]; rfl⟩
  · obtain ⟨g1, g2⟩ := hP
    rw [List.take_of_length_le (by rw [Paired.length hfs10]; exact Nat.le_refl _)] at g2
    walk_at "go"
    refine .inl ⟨SqL.of g2, fun u fu => ?_⟩
    have su := same_new fu (.tup ((nmsG gs).map fun n => V.str (tx n)))
    refine neVT (su _ _ (g1 _ _ hr10)) upd_same (List.all_eq_true.mpr fun x hx => ?_) ⟨_, rfl, iteF' rfl ?_⟩
    · obtain ⟨n, _, rfl⟩ := List.mem_map.mp hx; rfl
    · exact done _ _ ⟨G, k9, c9, W9.same ((s10.trans g1).trans su), by omega, by omega, by omega⟩ ⟨_, rfl, rfl⟩
end
end K17

set_option Elab.async false
set_option linter.all false
set_option maxRecDepth 100000
set_option maxHeartbeats 0

namespace K17
open PySem PySem.Spec PyProof.Rows L2 RC
section
variable {P : Program} {w : World} {K : PySem.W.Frag} {mg : Str → Option Value} {base : Heap}
/-! ### the law -/
def spLaw (K : PySem.W.Frag) : Sp := fun vs H Q _ => ∃ (a : Addr) (ns : List Int), vs = [.ref a] ∧ ns.length ≤ 63 ∧ SqL K H a (ns.map V.int) ∧ ∀ H', Q (.bl true) H'
theorem i_badfield_init {f : Addr} (T : Txt P w K mg) (F : Stands K "__init__" "BadField.__init__" s_BadField_init [] f) : RH.InitH P w K mg base 1 f ["self", "name"] (RQ.spExcInit K "name") := by
  refine RH.stands_initH F sc_BadField_init (fun vs H Q E h => ?_) (fun cdv A outer s H vs Q E p hr h => ?_) (fun _ _ _ _ _ _ us hl => match us, hl with | [_, _], _ => rfl)
  · obtain ⟨a, C, v, rfl, _⟩ := h; rfl
  obtain ⟨a, C, v, rfl, hx, ha, hQ⟩ := h
  refine ⟨_, (pss_one (ps_ost (pv 0) (pv 1))), ?_⟩
  walk_at "in"
  exact RQ.init_rd hx (fun Q h => ⟨_, rfl, h⟩) (fun Q h => ⟨_, rfl, h⟩) ha hQ
theorem YNew.yd {K : PySem.W.Frag} {clk : Int} {H H2 : Hp} {y dy : Addr} {q : YParts} (hy : H y = none) (hd : H dy = none) (hne : dy ≠ y) (N : YNew K (upd (upd H dy (.own y)) y (.ins (CY K) dy [])) H2 y dy clk q) : YD K H2 y q.na q.nu ⟨T0, U0, clk⟩ ∧ Same H H2 ∧ H q.na = none ∧ H q.nu = none := by
  obtain ⟨rd, ld, F⟩ := N.fr
  have S : Same H H2 := made_same hy hd F.kp
  have k0 : ∀ e ∈ q.L K y rd ld, H e.1 = none ∧ H2 e.1 = some e.2 := fun e he => ⟨(upd_none (upd_none (F.has e he).2.1).2).2, (F.has e he).2.2⟩
  have g1 := k0 (q.nu, .dK (kv_FIRST_NUMBERS.map fun q => (q.1, q.2.v K))) (by simp [YParts.L])
  have g2 := k0 (q.na, .dK (kv_FIRST_NAMES.map fun q => (q.1, q.2.v K))) (by simp [YParts.L])
  refine ⟨⟨⟨dy, fun j => [0, q.st, q.fi, q.lm, q.md, q.hn, q.fr, q.rt, q.lr].getD j 0, 0, N.y⟩, g2.2, g1.2, fun z => ?_⟩, S, g2.1, g1.1⟩
  have h1 := g2.2
  have h2 : H2 q.nu = _ := g1.2
  rw [z, h2] at h1
  cases h1
theorem ok_yard_init2 {f : Addr} (T : Txt P w K mg) (F : Stands K "__init__" "Yard.__init__" s_Yard_init [.int 0] f)
    (c_Logger_init : Callable P w K mg base 2 (He.ma K (He.ga K "Logger") "__init__") ["self", "yard", "name", "level"] [] (spLoggerInit K))
    (c_StreamHandler_init_d1 : Callable P w K mg base 3 (He.ma K (He.ga K "StreamHandler") "__init__") ["self", "yard", "stream"] [.str "stderr"] (spStreamInit K)) : Callable P w K mg base 5 f ["self", "now"] [] (spYardInit K) :=
  F.call sc_Yard_init 2 1 len_yard_init (fun cdv A outer s H vs Q E hr h => body_yard_init T hr h c_Logger_init c_StreamHandler_init_d1) (fun z => nomatch z) fun _ => ⟨rfl, fun _ _ _ _ _ _ _ us its hl hi => match us, hl, its, hi with | [_, _], _, [_], _ => ⟨_, rfl, rfl⟩⟩
abbrev clkN : List Int := [0, 1, 999, 1000000005]
theorem clk_ok : ∀ c ∈ clkN, 0 ≤ c ∧ c ≤ 2000000000 := by decide +kernel
structure TLp (K : PySem.W.Frag) (H : Hp) (a s l y na nu : Addr) (i : Nat) (σ : L2.St) : Prop where
  I : TI K H s l y na nu i
  ex : ∃ o : List (Option V), o.length = 10 ∧ σ = [some (.ref a), some (.ref s), some (.ref y)] ++ o
theorem law_body (T : Txt P w K mg) {f : Addr} {cdv : Value} {A : Around} {outer : List Env} {st0 : Shared} {E : XK} {vs : List V} {H : Hp} {Q : VK} (hr : Room 12 (A.deeper (envOfC "law" (defScope s_law) st0.heap.objs.size f cdv))) (gd : (A.deeper (envOfC "law" (defScope s_law) st0.heap.objs.size f cdv)).guards = some []) (hsp : spLaw K vs H Q E)
    (c__law_draw : Callable P w K mg base 1 (He.ga K "_law_draw") ["_law_stream", "_law_many"] [] spDraw)
    (c__law_pick : Callable P w K mg base 2 (He.ga K "_law_pick") ["_law_stream", "_law_some"] [] (spPick K))
    (c__law_object : Callable P w K mg base 5 (He.ga K "_law_object") ["_law_stream", "_law_deep"] [] (spObj 2))
    (c__law_known : Callable P w K mg base 6 (He.ga K "_law_known") ["_law_stream"] [] spKnown)
    (c__law_format_parts : Callable P w K mg base 4 (He.ga K "_law_format_parts") ["_law_stream", "_law_most", "_law_keys"] [] spFormatParts)
    (c__law_field : Callable P w K mg base 3 (He.ga K "_law_field") ["_law_stream", "_law_keys"] [] spLField)
    (c__law_braced_parts : Callable P w K mg base 2 (He.ga K "_law_braced_parts") ["_law_parts"] [] spBracedParts)
    (c_Formatter_init : Callable P w K mg base 6 (He.ma K (He.ga K "Formatter") "__init__") ["self", "fmt", "style", "validate", "defaults"] [] (spFmInit K))
    (c_Formatter_fields : Callable P w K mg base 1 (He.ma K (He.ga K "Formatter") "fields") ["self"] [] (spFields K))
    (c_Yard_advance : Callable P w K mg base 1 (He.ma K (He.ga K "Yard") "advance") ["self", "milliseconds"] [] (spAdv K))
    (c__law_any_record : RGd.CallG P w K mg base 10 (He.ga K "_law_any_record") ["_law_stream", "_law_yard", "_law_more"] (spAny K))
    (c__law_line : RGd.CallG P w K mg base 6 (He.ga K "_law_line") ["_law_record", "_law_parts", "_law_spare"] (spLine K))
    (c_Formatter_formatted : RGm.CallXG P w K mg base 8 (He.ma K (He.ga K "Formatter") "formatted") ["self", "record"] (spFormatted K))
    (c_Yard_init : Callable P w K mg base 5 (He.ma K (He.ga K "Yard") "__init__") ["self", "now"] [] (spYardInit K)) :
    ∃ t, PSs (cxOf CX0 P w K mg base nm_law "law" (defScope s_law) f cdv A outer st0 H E).nox (defBody s_law) t ∧ t { nx := fun _ H' => Q .non H', rt := Q } (start nm_law vs) H := by
  obtain ⟨a, ns, rfl, hn, hS, hQ⟩ := hsp
  obtain ⟨t1, hturn, qturn⟩ := turn (f := f) (cdv := cdv) (outer := outer) (st0 := st0) (HS := H) (E := E) T hr gd c__law_draw c__law_pick c__law_object c__law_known c__law_format_parts c__law_field c__law_braced_parts c_Formatter_init c_Formatter_fields c_Yard_advance c__law_any_record c__law_line c_Formatter_formatted
  generalize e1 : spYardInit K = SY at c_Yard_init
  generalize e2 : spPick K = SP at c__law_pick
  refine ⟨_, (pss_cons (ps_set (i := 1) sc_law.nd rfl (by first | exact Or.inl rfl | exact Or.inr rfl) (pe_lst (pa_cons (pe_callTy call_list_of (by rfl) T.b_list (by decide +kernel) (pa_cons (pv 0) pa_nil)) (pa_cons pe_int (pa_cons pe_int (pa_cons pe_int pa_nil))))))
      (pss_cons (ps_set (i := 2) sc_law.nd rfl (by first | exact Or.inl rfl | exact Or.inr rfl) (pe_mk T.k_Yard T.g_Yard c_Yard_init (hr.mono (by first | decide | exact Nat.le_refl _)) (by rfl) (pa_cons (pe_fn T.g__law_pick c__law_pick (hr.mono (by first | decide | exact Nat.le_refl _)) (by rfl) (pa_cons (pv 1) (pa_cons (pe_lst (pa_cons pe_int (pa_cons pe_int (pa_cons pe_int (pa_cons (pe_op op_add (pe_op op_pow pe_int pe_int) pe_int) pa_nil))))) pa_nil))) pa_nil)))
      (pss_cons (ps_for PassesOwn.never rfl (pi_range1 (by rfl) T.b_range (pa_cons pe_int pa_nil)) (pg_name (i := 3) sc_law.nd rfl (by first | exact Or.inl rfl | exact Or.inr rfl)) hturn)
      (pss_one (ps_ret pe_bl))))), ?_⟩
  walk_at "in"
  refine seq_of (fun σ' H' => ∃ l s, Stm H' s l 0 ∧ σ' = [some (.ref a), some (.ref s), none, none, none, none, none, none, none, none, none, none, none]) (fun b' kb => ?_) (fun σ' H1 hm => ?_)
  · refine ⟨_, rfl, a, ns.map V.int, rfl, .inl hS, fun l hl => ⟨(by show 4 ≤ sizeLine; decide), fun s hs => ?_⟩⟩
    have st1 : Stm (upd (upd H l (.lst (ns.map V.int))) s (.lst [.ref l, .int 0, .int 0, .int 0])) s l 0 := by
      have n1 := (upd_none hs).1
      exact ⟨n1, ns, 0, 0, 0, upd_same, by rw [upd_ne (Ne.symm n1)]; exact upd_same, hn, by decide, by decide, by decide, by decide, by decide⟩
    exact kb _ _ ⟨l, s, st1, rfl⟩
  obtain ⟨l, s, st1, rfl⟩ := hm
  refine seq_of (fun σ' H2 => ∃ y na nu, TI K H2 s l y na nu 0 ∧ σ' = [some (.ref a), some (.ref s), some (.ref y), none, none, none, none, none, none, none, none, none, none]) (fun b' kb => ?_) (fun σ' H2 hm => ?_)
  · walk_at "go"
    intro p fp
    obtain ⟨nps, npl⟩ := stm_new st1 fp
    have sp := same_new fp (.lst (clkN.map V.int))
    have hp : (upd H1 p (.lst (clkN.map V.int))) p = some (.lst (clkN.map V.int)) := upd_same
    refine (?_ : SP [.ref s, .ref p] (upd H1 p (.lst (clkN.map V.int))) _ E0)
    have st2 := st1.same sp
    generalize upd H1 p (.lst (clkN.map V.int)) = H2 at sp hp st2 ⊢
    rw [← e2]
    refine ⟨s, l, p, 0, _, rfl, st2, by omega, nps, npl, hp, by decide, by decide, fun H3 x o3 st3 hx => ?_⟩
    obtain ⟨clk, hclk, rfl⟩ := List.mem_map.mp hx
    obtain ⟨hc0, hc1⟩ := clk_ok clk hclk
    walk_at "go"
    intro y dy hy hd hne
    refine (?_ : SY [.ref y, .int clk] _ _ E0)
    rw [← e1]
    refine ⟨y, dy, clk, rfl, upd_same, fun H4 q N => ⟨rfl, ?_⟩⟩
    obtain ⟨yd, sm, fna, fnu⟩ := N.yd hy hd hne
    obtain ⟨n1, n2⟩ := stm_new st3 hy
    obtain ⟨n3, n4⟩ := stm_new st3 fna
    obtain ⟨n5, n6⟩ := stm_new st3 fnu
    walk_at "go"
    exact kb _ _ ⟨y, q.na, q.nu, ⟨⟨fun _ => none, _, clk, ⟨fun b u e => (by cases e), st3.same sm, yd, ⟨n1, n2, n3, n4, n5, n6⟩, rfl, rfl, rfl⟩, by omega, hc0, by omega⟩⟩, rfl⟩
  obtain ⟨y, na, nu, I0, rfl⟩ := hm
  refine seq_of (fun σ' H3 => True) (fun b' kb => ?_) (fun σ' H3 hm => ?_)
  · refine ⟨6, rfl, by decide, by decide, ?_⟩
    refine for_it walk_range (fun i σ H' => TLp K H' a s l y na nu i σ) ⟨I0, _, rfl, rfl⟩ (fun _ _ _ _ _ => trivial) (fun i x σ H9 H3 hi hP hx => ?_) (fun σ H3 hP => ?_)
    · obtain ⟨rfl, rfl⟩ := hx
      obtain ⟨I, o, ho, rfl⟩ := hP
      obtain ⟨o3, o4, o5, o6, o7, o8, o9, o10, o11, o12, rfl⟩ : ∃ o3 o4 o5 o6 o7 o8 o9 o10 o11 o12, o = [o3, o4, o5, o6, o7, o8, o9, o10, o11, o12] := by
        match o, ho with
        | [o3, o4, o5, o6, o7, o8, o9, o10, o11, o12], _ => exact ⟨o3, o4, o5, o6, o7, o8, o9, o10, o11, o12, rfl⟩
      refine qturn (a := a) H3 _ I hi (0 + (i : Int)) o4 o5 o6 o7 o8 o9 o10 o11 o12 fun σ H' I' ho' => ?_
      obtain ⟨o, ho, e⟩ := ho'
      exact ⟨I', some (.int (0 + (i : Int))) :: o, by rw [List.length_cons, ho], e⟩
    · exact kb _ _ trivial
  walk_at "go"
  exact hQ _
end
end K17

set_option Elab.async false
set_option linter.all false
set_option maxRecDepth 100000
set_option maxHeartbeats 0
namespace K17
open PySem PySem.Spec PyProof.Rows L2 RC
section
variable {P : Program} {w : World} {K : PySem.W.Frag} {mg : Str → Option Value} {base : Heap}
/-! ### all together -/
theorem ok_law {f : Addr} {fd : FuncData} (T : Txt P w K mg) (F : FunD K "law" "law" (defArgs s_law) (defBody s_law) (defScope s_law) [] [] f fd) : RGd.FnG P w K mg base CX0 13 f fd ["_law_script"] (spLaw K) := by
  have c__law_draw := ok_draw (base := base) T T.d__law_draw
  have c__law_pick := ok_pick (base := base) T T.d__law_pick c__law_draw
  have c__law_object := ok_obj (base := base) T T.d__law_object rfl c__law_draw c__law_pick 2
  have c__law_known := ok_known (base := base) T T.d__law_known c__law_draw c__law_object
  have c__law_pickS := ok_pickS (base := base) T T.d__law_pick c__law_draw
  have c__law_text := ok_text (base := base) T T.d__law_text c__law_draw c__law_pickS
  have c__law_field := ok_lfield (base := base) T T.d__law_field c__law_draw c__law_pick
  have c__law_format_parts := ok_format_parts (base := base) T T.d__law_format_parts c__law_draw c__law_text c__law_field
  have c__law_braced := ok_braced (base := base) T T.d__law_braced
  have c__law_braced_text := ok_braced_text (base := base) T T.d__law_braced_text
  have c__law_braced_parts := ok_braced_parts (base := base) T T.d__law_braced_parts c__law_braced c__law_braced_text
  have c_name_end := ok_name_end (base := base) T T.d_name_end
  have c_is_width := ok_width (base := base) T T.d_is_width
  have c_spec_of := ok_spec (base := base) T T.d_spec_of c_is_width
  have c_Field_init_d3 := ok_field_init2 (base := base) T T.d_Field_init
  have c_Field_init := ok_field_init5 (base := base) T T.d_Field_init
  have c_field_of := ok_field_of (base := base) T T.d_field_of c_name_end c_spec_of c_Field_init_d3 c_Field_init
  have c_parts_of_braces := ok_parts (base := base) T T.d_parts_of_braces c_field_of
  have c_joined_texts := ok_joined (base := base) T T.d_joined_texts
  have c_copied_value := ok_copP (base := base) T T.d_copied_value rfl 4
  have c_Formatter_init := ok_fm_init (base := base) T T.d_Formatter_init c_parts_of_braces c_joined_texts c_copied_value
  have c_Formatter_fields := ok_fields (base := base) T T.d_Formatter_fields
  have c_Yard_advance := ok_adv (base := base) T T.d_Yard_advance
  have c__law_pieces := ok_pieces (base := base) T T.d__law_pieces c__law_draw c__law_object c__law_text
  have c_is_integer := ok_is_integer (base := base) T T.d_is_integer
  have c_BadLevel_init := ok_badlevel_init (base := base) T T.d_BadLevel_init
  have c_Yard_level_of := ok_level_of (base := base) T T.d_Yard_level_of c_is_integer c_BadLevel_init
  have c_Yard_level_name := ok_level_name (base := base) T T.d_Yard_level_name
  have c_BadExtra_init := ok_badextra_init (base := base) T T.d_BadExtra_init
  have c_LogRecord_init := ok_rec_init (base := base) T T.d_LogRecord_init c_copied_value
  have c_Yard_make_record := ok_make_record (base := base) T T.d_Yard_make_record c_Yard_level_of c_Yard_level_name c_BadExtra_init c_LogRecord_init
  have c__law_any_record := ok_any (base := base) T T.d__law_any_record c__law_pieces c__law_pick c_Yard_make_record
  have c__law_filled := ok_filled (base := base) T T.d__law_filled
  have c__law_written := ok_lwritten (base := base) T T.d__law_written c__law_filled
  have c__law_worth := ok_worth (base := base) T T.d__law_worth
  have c_BadMessage_init := ok_badmessage_init (base := base) T T.d_BadMessage_init
  have c_message_of := ok_message_of (base := base) T T.d_message_of c_BadMessage_init
  have c_LogRecord_message := ok_message (base := base) T T.d_LogRecord_message c_message_of
  have c__law_line := ok_line (base := base) T T.d__law_line c__law_written c__law_worth c_LogRecord_message
  have c_BadField_init := ok_badfield_init (base := base) T T.d_BadField_init
  have c_LogRecord_field := ok_field (base := base) T T.d_LogRecord_field c_BadField_init c_copied_value c_LogRecord_message
  have i_BadField_init := i_badfield_init (base := base) T T.d_BadField_init
  have c_Formatter_value_of := ok_value_of (base := base) T T.d_Formatter_value_of c_LogRecord_field i_BadField_init
  have c_is_integerD := ok_is_integerD (base := base) T T.d_is_integer
  have c_Field_side_of := ok_side (base := base) T T.d_Field_side_of c_is_integerD
  have c_Field_written := ok_written (base := base) T T.d_Field_written c_Field_side_of
  have c_Formatter_formatted := ok_formatted (base := base) T T.d_Formatter_formatted c_Formatter_value_of c_Field_written
  have c_Filterer_init := ok_filterer_init (base := base) T T.d_Filterer_init
  have c_Logger_init := ok_logger_init (base := base) T T.d_Logger_init c_Filterer_init
  have c_Yard_enrol := ok_enrol (base := base) T T.d_Yard_enrol
  have c_Handler_init := ok_handler_init (base := base) T T.d_Handler_init c_Filterer_init c_Yard_enrol
  have c_StreamHandler_init_d1 := ok_stream_init (base := base) T T.d_StreamHandler_init c_Handler_init
  have c_Yard_init := ok_yard_init2 (base := base) T T.d_Yard_init c_Logger_init c_StreamHandler_init_d1
  refine RGd.fnG F sc_law (fun vs H Q E h => ?_) (fun cdv A outer s H vs Q E hr gd hsp => ?_)
  · obtain ⟨a, ns, rfl, _⟩ := h; rfl
  obtain ⟨t, h, q⟩ := law_body T hr gd hsp c__law_draw c__law_pick c__law_object c__law_known c__law_format_parts c__law_field c__law_braced_parts c_Formatter_init c_Formatter_fields c_Yard_advance c__law_any_record c__law_line c_Formatter_formatted c_Yard_init
  exact ⟨t, h.nox, q⟩
theorem facts {f : Addr} {h : Heap} (X : K.In h) (G : h.Ns mainGlobals mg) (hfa : mg ("law" : Str) = some (.ref f)) (c : RB.SaysB fa fx fn ts w K) :
    ∃ fd : FuncData, (∀ (s : Shared) (v : Value), BindsTo s fd ⟨[v], []⟩ [("_law_script", v)]) ∧ ∀ base : Heap, RGd.FnG P w K mg base CX0 13 f fd ["_law_script"] (spLaw K) := by
  have T : Txt P w K mg := Txt.of X G c
  obtain ⟨fd, F⟩ := T.d_law
  have e := hfa.symm.trans T.g_law
  cases e
  have b := FunD.bindsA (ps := ["_law_script"]) F fun _ _ _ _ _ _ us hl => match us, hl with | [_], _ => rfl
  exact ⟨fd, fun s v => b s [v] rfl, fun base => ok_law T F⟩
end
end K17
open PySem PySem.W PySem.Calls PyProof.Rows
set_option maxHeartbeats 0
theorem PySem.Challenge.cw_recordyard_k06_formats_in_braces_holds : PySem.Challenge.rw_recordyard_k06_formats_in_braces.Holds := by
  w_on; o_law
  refine HandSHeadRun.head_any (r := OpenLaw.row PySem.Challenge.rw_recordyard_k06_formats_in_braces) (q := view (OpenLaw.row PySem.Challenge.rw_recordyard_k06_formats_in_braces).prog [81]) (H := K17.hk) (ob := K17.ob) (M := 13000) (loose := K17.names) (d := HandSHeadRun.topDef (OpenLaw.row PySem.Challenge.rw_recordyard_k06_formats_in_braces).prog 81) (kwd := []) K17.ob_eq
    (by kernel_rfl) (fun s => by kernel_rfl) K17.run (by kernel_rfl) (by kernel_rfl) (by kernel_rfl) (by rfl) (by first | assumption | decide +kernel) (by decide +kernel) ⟨rfl, rfl, rfl, rfl, rfl, by decide +kernel⟩ ?hw ?hc
  case hw => w_witness2
  case hc =>
    refine RGd.walk_ofG (l := PySem.Challenge.rw_recordyard_k06_formats_in_braces) (n := 63) (k := 13) (x := "_law_script") rfl (by decide) (by kernel_rfl) ⟨rfl, by decide, by decide⟩ ?F
    intro w mg fa h Y G hmg0
    obtain ⟨K, KX, c⟩ := Y
    have hmg : mg ("law" : PySem.Str) = some (.ref fa) := by
      have e : (HandSHeadRun.topDef (OpenLaw.row PySem.Challenge.rw_recordyard_k06_formats_in_braces).prog 81).name = ("law" : PySem.Str) := by kernel_rfl
      rw [← e]
      exact hmg0
    obtain ⟨fd, hb, hF⟩ := K17.facts (P := (PySem.Challenge.rw_recordyard_k06_formats_in_braces).prog) (w := w) KX G hmg c
    exact ⟨K, fd, K17.spLaw K, KX, hb, fun H a ns hl _ hS => ⟨a, ns, rfl, hl, hS, fun _ => rfl⟩, fun base _ _ => hF base⟩
