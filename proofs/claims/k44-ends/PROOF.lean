import PyProof.Rows.All
import Wide.All
import OpenK.AllK
import Wide.FinOn
import PyProof.EqAt
import PyProof.EqKinds
import PyProof.TupleCall
import HandS.Base
import HandS.Call
import HandS.List
import HandS.Dict
import HandS.More
import HandS.Slots
import HandS.ClsMeth
import KE.KStateDown
import HandS.Exc
import HandS.IsInst
import HandS.Defaults
import HandS.HeadHook1
import HandS.HeadHook2
import HandS.Head0
import HandS.Head1
import HandS.Head2
import HandS.HeadEnd
import HandS.ExcInit
import HandS.ExcField
import HandS.ForMost
import HandS.Walk
import PyProof.NeKinds
import PyProof.StrBlock2
import HandS.Sort
import HandS.Text
import PyProof.DictUpdate
import HandS.Iter
import HandS.Conv
import HandS.Flow
import HandS.Words
import HandS.HotCalls
import HandS.Style
import HandS.Steps
import HandS.Wide
import HandS.Replace
import HandS.ReplaceLit
import HandS.ReplaceDef
import PyProof.ListStr
import HandS.Strs
import HandS.DictTup
import HandS.SortOrd
import KE.KSortTupAny
import HandS.RaiseMore
import HandS.NoneIn
import HandS.Zip
import PyProof.ReprRoads
import HandS.ExcOwn
import HandS.TryMany
import HandS.CallSlots
import KE.DataEq
import KE.KEqDict
import KE.KExcIs
import HandS.ExcIs
import HandS.DictComp
import HandS.DeepEq
import PySem.Challenge.RW_recordyard_k44_ends_of_times
set_option Elab.async false
set_option linter.all false
set_option maxRecDepth 100000
set_option maxHeartbeats 4000000
/-! Rules beyond the layer: == and != of instances of classes without an own __eq__ (by identity), in and not in over lists of such, a def read off its class. -/
namespace RA
open PySem PySem.Spec PyProof.Rows PySem.SeqAt
/-- a class whose instances are equal by identity -/
structure PlainC (K : PySem.W.Frag) (C : Addr) : Prop where
  mro : PySem.W.mroIn K C (.type "object") = some true
  eq : PySem.W.findIn K (.ref C) "__eq__" = some (some (.builtin "object.__eq__"))
  ne : PySem.W.findIn K (.ref C) "__ne__" = some (some (.builtin "object.__ne__"))
def PairC (K : PySem.W.Frag) (C D : Addr) : Prop := C = D ∨ ∃ b, PySem.W.subIn K (.ref D) (.ref C) = some b
section
variable {M : Model} {prog : Program} {w : World} {A : Around} {E : Value → Shared → Prop} {s : Shared} {K : PySem.W.Frag} {x y C D : Addr} {ox oy : Obj} {od od' : Option Obj}
theorem inst_get (I : PySem.W.InstAt s.heap x ox C od) : s.heap.get? x = some ox := I.at_
theorem inst_notup (I : PySem.W.InstAt s.heap x ox C od) : ox.cls ≠ .type "tuple" := by
  rw [I.cls]; intro z; cases z
theorem eq_same {Q : Value → Shared → Prop} (X : K.In s.heap) (I : PySem.W.InstAt s.heap x ox C od) (hm : PySem.W.mroIn K C (.type "object") = some true) (hq : Q (.bool true) s) :
    wpAny (model prog w) A (call (.builtin "object.__eq__") [.ref x, .ref x]) Q E s :=
  wpAny_call (codeAny_call_builtin F.cmp_object.eq.plain F.cmpEntry_eq (PySem.W.check_slot F.cmpKind_eq F.cmpSplit_eq (I.type.andThen (PySem.W.looks_mroIn X hm)) (F.cmpArgs_eq _ _) (objEq_entry_same hq)))
theorem eq_other {Q : Value → Shared → Prop} (X : K.In s.heap) (I : PySem.W.InstAt s.heap x ox C od) (hm : PySem.W.mroIn K C (.type "object") = some true) (hy : s.heap.get? y = some oy) (hxy : x ≠ y) (hq : Q .notImplemented s) :
    wpAny (model prog w) A (call (.builtin "object.__eq__") [.ref x, .ref y]) Q E s :=
  wpAny_call (codeAny_call_builtin F.cmp_object.eq.plain F.cmpEntry_eq (PySem.W.check_slot F.cmpKind_eq F.cmpSplit_eq (I.type.andThen (PySem.W.looks_mroIn X hm)) (F.cmpArgs_eq _ _) (objEq_entry_other hxy (inst_get I) hy (inst_notup I) hq)))
theorem ifB_ne {args : List Value} {Q : Option Value → Shared → Prop} (X : K.In s.heap) (I : PySem.W.InstAt s.heap x ox C od) (hs : PySem.W.findIn K (.ref C) "__ne__" = some (some (.builtin "object.__ne__")))
    (h : wpAny M A (call (.builtin "object.__ne__") (.ref x :: args)) (fun v => Q (some v)) E s) : wpAny M A (callSpecialIfBound? (.ref x) "__ne__" args) Q E s := by
  simp only [callSpecialIfBound?, bindSpecialIfBound?]
  refine wpAny_holding (wpAny_bind (wpAny_bind (wpAny_bind (I.type.here ((PySem.W.looks_findIn X hs).here ?_)))))
  refine wpAny_bind (wpAny_askSetting (wpAny_ite ?_))
  have fin : wpAny M A (call (.builtin "object.__ne__") ([.ref x] ++ args) >>= fun v => pure (some v)) Q E s := wpAny_bind (wpAny_mono h (fun v s' h' => wpAny_pure h') fun _ _ h' => h')
  split
  · exact wpAny_bind (wpAny_of_eq (F.cmp_object.ne.bind _) (wpAny_pure (by exact fin)))
  · exact wpAny_tryCatch (wpAny_bind (wpAny_of_eq (F.cmp_object.ne.bind _) (wpAny_pure (by exact fin))))
theorem ne_entry_same {Q : Fin → Shared → Prop} (X : K.In s.heap) (I : PySem.W.InstAt s.heap x ox C od) (P : PlainC K C) (hu : A.units < cLine) (hq : Q (.done (.ret (.bool false))) s) :
    wpAny (model prog w) A (Builtin.«object.__ne__» ⟨[.ref x, .ref x], []⟩) Q E s := by
  unfold Builtin.«object.__ne__»
  repeat (first | with_reducible refine wpAny_cRoomFor hu ?_ | with_reducible refine HN.ifBound_objEq X I P.eq (eq_same X I P.mro ?_) | wp_step)
  exact hq
theorem ne_entry_other {Q : Fin → Shared → Prop} (X : K.In s.heap) (I : PySem.W.InstAt s.heap x ox C od) (P : PlainC K C) (hy : s.heap.get? y = some oy) (hxy : x ≠ y) (hu : A.units < cLine) (hq : Q (.done (.ret .notImplemented)) s) :
    wpAny (model prog w) A (Builtin.«object.__ne__» ⟨[.ref x, .ref y], []⟩) Q E s := by
  unfold Builtin.«object.__ne__»
  repeat (first | with_reducible refine wpAny_cRoomFor hu ?_ | with_reducible refine HN.ifBound_objEq X I P.eq (eq_other X I P.mro hy hxy ?_) | wp_step)
  exact hq
theorem try_eq_same {Q : Option Value → Shared → Prop} (X : K.In s.heap) (I : PySem.W.InstAt s.heap x ox C od) (P : PlainC K C) (h : Q (some (.bool true)) s) : wpAny (model prog w) A (tryCompare (.ref x) "__eq__" (.ref x)) Q E s := by
  unfold tryCompare
  exact wpAny_bind (HN.ifBound_objEq X I P.eq (eq_same X I P.mro (wpAny_pure h)))
theorem try_eq_other {Q : Option Value → Shared → Prop} (X : K.In s.heap) (I : PySem.W.InstAt s.heap x ox C od) (P : PlainC K C) (hy : s.heap.get? y = some oy) (hxy : x ≠ y) (h : Q none s) : wpAny (model prog w) A (tryCompare (.ref x) "__eq__" (.ref y)) Q E s := by
  unfold tryCompare
  exact wpAny_bind (HN.ifBound_objEq X I P.eq (eq_other X I P.mro hy hxy (wpAny_pure h)))
theorem try_ne_same {Q : Option Value → Shared → Prop} (hu : A.units + 1 < cLine) (X : K.In s.heap) (I : PySem.W.InstAt s.heap x ox C od) (P : PlainC K C) (h : Q (some (.bool false)) s) : wpAny (model prog w) A (tryCompare (.ref x) "__ne__" (.ref x)) Q E s := by
  unfold tryCompare
  refine wpAny_bind (ifB_ne X I P.ne (wpAny_call (codeAny_call_builtin F.cmp_object.ne.plain F.cmpEntry_ne (PySem.W.check_slot F.cmpKind_ne F.cmpSplit_ne (I.type.andThen (PySem.W.looks_mroIn X P.mro)) (F.cmpArgs_ne _ _) (ne_entry_same (A := A.in1) X I P hu ?_)))))
  exact wpAny_pure h
theorem try_ne_other {Q : Option Value → Shared → Prop} (hu : A.units + 1 < cLine) (X : K.In s.heap) (I : PySem.W.InstAt s.heap x ox C od) (P : PlainC K C) (hy : s.heap.get? y = some oy) (hxy : x ≠ y) (h : Q none s) : wpAny (model prog w) A (tryCompare (.ref x) "__ne__" (.ref y)) Q E s := by
  unfold tryCompare
  refine wpAny_bind (ifB_ne X I P.ne (wpAny_call (codeAny_call_builtin F.cmp_object.ne.plain F.cmpEntry_ne (PySem.W.check_slot F.cmpKind_ne F.cmpSplit_ne (I.type.andThen (PySem.W.looks_mroIn X P.mro)) (F.cmpArgs_ne _ _) (ne_entry_other (A := A.in1) X I P hy hxy hu ?_)))))
  exact wpAny_pure h
theorem rc_same (hu : A.units < cLine) (X : K.In s.heap) (I : PySem.W.InstAt s.heap x ox C od) (P : PlainC K C) : RcAt A s (.ref x) (.ref x) true := fun prog w E Q h => by
  simp only [richCompare, cmpInfo_Eq, oneThing_ref]
  refine wpAny_holding (wpAny_bind (wpAny_cRoomFor hu ?_))
  refine wpAny_bind (I.type.here (wpAny_bind (I.type.here ?_)))
  rw [if_neg (by simp)]
  refine wpAny_bind (wpAny_pure ?_)
  simp only [Bool.false_eq_true, if_false]
  exact wpAny_bind (try_eq_same X I P (wpAny_pure h))
theorem rcn_same (hu : A.units + 1 < cLine) (X : K.In s.heap) (I : PySem.W.InstAt s.heap x ox C od) (P : PlainC K C) {Q : Value → Shared → Prop} (h : Q (.bool false) s) : wpAny (model prog w) A (richCompare .NotEq (.ref x) (.ref x)) Q E s := by
  simp only [richCompare, cmpInfo_NotEq, oneThing_ref]
  refine wpAny_holding (wpAny_bind (wpAny_cRoomFor (Nat.lt_of_succ_lt hu) ?_))
  refine wpAny_bind (I.type.here (wpAny_bind (I.type.here ?_)))
  rw [if_neg (by simp)]
  refine wpAny_bind (wpAny_pure ?_)
  simp only [Bool.false_eq_true, if_false]
  exact wpAny_bind (try_ne_same hu X I P (wpAny_pure h))
theorem rc_other (hu : A.units < cLine) (X : K.In s.heap) (I : PySem.W.InstAt s.heap x ox C od) (J : PySem.W.InstAt s.heap y oy D od') (P : PlainC K C) (P' : PlainC K D) (hp : PairC K C D) (hxy : x ≠ y) : RcAt A s (.ref x) (.ref y) false := fun prog w E Q h => by
  have fin : ∀ (tag : String), wpAny (model prog w) A (rule tag >>= fun _ => isSame (.ref x) (.ref y) >>= fun b => pure (Value.bool b)) Q E s := fun tag =>
    wpAny_bind (wpAny_rule (wpAny_bind (wpAny_isSame_ref_other hxy (inst_get I) (inst_get J) (inst_notup I) (wpAny_pure h))))
  simp only [richCompare, cmpInfo_Eq, oneThing_ref]
  refine wpAny_holding (wpAny_bind (wpAny_cRoomFor hu ?_))
  refine wpAny_bind (I.type.here (wpAny_bind (J.type.here ?_)))
  by_cases hCD : C = D
  · subst hCD
    rw [if_neg (by simp)]
    refine wpAny_bind (wpAny_pure ?_)
    simp only [Bool.false_eq_true, if_false, Bool.not_false, if_true]
    refine wpAny_bind (try_eq_other X I P (inst_get J) hxy ?_)
    refine wpAny_bind (try_eq_other X J P' (inst_get I) (Ne.symm hxy) ?_)
    exact fin _
  · rw [if_pos (by simp [hCD])]
    obtain ⟨b, hb⟩ := hp.resolve_left hCD
    refine wpAny_bind ((PySem.W.looks_subIn X hb).here ?_)
    cases b with
    | false =>
      simp only [Bool.false_eq_true, if_false, Bool.not_false, if_true]
      refine wpAny_bind (try_eq_other X I P (inst_get J) hxy ?_)
      refine wpAny_bind (try_eq_other X J P' (inst_get I) (Ne.symm hxy) ?_)
      exact fin _
    | true =>
      simp only [Bool.not_true, Bool.false_eq_true, if_false, if_true]
      refine wpAny_bind (try_eq_other X J P' (inst_get I) (Ne.symm hxy) ?_)
      refine wpAny_bind (try_eq_other X I P (inst_get J) hxy ?_)
      exact fin _
theorem rcn_other (hu : A.units + 1 < cLine) (X : K.In s.heap) (I : PySem.W.InstAt s.heap x ox C od) (J : PySem.W.InstAt s.heap y oy D od') (P : PlainC K C) (P' : PlainC K D) (hp : PairC K C D) (hxy : x ≠ y) {Q : Value → Shared → Prop} (h : Q (.bool true) s) :
    wpAny (model prog w) A (richCompare .NotEq (.ref x) (.ref y)) Q E s := by
  have fin : ∀ (tag : String), wpAny (model prog w) A (rule tag >>= fun _ => isSame (.ref x) (.ref y) >>= fun b => pure (Value.bool (!b))) Q E s := fun tag =>
    wpAny_bind (wpAny_rule (wpAny_bind (wpAny_isSame_ref_other hxy (inst_get I) (inst_get J) (inst_notup I) (wpAny_pure h))))
  simp only [richCompare, cmpInfo_NotEq, oneThing_ref]
  refine wpAny_holding (wpAny_bind (wpAny_cRoomFor (Nat.lt_of_succ_lt hu) ?_))
  refine wpAny_bind (I.type.here (wpAny_bind (J.type.here ?_)))
  by_cases hCD : C = D
  · subst hCD
    rw [if_neg (by simp)]
    refine wpAny_bind (wpAny_pure ?_)
    simp only [Bool.false_eq_true, if_false, Bool.not_false, if_true]
    refine wpAny_bind (try_ne_other hu X I P (inst_get J) hxy ?_)
    refine wpAny_bind (try_ne_other hu X J P' (inst_get I) (Ne.symm hxy) ?_)
    exact fin _
  · rw [if_pos (by simp [hCD])]
    obtain ⟨b, hb⟩ := hp.resolve_left hCD
    refine wpAny_bind ((PySem.W.looks_subIn X hb).here ?_)
    cases b with
    | false =>
      simp only [Bool.false_eq_true, if_false, Bool.not_false, if_true]
      refine wpAny_bind (try_ne_other hu X I P (inst_get J) hxy ?_)
      refine wpAny_bind (try_ne_other hu X J P' (inst_get I) (Ne.symm hxy) ?_)
      exact fin _
    | true =>
      simp only [Bool.not_true, Bool.false_eq_true, if_false, if_true]
      refine wpAny_bind (try_ne_other hu X J P' (inst_get I) (Ne.symm hxy) ?_)
      refine wpAny_bind (try_ne_other hu X I P (inst_get J) hxy ?_)
      exact fin _
end
end RA
namespace RA
open PySem PySem.Spec PyProof.Rows PySem.SeqAt L2
/-- an instance of a plain class stands there -/
def InsP (K : PySem.W.Frag) (H : Hp) (a C : Addr) : Prop := (∃ dx fs, H a = some (.ins C dx fs)) ∧ PlainC K C
theorem InsP.of {K : PySem.W.Frag} {H : Hp} {a C dx : Addr} {fs : List (Str × V)} (h : H a = some (.ins C dx fs)) (p : PlainC K C) : InsP K H a C := ⟨⟨dx, fs, h⟩, p⟩
section
variable {X : Cx} {pins : List (Addr × Obj)} {σ : L2.St} {H : Hp} {s : Shared}
theorem insp_at {a C : Addr} (I : Inv X pins σ H s) (h : InsP X.K H a C) : ∃ ox od, PySem.W.InstAt s.heap a ox C od := by
  obtain ⟨⟨dx, fs, ha⟩, _⟩ := h
  obtain ⟨mA, O, _⟩ := ins_get I.hok ha
  obtain ⟨od, J, _⟩ := O.look
  exact ⟨_, _, J⟩
/-- x == y: y an instance, None, or a number, a text, a truth -/
def rEqP (K : PySem.W.Frag) : R2 := fun x y H Q => ∃ a C, x = .ref a ∧ InsP K H a C ∧ ((y = .non ∧ Q (.bl false) H) ∨ ∃ b D, y = .ref b ∧ InsP K H b D ∧ PairC K C D ∧ Q (.bl (decide (a = b))) H)
def rNeP (K : PySem.W.Frag) : R2 := fun x y H Q => ∃ a C b D, x = .ref a ∧ InsP K H a C ∧ y = .ref b ∧ InsP K H b D ∧ PairC K C D ∧ Q (.bl (!decide (a = b))) H
theorem op_eqP (hu : X.A.units < cLine) : OpR X (compareOp .Eq) (rEqP X.K) := by
  intro pins s σ H x y v u Q I rx ry h
  obtain ⟨a, C, rfl, ha, h⟩ := h
  cases rx
  obtain ⟨ox, od, Ia⟩ := insp_at I ha
  rcases h with ⟨rfl, q⟩ | ⟨b, D, rfl, hb, hp, q⟩
  · cases ry
    exact HN.rc_none hu I.kIn Ia ha.2.mro ha.2.eq _ _ _ _ (fin_bl I q rfl)
  · cases ry
    obtain ⟨oy, od', Ib⟩ := insp_at I hb
    by_cases z : a = b
    · subst z
      have e : C = D := by
        have h1 := Ia.cls.symm.trans ((congrArg Obj.cls (Option.some.inj (Ia.at_.symm.trans Ib.at_))).trans Ib.cls)
        exact Value.ref.inj h1
      subst e
      exact rc_same hu I.kIn Ia ha.2 _ _ _ _ (fin_bl I q (by simp))
    · exact rc_other hu I.kIn Ia Ib ha.2 hb.2 hp z _ _ _ _ (fin_bl I q (by simp [z]))
theorem op_neP (hu : X.A.units + 1 < cLine) : OpR X (compareOp .NotEq) (rNeP X.K) := by
  intro pins s σ H x y v u Q I rx ry h
  obtain ⟨a, C, b, D, rfl, ha, rfl, hb, hp, q⟩ := h
  cases rx
  cases ry
  obtain ⟨ox, od, Ia⟩ := insp_at I ha
  obtain ⟨oy, od', Ib⟩ := insp_at I hb
  by_cases z : a = b
  · subst z
    exact rcn_same hu I.kIn Ia ha.2 (fin_bl I q (by simp))
  · exact rcn_other hu I.kIn Ia Ib ha.2 hb.2 hp z (fin_bl I q (by simp [z]))
/-- x in l: x an instance, the items instances -/
def rInP (K : PySem.W.Frag) (neg : Bool) : R2 := fun x y H Q => ∃ (a C p : Addr) (as : List Addr), x = .ref a ∧ InsP K H a C ∧ y = .ref p ∧ SqL K H p (as.map V.ref) ∧ (∀ b ∈ as, ∃ D, InsP K H b D ∧ PairC K D C) ∧ Q (.bl (if neg then !decide (a ∈ as) else decide (a ∈ as))) H
theorem eqAt_ref {A : Around} {a b C D : Addr} (I : Inv X pins σ H s) (hu : A.units < cLine) (ha : InsP X.K H a C) (hb : InsP X.K H b D) (hp : PairC X.K D C) : EqAt A s (.ref b) (.ref a) (decide (b = a)) := by
  by_cases z : b = a
  · subst z
    rw [decide_eq_true rfl]
    exact EqAt.same _
  · rw [decide_eq_false z]
    obtain ⟨ox, od, Ia⟩ := insp_at I ha
    obtain ⟨oy, od', Ib⟩ := insp_at I hb
    intro prog w E Q h
    unfold eqBool
    refine wpAny_holding ?_
    refine wpAny_ite_split (fun hab => absurd (eq_of_beq hab) (fun e => z (Value.ref.inj e))) (fun _ => ?_)
    exact wpAny_bind (rc_other hu I.kIn Ib Ia hb.2 ha.2 hp z prog w E _ (wpAny_truthy_bool h))
theorem any_refs {a : Addr} : ∀ {as : List Addr} {us : List Value}, Vals (as.map V.ref) us → us.any (fun u => u == .ref a) = decide (a ∈ as)
  | [], _, .nil => by simp
  | b :: as, u :: us, .cons r t => by
    cases (show u = Value.ref b from r)
    rw [List.any_cons, any_refs t]
    by_cases z : b = a
    · subst z; simp
    · have z' : ¬ a = b := fun e => z e.symm
      simp [z, z']
theorem mem_refs {A : Around} {a C : Addr} (I : Inv X pins σ H s) (hu : A.units < cLine) (ha : InsP X.K H a C) : ∀ {as : List Addr} {us : List Value}, Vals (as.map V.ref) us → (∀ b ∈ as, ∃ D, InsP X.K H b D ∧ PairC X.K D C) → ∀ u ∈ us, EqAt A s u (.ref a) (u == .ref a)
  | [], _, .nil, _ => fun u hu' => by cases hu'
  | b :: as, u :: us, .cons r t, f => fun u' hu' => by
    rcases List.mem_cons.mp hu' with e | hu'
    · subst e
      cases (show u' = Value.ref b from r)
      obtain ⟨D, hb, hp⟩ := f b (List.mem_cons_self ..)
      have e2 : (Value.ref b == Value.ref a) = decide (b = a) := by
        by_cases z : b = a <;> simp [z]
      rw [e2]
      exact eqAt_ref I hu ha hb hp
    · exact mem_refs I hu ha t (fun z hz => f z (List.mem_cons_of_mem _ hz)) u' hu'
theorem op_inP (hu : X.A.units + 64 < cLine) : OpR X (compareOp .In) (rInP X.K false) := by
  intro pins s σ H x y v u Q I rx ry h
  obtain ⟨a, C, p, as, rfl, ha, rfl, hq, f, q⟩ := h
  cases rx
  cases ry
  obtain ⟨its, rv, hl, _⟩ := I.list hq
  have hu1 : X.A.in1.units < cLine := by show X.A.units + 1 < cLine; omega
  refine SeqAt.in_listAt (fun u => u == .ref a) hl.isList (fun z hz => mem_refs I hu1 ha rv f z (by simpa using hz)) ⟨.bl _, H, I, rfl, ?_⟩
  rw [show its.toArray.any (fun u => u == .ref a) = its.any (fun u => u == .ref a) by simp, any_refs rv]
  exact q
theorem op_notInP (hu : X.A.units + 64 < cLine) : OpR X (compareOp .NotIn) (rInP X.K true) := by
  intro pins s σ H x y v u Q I rx ry h
  obtain ⟨a, C, p, as, rfl, ha, rfl, hq, f, q⟩ := h
  cases rx
  cases ry
  obtain ⟨its, rv, hl, _⟩ := I.list hq
  have hu1 : X.A.in1.units < cLine := by show X.A.units + 1 < cLine; omega
  refine SeqAt.notIn_listAt (fun u => u == .ref a) hl.isList (fun z hz => mem_refs I hu1 ha rv f z (by simpa using hz)) ⟨.bl _, H, I, rfl, ?_⟩
  rw [show its.toArray.any (fun u => u == .ref a) = its.any (fun u => u == .ref a) by simp, any_refs rv]
  exact q
/-! ### a def read off its class: C.m(x, ..) -/
structure CFun (K : PySem.W.Frag) (C : Addr) (m : Str) (f : Addr) : Prop where
  ga : PySem.W.specialIn K (.ref C) "__getattribute__" = some (some (.builtin "type.__getattribute__"))
  rd : PySem.W.readsIn K C (.type "type") = true
  at_ : PySem.W.findCls K (.ref C) (.type "type") m = some (.val (.ref f))
  kp : PySem.W.keepIn K (.ref f) = true
def tCFun (C : Addr) (sp : Sp) (dvs : List V) (E : XK) (ta : TE) (t : TA) : TE := fun σ H Q => ta σ H fun x H1 => x = .ref C ∧ t σ H1 fun vs H2 => sp (vs ++ dvs) H2 Q E
theorem pe_cfun {CX : CXT} {k : Nat} {C f : Addr} {fd : FuncData} {ps : List Str} {sp : Sp} {dvs : List V} {ds : List Value} {E : XK} {o e : Expr} {es : List Expr} {m : Str} {pos apos : Pos} {ta : TE} {t : TA} {pl : Sem Bool}
    (he : PE X o ta) (c : CFun X.K C m f) (F : FnOk X.prog X.w X.K X.mg X.base CX k f fd ps sp) (hr : Room k X.A) (hb : Binds X.K fd ps ds) (hd : Vals dvs ds) (hx : Passes CX X E) (ha : PA X (e :: es) t)
    (hst : starEach (e :: es) X.env = (false, eval e X.env) :: starEach es X.env := by rfl) (hpl : (backTo pos (starEach es X.env)).any (·.1) = false := by rfl)
    (ht : eval (.Call (.Attribute o m apos) (e :: es) [] pos) X.env = (do
      let ov ← eval o X.env
      standAt apos.atName
      let (f, first) ← holding [ov] (getMethod ov m pl)
      callWith pos f first (backTo pos (starEach (e :: es) X.env)) (backToKw pos (keywordEach [] X.env))) := by rfl) :
    PE X (.Call (.Attribute o m apos) (e :: es) [] pos) (tCFun C sp dvs E ta t) := by
  refine ⟨fun pins s σ H Q I h => ?_⟩
  refine PySem.W.methodCall_KW (pl := pl) (thn (he.run pins s σ H _ I h) fun u s1 ⟨x, H1, I1, rx, ex, q⟩ => ?_) ht
  subst ex
  obtain rfl : u = Value.ref C := rx
  refine PySem.W.method_cls I1.kIn c.ga (PySem.W.cls_value I1.kIn c.rd c.at_ (handed_of (v := .ref f) rfl) ?_)
  have I2 := I1.tok (s1.toks + 1)
  refine PySem.W.callWith_K (first := []) (h₀ := X.base) I2.ok.mod.kin c.kp (thn (ha.run pos pins _ σ H1 _ I2 q) fun us s2 ⟨vs, H2, I3, r, q2⟩ => ⟨I3.kIn, ?_⟩) hst hpl
  exact run_fn F hr hb hd hx I3 r q2
/-! ### one of two rules -/
theorem PE.or {e : Expr} {t t' : TE} (h : PE X e t) (h' : PE X e t') : PE X e (fun σ H Q => t σ H Q ∨ t' σ H Q) := ⟨fun pins s σ H Q I q => by
  rcases q with q | q
  · exact h.run pins s σ H Q I q
  · exact h'.run pins s σ H Q I q⟩
/-- any of many rules for one expression -/
theorem PE.any {ι : Type} {e : Expr} {t : ι → TE} (S : ι → Prop) (h : ∀ i, S i → PE X e (t i)) : PE X e (fun σ H Q => ∃ i, S i ∧ t i σ H Q) := ⟨fun pins s σ H Q I ⟨i, hi, q⟩ => (h i hi).run pins s σ H Q I q⟩
end
end RA

set_option Elab.async false
set_option linter.all false
set_option maxRecDepth 100000
set_option maxHeartbeats 4000000
/-! The head's facts: He.Fa and He.DefD, further facts of classes, dicts of the top with their items. -/
namespace RB
open PySem PySem.Spec PyProof.Rows L2 He
/-- what isinstance asks of a value's own class -/
structure TyC (K : PySem.W.Frag) (C : Addr) : Prop where
  ha : PySem.W.findIn K (.ref C) "__class__" = some (some (.builtin "object.__class__"))
  hn : PySem.W.specialIn K (.builtin "object.__class__") "__get__" = some (some (.builtin "getset_descriptor.__get__"))
  ht : PySem.W.takesIn K (.builtin "object.__class__") = some true
  hm : PySem.W.mroIn K C (.type "object") = some true
/-- an own class of errors, over ValueError, whose __init__ keeps one field -/
structure ExcF (K : PySem.W.Frag) (C : Addr) (f : Str) : Prop where
  ox : OexC K C
  no : PySem.W.findIn K (.ref C) f = some none
  ini : PySem.W.findIn K (.ref C) "__init__" = some (some (.ref (ma K C "__init__")))
  ty : PySem.W.typeIn K (.ref (ma K C "__init__")) = some (.type "function")
  xf : XfC K C
def clsB (K : PySem.W.Frag) (C : Addr) : Bool := match K.lookup C with
  | some ⟨.type t, _, .cls cd, sl⟩ => decide (t = "type") && (match cd.mro, sl.toList with
    | .ref C' :: bm, [_, _, _, _, some (.builtin n), _] => decide (C' = C) && (decide (n = "ValueError.__new__") && (!cd.hasDel && (cd.hasDict && PySem.HandSPX.refsVE bm)))
    | _, _ => false)
  | _ => false
def oexB (K : PySem.W.Frag) (C : Addr) : Bool := clsB K C && (eqO (PySem.W.findIn K (.ref C) "__setattr__") (some (some (.builtin "object.__setattr__"))) && (decide (PySem.W.subIn K (.ref C) (.type "BaseException") = some true) && (decide (PySem.W.typeIn K (.ref C) = some (.type "type")) && PySem.W.keepIn K (.ref C))))
theorem oexB_ok {K : PySem.W.Frag} {C : Addr} (h : oexB K C = true) : OexC K C := by
  obtain ⟨h1, h⟩ := ba h
  obtain ⟨h2, h⟩ := ba h
  obtain ⟨h3, h⟩ := ba h
  obtain ⟨h4, h5⟩ := ba h
  refine ⟨?_, eqO_ok h2, of_decide_eq_true h3, of_decide_eq_true h4, h5⟩
  unfold clsB at h1
  split at h1
  · rename_i t dd cd sl ho
    obtain ⟨ht, h1⟩ := ba h1
    split at h1
    · rename_i C' bm k0 k1 k2 k3 n k5 hm hs
      obtain ⟨e1, h1⟩ := ba h1
      obtain ⟨e2, h1⟩ := ba h1
      obtain ⟨e3, h1⟩ := ba h1
      obtain ⟨e4, e5⟩ := ba h1
      have e1 := of_decide_eq_true e1
      have e2 := of_decide_eq_true e2
      have ht := of_decide_eq_true ht
      subst e1 e2 ht
      obtain ⟨nm, bs, mro, ns, qn, hd, sn, sub, ab, col, del⟩ := cd
      dsimp only at hm e3 e4
      subst hm e4
      have e3 : del = false := by cases del with
        | false => rfl
        | true => cases e3
      subst e3
      have hsl : sl = #[k0, k1, k2, k3, some (.builtin "ValueError.__new__"), k5] := by
        obtain ⟨l⟩ := sl
        dsimp only at hs
        rw [hs]
      subst hsl
      exact ⟨nm, qn, ns, bs, bm, sn, sub, ab, col, dd, k0, k1, k2, k3, k5, ho, e5⟩
    · cases h1
  · cases h1
inductive Fx where
  | exc (x f : Str)
  | exm (x y : Str) (b : Bool)
  | pl (x : Str)
  | sub (x y : Str)
  | cf (x m : Str)
  | ty (x : Str)
  | kit (x y : Str) (b : Bool)
  | kib (n : String) (y : Str) (b : Bool)
  | dtup (p : Str × Option Str) (i : Nat)
  | kiy (x : Str) (n : String) (b : Bool)
  | ktup (x : Str) (zs : List Str)
  | ktupi (x : Str) (ns : List Int)
  | ktn (x : Str)
/-- these values are these texts -/
def strsB : List Value → List Str → Bool
  | [], [] => true
  | .str a _ :: r, z :: zs => decide (a = z) && strsB r zs
  | _, _ => false
/-- these values are these numbers -/
def intsB : List Value → List Int → Bool
  | [], [] => true
  | .int a _ :: r, z :: zs => decide (a = z) && intsB r zs
  | _, _ => false
def Fx.ok (K : PySem.W.Frag) : Fx → Bool
  | .exc x f => oexB K (ga K x) && (eqO (PySem.W.findIn K (.ref (ga K x)) f) (some none) && (decide (PySem.W.findIn K (.ref (ga K x)) "__init__" = some (some (.ref (ma K (ga K x) "__init__")))) && (decide (PySem.W.typeIn K (.ref (ma K (ga K x) "__init__")) = some (.type "function")) && xfB K (ga K x))))
  | .exm x y b => decide (PySem.W.exmOne K (.ref (ga K x)) (.ref (ga K y)) = some b)
  | .pl x => decide (PySem.W.mroIn K (ga K x) (.type "object") = some true) && (eqO (PySem.W.findIn K (.ref (ga K x)) "__eq__") (some (some (.builtin "object.__eq__"))) && eqO (PySem.W.findIn K (.ref (ga K x)) "__ne__") (some (some (.builtin "object.__ne__"))))
  | .sub x y => decide (ga K x = ga K y) || (PySem.W.subIn K (.ref (ga K y)) (.ref (ga K x))).isSome
  | .cf x m => eqO (PySem.W.specialIn K (.ref (ga K x)) "__getattribute__") (some (some (.builtin "type.__getattribute__"))) && (PySem.W.readsIn K (ga K x) (.type "type") && ((match PySem.W.findCls K (.ref (ga K x)) (.type "type") m with
    | some (.val (.ref f)) => decide (f = ma K (ga K x) m)
    | _ => false) && PySem.W.keepIn K (.ref (ma K (ga K x) m))))
  | .ty x => eqO (PySem.W.findIn K (.ref (ga K x)) "__class__") (some (some (.builtin "object.__class__"))) && (eqO (PySem.W.specialIn K (.builtin "object.__class__") "__get__") (some (some (.builtin "getset_descriptor.__get__"))) && (decide (PySem.W.takesIn K (.builtin "object.__class__") = some true) && decide (PySem.W.mroIn K (ga K x) (.type "object") = some true)))
  | .kit x y b => decide (PySem.W.kitOne K (.ref (ga K x)) (.ref (ga K y)) = some b)
  | .kib n y b => decide (PySem.W.kitOne K (.type n) (.ref (ga K y)) = some b)
  | .ktup x zs => decide (zs.length ≤ 1000) && (match K.lookup (ga K x) with
    | some ⟨.type c, _, .seq its _, _⟩ => decide (c = "tuple") && strsB its.toList zs
    | _ => false)
  | .ktupi x zs => decide (zs.length ≤ 1000) && (match K.lookup (ga K x) with
    | some ⟨.type c, _, .seq its _, _⟩ => decide (c = "tuple") && intsB its.toList zs
    | _ => false)
  | .ktn x => (match K.lookup (ga K x) with
    | some ⟨.type c, none, _, _⟩ => decide (c = "tuple")
    | _ => false)
  | .kiy x n b => decide (PySem.W.kitOne K (.ref (ga K x)) (.type n) = some b)
  | .dtup p i => (match K.lookup (dflAt p i K) with
    | some ⟨.type c, _, .seq its _, _⟩ => decide (c = "tuple") && its.isEmpty
    | _ => false)
section
variable {K : PySem.W.Frag}
theorem exc_ok {x f : Str} (c : (Fx.exc x f).ok K = true) : ExcF K (ga K x) f := by
  obtain ⟨c1, c⟩ := ba c
  obtain ⟨c2, c⟩ := ba c
  obtain ⟨c3, c⟩ := ba c
  obtain ⟨c4, c5⟩ := ba c
  exact ⟨oexB_ok c1, eqO_ok c2, of_decide_eq_true c3, of_decide_eq_true c4, xfB_ok c5⟩
theorem exm_ok {x y : Str} {b : Bool} (c : (Fx.exm x y b).ok K = true) : PySem.W.exmOne K (.ref (ga K x)) (.ref (ga K y)) = some b := of_decide_eq_true c
theorem pl_ok {x : Str} (c : (Fx.pl x).ok K = true) : RA.PlainC K (ga K x) := by
  obtain ⟨c1, c⟩ := ba c
  obtain ⟨c2, c3⟩ := ba c
  exact ⟨of_decide_eq_true c1, eqO_ok c2, eqO_ok c3⟩
theorem sub_ok {x y : Str} (c : (Fx.sub x y).ok K = true) : RA.PairC K (ga K x) (ga K y) := by
  rcases Bool.or_eq_true_iff.mp c with c | c
  · exact .inl (of_decide_eq_true c)
  · exact .inr (Option.isSome_iff_exists.mp c)
theorem cf_ok {x m : Str} (c : (Fx.cf x m).ok K = true) : RA.CFun K (ga K x) m (ma K (ga K x) m) := by
  obtain ⟨c1, c⟩ := ba c
  obtain ⟨c2, c⟩ := ba c
  obtain ⟨c3, c4⟩ := ba c
  refine ⟨eqO_ok c1, c2, ?_, c4⟩
  cases e : PySem.W.findCls K (.ref (ga K x)) (.type "type") m with
  | none => rw [e] at c3; cases c3
  | some r =>
    rw [e] at c3
    cases r with
    | get _ _ _ _ => cases c3
    | val v =>
      cases v with
      | ref f => rw [of_decide_eq_true c3]
      | _ => cases c3
theorem ty_ok {x : Str} (c : (Fx.ty x).ok K = true) : TyC K (ga K x) := by
  obtain ⟨c1, c⟩ := ba c
  obtain ⟨c2, c⟩ := ba c
  obtain ⟨c3, c4⟩ := ba c
  exact ⟨eqO_ok c1, eqO_ok c2, of_decide_eq_true c3, of_decide_eq_true c4⟩
theorem kit_ok {x y : Str} {b : Bool} (c : (Fx.kit x y b).ok K = true) : PySem.W.kitOne K (.ref (ga K x)) (.ref (ga K y)) = some b := of_decide_eq_true c
theorem kiy_ok {x : Str} {n : String} {b : Bool} (c : (Fx.kiy x n b).ok K = true) : PySem.W.kitOne K (.ref (ga K x)) (.type n) = some b := of_decide_eq_true c
theorem kib_ok {n : String} {y : Str} {b : Bool} (c : (Fx.kib n y b).ok K = true) : PySem.W.kitOne K (.type n) (.ref (ga K y)) = some b := of_decide_eq_true c
theorem dtup_ok {p : Str × Option Str} {i : Nat} (h : (Fx.dtup p i).ok K = true) (H : Hp) : SqT K H (dflAt p i K) [] := by
  have h1 : (match K.lookup (dflAt p i K) with
    | some ⟨.type c, _, .seq its _, _⟩ => decide (c = "tuple") && its.isEmpty
    | _ => false) = true := h
  cases q : K.lookup (dflAt p i K) with
  | none => rw [q] at h1; cases h1
  | some o =>
    obtain ⟨oc, od, dt, osl⟩ := o
    rw [q] at h1
    cases oc with
    | type c =>
      cases dt with
      | seq its n =>
        obtain ⟨h2, h3⟩ := ba (show (decide (c = "tuple") && its.isEmpty) = true from h1)
        have e3 : its = #[] := Array.isEmpty_iff.mp h3
        subst e3
        exact .inr ⟨_, #[], n, q, congrArg Value.type (of_decide_eq_true h2), rfl, Nat.zero_le _, .nil⟩
      | _ => cases h1
    | _ => cases dt <;> cases h1
theorem strs_vals : ∀ {us : List Value} {zs : List Str}, strsB us zs = true → Vals (zs.map V.str) us
  | [], [], _ => .nil
  | .str a t :: r, z :: zs, h => by
    obtain ⟨h1, h2⟩ := ba (show (decide (a = z) && strsB r zs) = true from h)
    obtain rfl := of_decide_eq_true h1
    exact .cons ⟨t, rfl⟩ (strs_vals h2)
theorem ktup_ok {x : Str} {zs : List Str} (h : (Fx.ktup x zs).ok K = true) (H : Hp) : SqT K H (ga K x) (zs.map V.str) := by
  obtain ⟨h0, h⟩ := ba h
  have h1 : (match K.lookup (ga K x) with
    | some ⟨.type c, _, .seq its _, _⟩ => decide (c = "tuple") && strsB its.toList zs
    | _ => false) = true := h
  cases q : K.lookup (ga K x) with
  | none => rw [q] at h1; cases h1
  | some o =>
    obtain ⟨oc, od, dt, osl⟩ := o
    rw [q] at h1
    cases oc with
    | type c =>
      cases dt with
      | seq its n =>
        obtain ⟨h2, h3⟩ := ba (show (decide (c = "tuple") && strsB its.toList zs) = true from h1)
        have hv := strs_vals h3
        refine .inr ⟨_, its, n, q, congrArg Value.type (of_decide_eq_true h2), rfl, ?_, hv⟩
        have hl := hv.length
        have hz := of_decide_eq_true h0
        rw [List.length_map] at hl
        have : its.size = zs.length := by rw [← Array.length_toList]; omega
        rw [this, sizeLine_eq]; omega
      | _ => cases h1
    | _ => cases dt <;> cases h1
theorem ints_vals : ∀ {us : List Value} {zs : List Int}, intsB us zs = true → Vals (zs.map V.int) us
  | [], [], _ => .nil
  | .int a t :: r, z :: zs, h => by
    obtain ⟨h1, h2⟩ := ba (show (decide (a = z) && intsB r zs) = true from h)
    obtain rfl := of_decide_eq_true h1
    exact .cons ⟨t, rfl⟩ (ints_vals h2)
theorem ktn_ok {x : Str} (h : (Fx.ktn x).ok K = true) : ∃ o, K.lookup (ga K x) = some o ∧ o.cls = .type "tuple" ∧ o.dict = none := by
  have h1 : (match K.lookup (ga K x) with
    | some ⟨.type c, none, _, _⟩ => decide (c = "tuple")
    | _ => false) = true := h
  cases q : K.lookup (ga K x) with
  | none => rw [q] at h1; cases h1
  | some o =>
    obtain ⟨oc, od, dt, osl⟩ := o
    rw [q] at h1
    cases oc with
    | type c =>
      cases od with
      | none => exact ⟨_, rfl, by rw [of_decide_eq_true h1], rfl⟩
      | some d => cases h1
    | _ => cases od <;> cases h1
theorem ktupi_ok {x : Str} {zs : List Int} (h : (Fx.ktupi x zs).ok K = true) (H : Hp) : SqT K H (ga K x) (zs.map V.int) := by
  obtain ⟨h0, h⟩ := ba h
  have h1 : (match K.lookup (ga K x) with
    | some ⟨.type c, _, .seq its _, _⟩ => decide (c = "tuple") && intsB its.toList zs
    | _ => false) = true := h
  cases q : K.lookup (ga K x) with
  | none => rw [q] at h1; cases h1
  | some o =>
    obtain ⟨oc, od, dt, osl⟩ := o
    rw [q] at h1
    cases oc with
    | type c =>
      cases dt with
      | seq its n =>
        obtain ⟨h2, h3⟩ := ba (show (decide (c = "tuple") && intsB its.toList zs) = true from h1)
        have hv := ints_vals h3
        refine .inr ⟨_, its, n, q, congrArg Value.type (of_decide_eq_true h2), rfl, ?_, hv⟩
        have hl := hv.length
        have hz := of_decide_eq_true h0
        rw [List.length_map] at hl
        have : its.size = zs.length := by rw [← Array.length_toList]; omega
        rw [this, sizeLine_eq]; omega
      | _ => cases h1
    | _ => cases dt <;> cases h1
theorem TyC.tyx {C a dx : Addr} {H : Hp} {fs : List (Str × V)} (t : TyC K C) (c : Cls K C) (e : H a = some (.ins C dx fs)) : TyX K H (.ref a) (.ref C) := .base (.ins e c t.ha t.hn t.ht t.hm)
end
/-! ### dicts of the top -/
def keyE (e : DictEntry) : Option (Key × Int) := match e.key with
  | .int i _ => some (Sum.inl i, e.hash)
  | .str x _ => some (Sum.inr x, e.hash)
  | _ => none
def keyHP (P : Params) : Key → Int
  | .inl i => hashInt i
  | .inr x => PyData.keyHash P x
abbrev Tb : Type := Str × List (Key × Dv)
def tbRow (K : PySem.W.Frag) (x : Str) : Option (List (Option (Key × Int))) := match K.lookup (ga K x) with
  | some ⟨.type c, none, .dict es _, sl⟩ => (match decide (c = "dict") && (sl.isEmpty && !(ga K x == sysModules)) with
    | true => some (es.toList.map keyE)
    | false => none)
  | _ => none
def tbWant (P : Params) (kvs : List (Key × Dv)) : Option (List (Option (Key × Int))) := some (kvs.map fun q => some (q.1, keyHP P q.1))
def tbVals (K : PySem.W.Frag) (t : Tb) : Bool := decide ((t.2.map (·.1)).Nodup) && (decide (t.2.length ≤ sizeLine) && (match K.lookup (ga K t.1) with
  | some ⟨_, _, .dict es _, _⟩ => relAll (t.2.map fun q => q.2.v K) (es.toList.map (·.val))
  | _ => false))
/-- a dict of the top with these items -/
structure KD (P : Program) (w : World) (K : PySem.W.Frag) (a : Addr) (kvs : List (Key × V)) : Prop where
  low : (a == sysModules) = false
  len : kvs.length ≤ sizeLine
  at_ : ∃ vs, KV kvs vs ∧ ∀ h : Heap, K.In h → h.DictOf (mixKind P w) a vs
theorem rows_pairs {P : Program} {w : World} : ∀ {es : List DictEntry} {kvs : List (Key × V)}, es.map keyE = kvs.map (fun q => some (q.1, keyHP w.params q.1)) → relAll (kvs.map (·.2)) (es.map (·.val)) = true →
    ∃ vs, KV kvs vs ∧ Pairs (mixKind P w) es vs ∧ vs.map (·.1) = kvs.map (·.1) ∧ ∀ e ∈ es, ∃ k, (mixKind P w).is k e.key = true ∧ e.hash = (mixKind P w).hash k
  | [], [], _, _ => ⟨[], .nil, .nil, rfl, fun _ h => nomatch h⟩
  | [], _ :: _, h, _ => by cases h
  | _ :: _, [], h, _ => by cases h
  | e :: es, q :: kvs, h, hv => by
    rw [List.map_cons, List.map_cons] at h
    injection h with h1 h2
    obtain ⟨v1, v2⟩ := ba (show (relB q.2 e.val && relAll (kvs.map (·.2)) (es.map (·.val))) = true from hv)
    obtain ⟨vs, r, p, n, kk⟩ := rows_pairs (P := P) h2 v2
    have key : (mixKind P w).is q.1 e.key = true ∧ e.hash = (mixKind P w).hash q.1 := by
      unfold keyE at h1
      split at h1
      · rename_i i t ek
        have h3 := Prod.mk.inj (Option.some.inj h1)
        rw [← h3.1, ek]
        refine ⟨mixKind_int P w i t, ?_⟩
        rw [h3.2, ← h3.1]; rfl
      · rename_i x t ek
        have h3 := Prod.mk.inj (Option.some.inj h1)
        rw [← h3.1, ek]
        refine ⟨mixKind_str P w x t, ?_⟩
        rw [h3.2, ← h3.1]; rfl
      · cases h1
    refine ⟨(q.1, e.val) :: vs, .cons ⟨rfl, relB_ok v1⟩ r, .cons key.1 rfl p, by rw [List.map_cons, List.map_cons, n], fun e' he => ?_⟩
    rcases List.mem_cons.mp he with rfl | he
    · exact ⟨q.1, key⟩
    · exact kk e' he
theorem kd_of {P : Program} {w : World} {K : PySem.W.Frag} {t : Tb} (h1 : tbRow K t.1 = tbWant w.params t.2) (h2 : tbVals K t = true) : KD P w K (ga K t.1) (t.2.map fun q => (q.1, q.2.v K)) := by
  obtain ⟨nd, h2⟩ := ba h2
  obtain ⟨ln, h2⟩ := ba h2
  unfold tbRow tbWant at h1
  cases q : K.lookup (ga K t.1) with
  | none => rw [q] at h1; cases h1
  | some o =>
    obtain ⟨oc, od, dt, osl⟩ := o
    rw [q] at h1 h2
    cases oc with
    | type c =>
      cases od with
      | none =>
        cases dt with
        | dict es n =>
          have h3 : (match decide (c = "dict") && (osl.isEmpty && !(ga K t.1 == sysModules)) with
            | true => some (es.toList.map keyE)
            | false => none) = some (t.2.map fun q => some (q.1, keyHP w.params q.1)) := h1
          cases z : decide (c = "dict") && (osl.isEmpty && !(ga K t.1 == sysModules)) with
          | false => rw [z] at h3; cases h3
          | true =>
            rw [z] at h3
            obtain ⟨z1, z2⟩ := ba z
            obtain ⟨z3, z4⟩ := ba z2
            have e1 : c = "dict" := of_decide_eq_true z1
            have e2 : osl = #[] := Array.isEmpty_iff.mp z3
            have e3 : (ga K t.1 == sysModules) = false := by
              cases y : (ga K t.1 == sysModules) with
              | false => rfl
              | true => rw [y] at z4; cases z4
            subst e1 e2
            have h4 : es.toList.map keyE = (t.2.map fun q => (q.1, q.2.v K)).map (fun q => some (q.1, keyHP w.params q.1)) := by
              rw [List.map_map]
              exact Option.some.inj h3
            have h5 : relAll ((t.2.map fun q => (q.1, q.2.v K)).map (·.2)) (es.toList.map (·.val)) = true := by
              rw [List.map_map]
              exact h2
            obtain ⟨vs, r, p, nm, kk⟩ := rows_pairs (P := P) h4 h5
            refine ⟨e3, by rw [List.length_map]; exact of_decide_eq_true ln, vs, r, fun h X => ⟨_, es, n, X _ _ q, ⟨rfl, rfl, rfl⟩, rfl, fun e he => kk e (Array.mem_toList_iff.mpr he), p, ?_⟩⟩
            rw [nm, List.map_map]
            exact of_decide_eq_true nd
        | _ => cases h1
      | some d => cases dt <;> cases h1
    | _ => cases od <;> cases dt <;> cases h1
section
variable {X : Cx}
/-- dict(D), D a dict of the top: a new one -/
theorem call_dictK {D : Addr} {kvs : List (Key × V)} (k : KD X.prog X.w X.K D kvs) : CallR X (.type "dict") (fun xs H Q => xs = [.ref D] ∧ ∀ p, H p = none → Q (.ref p) (upd H p (.dK kvs))) := by
  intro pins s σ H xs us Q I r q
  obtain ⟨ex, q⟩ := q
  subst ex
  obtain ⟨u, eu, rx⟩ := vals1 r
  subst eu
  cases rx
  obtain ⟨vs, rel, dd⟩ := k.at_
  refine kt_call_dict k.low (dd _ I.kIn) (by rw [← rel.length]; exact k.len) fun h' d' hs => ?_
  have hm : (s.heap.objs.size == sysModules) = false := beq_eq_false_iff_ne.mpr (Nat.ne_of_gt I.big)
  exact ⟨.ref s.heap.objs.size, upd H s.heap.objs.size (.dK kvs), I.laid (t' := s.toks) (fun b u e => (hs.2 b (Nat.ne_of_lt (Heap.lt_size e))).trans (Heap.get?_push_of_some _ e)) (Nat.le_refl _)
    (show ObjOk X.prog X.w _ _ _ (.dK kvs) from ⟨k.len, hm, vs, rel, d'⟩), rfl, q _ (I.hok.fresh (Nat.le_refl _))⟩
end
/-! ### the Hook -/
abbrev AlB : Type := AlD × List (Option (List (Option (Key × Int)))) × Bool
def obsB (fa : List Fa) (fx : List Fx) (fn : List DefD) (ts : List Tb) (K : PySem.W.Frag) : AlB := (obsD fa fn K, ts.map fun t => tbRow K t.1, (fx.all fun f => f.ok K) && ts.all fun t => tbVals K t)
def valB (fn : List DefD) (ts : List Tb) (w : World) : AlB := (valD fn, ts.map fun t => tbWant w.params t.2, true)
def SaysB (fa : List Fa) (fx : List Fx) (fn : List DefD) (ts : List Tb) (w : World) (K : PySem.W.Frag) : Prop := obsB fa fx fn ts K = valB fn ts w
/-- and the objects that are defaults: one step further, for those alone -/
def extraB (g : Addr → Option Obj) (fx : List Fx) (as : List Addr) : List Addr := cStatics :: (as ++ fx.filterMap fun
  | .dtup p i => some (dflAt p i (frG g as))
  | .ktup x _ => some (ga (frG g as) x)
  | .ktupi x _ => some (ga (frG g as) x)
  | _ => none)
def obsBG (n : Nat) (fa : List Fa) (fx : List Fx) (fn : List DefD) (ts : List Tb) (g : Addr → Option Obj) : AlB := obsB fa fx fn ts (frG g (extraB g fx (asD g n)))
def hookB (n : Nat) (fa : List Fa) (fx : List Fx) (fn : List DefD) (ts : List Tb) : PySem.W.Hook where
  α := AlB
  obs := fun s => obsBG n fa fx fn ts s.heap.get?
  val := fun w => valB fn ts w
  says := fun w h => ∃ K : PySem.W.Frag, K.In h ∧ SaysB fa fx fn ts w K
  of := fun _ _ e => ⟨_, frG_in, e⟩
  keeps := fun _ _ _ ⟨K, hK, c⟩ k => ⟨K, PySem.W.Frag.In.keeps hK k, c⟩
theorem obsBG_eq {n : Nat} {fa : List Fa} {fx : List Fx} {fn : List DefD} {ts : List Tb} {g : Addr → Option Obj} {s : Shared} (h : ∀ a, g a = s.heap.get? a) : obsBG n fa fx fn ts g = (hookB n fa fx fn ts).obs s := by
  have e : g = s.heap.get? := funext h
  rw [e] <;> rfl
section
variable {fa : List Fa} {fx : List Fx} {fn : List DefD} {ts : List Tb} {w : World} {K : PySem.W.Frag}
theorem SaysB.d (c : SaysB fa fx fn ts w K) : SaysD fa fn K := congrArg (fun z : AlB => z.1) c
theorem SaysB.fact (c : SaysB fa fx fn ts w K) (i : Nat) {f : Fa} (h : fa[i]? = some f := by rfl) : f.ok K = true := c.d.fact i h
theorem SaysB.more (c : SaysB fa fx fn ts w K) (i : Nat) {f : Fx} (h : fx[i]? = some f := by rfl) : f.ok K = true := by
  have c1 := (ba (show ((fx.all fun f => f.ok K) && ts.all fun t => tbVals K t) = true from congrArg (fun z : AlB => z.2.2) c)).1
  exact List.all_eq_true.mp c1 f (List.mem_of_getElem? h)
theorem SaysB.tb (c : SaysB fa fx fn ts w K) (i : Nat) {t : Tb} (h : ts[i]? = some t := by rfl) (P : Program) : KD P w K (ga K t.1) (t.2.map fun q => (q.1, q.2.v K)) := by
  have c1 := (ba (show ((fx.all fun f => f.ok K) && ts.all fun t => tbVals K t) = true from congrArg (fun z : AlB => z.2.2) c)).2
  have e : ts.map (fun t => tbRow K t.1) = ts.map fun t => tbWant w.params t.2 := congrArg (fun z : AlB => z.2.1) c
  have e2 : (ts.map fun t => tbRow K t.1)[i]? = (ts.map fun t => tbWant w.params t.2)[i]? := by rw [e]
  rw [List.getElem?_map, List.getElem?_map, h] at e2
  exact kd_of (Option.some.inj e2) (List.all_eq_true.mp c1 t (List.mem_of_getElem? h))
end
end RB

set_option Elab.async false
set_option linter.all false
set_option maxRecDepth 100000
set_option maxHeartbeats 4000000
/-! What a caller needs of a def, in one word; the stream of draws. -/
namespace RC
open PySem PySem.Spec PyProof.Rows L2 He
/-- the def at f may be called with all parameters but the last ones, whose defaults are dvs -/
def Callable (P : Program) (w : World) (K : PySem.W.Frag) (mg : Str → Option Value) (base : Heap) (k : Nat) (f : Addr) (ps : List Str) (dvs : List V) (sp : Sp) : Prop :=
  ∃ fd ds, FnOk P w K mg base CX0 k f fd ps sp ∧ Vals dvs ds ∧ Binds K fd ps ds ∧ PySem.W.keepIn K (.ref f) = true
section
variable {X : Cx} {k : Nat} {f C : Addr} {ps : List Str} {sp : Sp} {dvs : List V} {x m : Str} {p pos apos : Pos} {e o : Expr} {es : List Expr} {ta : TE} {t : TA} {pl : Sem Bool}
theorem pe_fn (hm : X.mg x = some (.ref f)) (c : Callable X.prog X.w X.K X.mg X.base k f ps dvs sp) (hr : Room k X.A) (hg : Gl X x) (ha : PA X (e :: es) t) (hdb : (x == ("__debug__" : Str)) = false := by decide)
    (he : starEach (e :: es) X.env = (false, eval e X.env) :: starEach es X.env := by rfl) (hpl : (backTo pos (starEach es X.env)).any (·.1) = false := by rfl) : PE X (.Call (.Name x p) (e :: es) [] pos) (tCall sp dvs E0 t) := by
  obtain ⟨fd, ds, F, hd, hb, hk⟩ := c
  exact pe_call F hr hg hm hk hb hd pass0 ha hdb he hpl
theorem pe_fn0 (hm : X.mg x = some (.ref f)) (c : Callable X.prog X.w X.K X.mg X.base k f ps dvs sp) (hr : Room k X.A) (hg : Gl X x) (hdb : (x == ("__debug__" : Str)) = false := by decide) : PE X (.Call (.Name x p) [] [] pos) (tCall sp dvs E0 tNil) := by
  obtain ⟨fd, ds, F, hd, hb, hk⟩ := c
  exact pe_call0 F hr hg hm hk hb hd pass0 hdb
theorem pe_mt (cl : Cls X.K C) (hm : Meth X.K C m f) (c : Callable X.prog X.w X.K X.mg X.base k f ps dvs sp) (hr : Room k X.A) (he : PE X o ta) (ha : PA X (e :: es) t)
    (hst : starEach (e :: es) X.env = (false, eval e X.env) :: starEach es X.env := by rfl) (hpl : (backTo pos (starEach es X.env)).any (·.1) = false := by rfl)
    (ht : eval (.Call (.Attribute o m apos) (e :: es) [] pos) X.env = (do
      let ov ← eval o X.env
      standAt apos.atName
      let (f, first) ← holding [ov] (getMethod ov m pl)
      callWith pos f first (backTo pos (starEach (e :: es) X.env)) (backToKw pos (keywordEach [] X.env))) := by rfl) :
    PE X (.Call (.Attribute o m apos) (e :: es) [] pos) (tMeth C m sp dvs E0 ta t) := by
  obtain ⟨fd, ds, F, hd, hb, hk⟩ := c
  exact pe_meth he cl hm F hr hb hd pass0 ha hst hpl ht
theorem pe_mt0 (cl : Cls X.K C) (hm : Meth X.K C m f) (c : Callable X.prog X.w X.K X.mg X.base k f ps dvs sp) (hr : Room k X.A) (he : PE X o ta)
    (ht : eval (.Call (.Attribute o m apos) [] [] pos) X.env = (do
      let ov ← eval o X.env
      standAt apos.atName
      let (f, first) ← holding [ov] (getMethod ov m pl)
      callWith pos f first (backTo pos (starEach [] X.env)) (backToKw pos (keywordEach [] X.env))) := by rfl) :
    PE X (.Call (.Attribute o m apos) [] [] pos) (tMeth C m sp dvs E0 ta tNil) := by
  obtain ⟨fd, ds, F, hd, hb, hk⟩ := c
  exact pe_meth0 he cl hm F hr hb hd pass0 ht
theorem pe_mk (M : Mk X.K C f) (hm : X.mg x = some (.ref C)) (c : Callable X.prog X.w X.K X.mg X.base k f ps dvs sp) (hr : Room (k + 1) X.A) (hg : Gl X x) (ha : PA X (e :: es) t) (hdb : (x == ("__debug__" : Str)) = false := by decide)
    (he : starEach (e :: es) X.env = (false, eval e X.env) :: starEach es X.env := by rfl) (hpl : (backTo pos (starEach es X.env)).any (·.1) = false := by rfl) : PE X (.Call (.Name x p) (e :: es) [] pos) (tMake C sp dvs E0 t) := by
  obtain ⟨fd, ds, F, hd, hb, hk⟩ := c
  exact pe_make M F hr hg hm hb hd pass0 ha hdb he hpl
theorem pe_mk0 (M : Mk X.K C f) (hm : X.mg x = some (.ref C)) (c : Callable X.prog X.w X.K X.mg X.base k f ps dvs sp) (hr : Room (k + 1) X.A) (hg : Gl X x) (hdb : (x == ("__debug__" : Str)) = false := by decide) : PE X (.Call (.Name x p) [] [] pos) (tMake C sp dvs E0 tNil) := by
  obtain ⟨fd, ds, F, hd, hb, hk⟩ := c
  exact pe_make0 M F hr hg hm hb hd pass0 hdb
theorem pe_cf (cf : RA.CFun X.K C m f) (c : Callable X.prog X.w X.K X.mg X.base k f ps dvs sp) (hr : Room k X.A) (he : PE X o ta) (ha : PA X (e :: es) t)
    (hst : starEach (e :: es) X.env = (false, eval e X.env) :: starEach es X.env := by rfl) (hpl : (backTo pos (starEach es X.env)).any (·.1) = false := by rfl)
    (ht : eval (.Call (.Attribute o m apos) (e :: es) [] pos) X.env = (do
      let ov ← eval o X.env
      standAt apos.atName
      let (f, first) ← holding [ov] (getMethod ov m pl)
      callWith pos f first (backTo pos (starEach (e :: es) X.env)) (backToKw pos (keywordEach [] X.env))) := by rfl) :
    PE X (.Call (.Attribute o m apos) (e :: es) [] pos) (RA.tCFun C sp dvs E0 ta t) := by
  obtain ⟨fd, ds, F, hd, hb, hk⟩ := c
  exact RA.pe_cfun he cf F hr hb hd pass0 ha hst hpl ht
end
section
variable {P : Program} {w : World} {K : PySem.W.Frag} {mg : Str → Option Value} {base : Heap} {x qual : Str} {params : Arguments} {body : List Stmt} {scope : Scope} {dvs : List V} {f : Addr} {k : Nat} {N ps : List Str} {sp : Sp}
/-- a def that stands there -/
def Stands (K : PySem.W.Frag) (x qual : Str) (st : Stmt) (dvs : List V) (f : Addr) : Prop := ∃ fd, FunD K x qual (defArgs st) (defBody st) (defScope st) dvs [] f fd
/-- THE RULE for a def, whatever its defaults: what it promises of every call; bind: how its arguments bind with the first n parameters given -/
theorem Stands.call {st : Stmt} (F : Stands K x qual st dvs f) (S : FnScope N ps (defScope st)) (n j : Nat) (len : ∀ vs H Q E, sp vs H Q E → vs.length = ps.length)
    (hbody : ∀ (cdv : Value) (A : Around) (outer : List Env) (s : Shared) (H : Hp) (vs : List V) (Q : VK) (E : XK), Room k (A.deeper (envOfC qual (defScope st) s.heap.objs.size f cdv)) → sp vs H Q E →
      ∃ t, PSs (cxOf CX0 P w K mg base N qual (defScope st) f cdv A outer s H E).nox (defBody st) t ∧ t { nx := fun _ H' => Q .non H', rt := Q } (start N vs) H)
    (h0 : dvs = [] → n = ps.length ∧ ∀ (kV doc pm : Value) (an : Option Addr) (cdv ct : Value) (us : List Value), us.length = ps.length → bindArgs (PySem.W.fnOf x qual (defArgs st) (defBody st) (defScope st) .none kV doc pm an cdv ct) ⟨us, []⟩ = pure (ps.zip us))
    (h1 : dvs ≠ [] → n + (dvs.length - j) = ps.length ∧ ∀ (T : Addr) (kV doc pm : Value) (an : Option Addr) (cdv ct : Value) (us its : List Value), us.length = n → its.length = dvs.length →
      ∃ k, bindArgs (PySem.W.fnOf x qual (defArgs st) (defBody st) (defScope st) (.ref T) kV doc pm an cdv ct) ⟨us, []⟩ = seqItems? (.ref T) >>= k ∧ k (some its.toArray) = pure (ps.zip (us ++ its.drop j))) :
    Callable P w K mg base (k + 1) f ps (dvs.drop j) sp := by
  obtain ⟨fd, F⟩ := F
  have ok : FnOk P w K mg base CX0 (k + 1) f fd ps sp := F.ok S len fun cdv A outer s H vs Q E hr hsp => by
    obtain ⟨t, h, q⟩ := hbody cdv A outer s H vs Q E hr hsp
    exact ⟨t, h.nox, q⟩
  by_cases hd : dvs = []
  · subst hd
    exact ⟨fd, [], ok, by rw [List.drop_nil]; exact .nil, F.bindsN (h0 rfl).2, F.kp⟩
  · obtain ⟨ds, hv, hb⟩ := F.binds1 n j hd (h1 hd).1 (h1 hd).2
    exact ⟨fd, ds, ok, hv, hb, F.kp⟩
/-- no defaults -/
theorem Stands.call0 {st : Stmt} (F : Stands K x qual st [] f) (S : FnScope N ps (defScope st)) (len : ∀ vs H Q E, sp vs H Q E → vs.length = ps.length)
    (hbody : ∀ (cdv : Value) (A : Around) (outer : List Env) (s : Shared) (H : Hp) (vs : List V) (Q : VK) (E : XK), Room k (A.deeper (envOfC qual (defScope st) s.heap.objs.size f cdv)) → sp vs H Q E →
      ∃ t, PSs (cxOf CX0 P w K mg base N qual (defScope st) f cdv A outer s H E).nox (defBody st) t ∧ t { nx := fun _ H' => Q .non H', rt := Q } (start N vs) H)
    (h0 : ∀ (kV doc pm : Value) (an : Option Addr) (cdv ct : Value) (us : List Value), us.length = ps.length → bindArgs (PySem.W.fnOf x qual (defArgs st) (defBody st) (defScope st) .none kV doc pm an cdv ct) ⟨us, []⟩ = pure (ps.zip us)) :
    Callable P w K mg base (k + 1) f ps [] sp := by
  obtain ⟨fd, F⟩ := F
  have ok : FnOk P w K mg base CX0 (k + 1) f fd ps sp := F.ok S len fun cdv A outer s H vs Q E hr hsp => by
    obtain ⟨t, h, q⟩ := hbody cdv A outer s H vs Q E hr hsp
    exact ⟨t, h.nox, q⟩
  exact ⟨fd, [], ok, .nil, F.bindsN h0, F.kp⟩
theorem Callable.imp {sp' : Sp} {dv : List V} (c : Callable P w K mg base k f ps dv sp) (h : ∀ vs H Q E, sp' vs H Q E → sp vs H Q E) : Callable P w K mg base k f ps dv sp' :=
  let ⟨fd, ds, F, r⟩ := c
  ⟨fd, ds, F.imp h, r⟩
theorem Callable.up {j : Nat} {dv : List V} (c : Callable P w K mg base j f ps dv sp) (h : j ≤ k) : Callable P w K mg base k f ps dv sp :=
  let ⟨fd, ds, F, r⟩ := c
  ⟨fd, ds, F.mono h, r⟩
end
/-! ### heaps -/
theorem same_new {H : Hp} {p : Addr} (h : H p = none) (o : HO) : Same H (upd H p o) := fun b u q => by rw [upd_ne (ne_of_none q h)]; exact q
theorem _root_.L2.Same.seqT {K : PySem.W.Frag} {H H' : Hp} {a : Addr} {xs : List V} (e : Same H H') (h : SqT K H a xs) : SqT K H' a xs := by
  rcases h with (h | ⟨o, h⟩) | h
  · exact .inl (.inl (e _ _ h))
  · exact .inl (.inr ⟨o, e _ _ h⟩)
  · exact .inr h
theorem upd_none {H : Hp} {a p : Addr} {o : HO} (h : upd H a o p = none) : p ≠ a ∧ H p = none := by
  by_cases e : p = a
  · subst e; rw [upd_same] at h; cases h
  · rw [upd_ne e] at h; exact ⟨e, h⟩
/-! ### the stream of draws -/
/-- the law's stream at s: its list of ints at l, the number at hand, how many were made up, the seed; n: a bound of those made up -/
def Stm (H : Hp) (s l : Addr) (n : Nat) : Prop := s ≠ l ∧ ∃ (ns : List Int) (x c d : Int), H s = some (.lst [.ref l, .int x, .int c, .int d]) ∧ H l = some (.lst (ns.map V.int)) ∧ ns.length ≤ 63 ∧ 0 ≤ x ∧ 0 ≤ c ∧ c ≤ n ∧ 0 ≤ d ∧ d < 2147483647
theorem Stm.mono {H : Hp} {s l : Addr} {n m : Nat} (h : Stm H s l n) (k : n ≤ m) : Stm H s l m := by
  obtain ⟨ne, ns, x, c, d, h1, h2, h3, h4, h5, h6, h7, h8⟩ := h
  exact ⟨ne, ns, x, c, d, h1, h2, h3, h4, h5, by omega, h7, h8⟩
theorem Stm.same {H H' : Hp} {s l : Addr} {n : Nat} (h : Stm H s l n) (k : Same H H') : Stm H' s l n := by
  obtain ⟨ne, ns, x, c, d, h1, h2, h3⟩ := h
  exact ⟨ne, ns, x, c, d, k _ _ h1, k _ _ h2, h3⟩
/-- all but the stream is as it was -/
def But (s l : Addr) (H H' : Hp) : Prop := ∀ b, b ≠ s → b ≠ l → H' b = H b
/-- all that was there but the stream is as it was -/
def Old (s l : Addr) (H H' : Hp) : Prop := ∀ b o, b ≠ s → b ≠ l → H b = some o → H' b = some o
theorem But.old {s l : Addr} {H H' : Hp} (h : But s l H H') : Old s l H H' := fun b o h1 h2 e => by rw [h b h1 h2]; exact e
theorem Old.refl {s l : Addr} (H : Hp) : Old s l H H := fun _ _ _ _ e => e
theorem Old.trans {s l : Addr} {H H1 H2 : Hp} (a : Old s l H H1) (b : Old s l H1 H2) : Old s l H H2 := fun c o h1 h2 e => b c o h1 h2 (a c o h1 h2 e)
theorem Old.of_same {s l : Addr} {H H' : Hp} (h : Same H H') : Old s l H H' := fun b o _ _ e => h b o e
section
variable {X : Cx} {x : Str} {pos : Pos}
theorem pe_gi {i : Int} (hg : Gl X x) (hm : ∃ t, X.mg x = some (.int i t)) (hd : (x == ("__debug__" : Str)) = false := by decide) : PE X (.Name x pos) (tC (.int i)) := by
  obtain ⟨t, h⟩ := hm
  exact pe_glob hg h ⟨t, rfl⟩ (by first | assumption | exact hd)
theorem pe_gs {z : Str} (hg : Gl X x) (hm : ∃ t, X.mg x = some (.str z t)) (hd : (x == ("__debug__" : Str)) = false := by decide) : PE X (.Name x pos) (tC (.str z)) := by
  obtain ⟨t, h⟩ := hm
  exact pe_glob hg h ⟨t, rfl⟩ (by first | assumption | exact hd)
end
/-! ### in a comprehension's block the written part is the def's own: rules that name it -/
section
variable {X : Cx} {K : PySem.W.Frag}
theorem opK (r : PySem.W.Frag → R2) {f : Value → Value → Sem Value} (h : OpR X f (r X.K)) (e : X.K = K := by rfl) : OpR X f (r K) := e ▸ h
theorem callK (r : PySem.W.Frag → List V → Hp → VK → Prop) {f : Value} (h : CallR X f (r X.K)) (e : X.K = K := by rfl) : CallR X f (r K) := e ▸ h
theorem ixK (r : PySem.W.Frag → R2) (h : IxR X (r X.K)) (e : X.K = K := by rfl) : IxR X (r K) := e ▸ h
theorem pe_fldK {e : Expr} {f : Str} {pos : Pos} {ta : TE} (he : PE X e ta) (hb : attributeBase e f X.env (eval e X.env) = eval e X.env) (z : X.K = K := by rfl) : PE X (.Attribute e f pos) (tFld K ta f) := z ▸ pe_fld he hb
end
/-- an expression that is never reached -/
def tNo : TE := fun _ _ _ => False
theorem pe_never {X : Cx} {e : Expr} : PE X e tNo := ⟨fun _ _ _ _ _ _ h => h.elim⟩
def tNoT : TT := fun _ _ _ => False
theorem pt_never {X : Cx} {e : Expr} : PT X e tNoT := ⟨fun _ _ _ _ _ _ h => h.elim⟩
theorem tyx_tup {K : PySem.W.Frag} {H : Hp} {a : Addr} {xs : List V} (h : SqT K H a xs) : TyX K H (.ref a) (.type "tuple") := by
  rcases h with (h | ⟨o, h⟩) | ⟨o, its, n, h, c, _⟩
  · exact .base (.tup h)
  · exact .fTuple h
  · exact .kTuple h c
theorem tyx_lst {K : PySem.W.Frag} {H : Hp} {a : Addr} {xs : List V} (h : SqL K H a xs) : TyX K H (.ref a) (.type "list") := by
  rcases h with (h | ⟨o, h⟩) | ⟨o, its, n, h, c, _⟩
  · exact .base (.lst h)
  · exact .base (.frz h)
  · exact .kList h c
/-- behind a lock all is as it was but the new -/
theorem unlock {H : Hp} {d D : Addr} {f u o : HO} (hd : H d = some u) (hD : upd H d f D = none) : upd (upd (upd H d f) D o) d u = upd H D o := by
  have ne : D ≠ d := (upd_none hD).1
  funext b
  by_cases e : b = d
  · subst e; rw [upd_same, upd_ne (Ne.symm ne)]; exact hd.symm
  · rw [upd_ne e]
    by_cases z : b = D
    · subst z; rw [upd_same, upd_same]
    · rw [upd_ne z, upd_ne z, upd_ne e]
theorem iteT' {c : Bool} {A B : Prop} (hc : c = true) (h : A) : if c = true then A else B := by rw [if_pos hc]; exact h
theorem iteF' {c : Bool} {A B : Prop} (hc : c = false) (h : B) : if c = true then A else B := by rw [if_neg (by rw [hc]; exact Bool.false_ne_true)]; exact h
end RC

set_option Elab.async false
set_option linter.all false
set_option maxRecDepth 100000
set_option maxHeartbeats 4000000
/-! Further rules: two lists of the same objects are equal; a text times an int. -/
namespace RD
open PySem PySem.Spec PyProof.Rows PySem.SeqAt L2
def rNeRefs (K : PySem.W.Frag) : R2 := fun x y H Q => ∃ (a b : Addr) (as : List Addr), x = .ref a ∧ y = .ref b ∧ SqL K H a (as.map V.ref) ∧ SqL K H b (as.map V.ref) ∧ Q (.bl false) H
def rEqRefs (K : PySem.W.Frag) : R2 := fun x y H Q => ∃ (a b : Addr) (as : List Addr), x = .ref a ∧ y = .ref b ∧ SqL K H a (as.map V.ref) ∧ SqL K H b (as.map V.ref) ∧ Q (.bl true) H
def rMulS : R2 := fun x y H Q => ∃ (i : Str) (k : Int), x = .str i ∧ y = .int k ∧ PySem.MulOk i k ∧ Q (.str (Txt.mul i k)) H
section
variable {X : Cx}
theorem vals_refs : ∀ {as : List Addr} {us : List Value}, Vals (as.map V.ref) us → us = as.map Value.ref
  | [], _, .nil => rfl
  | a :: as, _, .cons r t => by
    cases r
    rw [vals_refs t]; rfl
theorem all_true (n : Nat) : (List.range n).all (fun _ => true) = true := by simp
theorem op_neRefs (hu : X.A.units < cLine) : OpR X (compareOp .NotEq) (rNeRefs X.K) := by
  intro pins s σ H x y v u Q I rx ry h
  obtain ⟨a, b, as, rfl, rfl, ha, hb, q⟩ := h
  cases rx
  cases ry
  obtain ⟨its, rv, hl, _⟩ := I.list ha
  obtain ⟨its2, rv2, hl2, _⟩ := I.list hb
  obtain rfl := vals_refs rv
  obtain rfl := vals_refs rv2
  refine RcNeAt.lists (e := fun _ => true) hl.isList hl2.isList rfl hu (fun j h1 h2 => EqAt.same _) X.prog X.w X.xe _ ?_
  rw [all_true]
  exact fin_bl I q rfl
theorem op_eqRefs (hu : X.A.units < cLine) : OpR X (compareOp .Eq) (rEqRefs X.K) := by
  intro pins s σ H x y v u Q I rx ry h
  obtain ⟨a, b, as, rfl, rfl, ha, hb, q⟩ := h
  cases rx
  cases ry
  obtain ⟨its, rv, hl, _⟩ := I.list ha
  obtain ⟨its2, rv2, hl2, _⟩ := I.list hb
  obtain rfl := vals_refs rv
  obtain rfl := vals_refs rv2
  refine eq_listAt (e := fun _ => true) hl.isList hl2.isList rfl hu (fun j h1 h2 => EqAt.same _) ?_
  rw [all_true]
  exact fin_bl I q rfl
theorem op_mulS : OpR X (binaryOp .Mult) rMulS := by
  intro pins s σ H x y v u Q I rx ry h
  obtain ⟨i, k, rfl, rfl, hk, q⟩ := h
  obtain ⟨t, rfl⟩ := rx
  obtain ⟨t', rfl⟩ := ry
  exact PySem.SB.mul hk fun t2 k2 => ⟨.str (Txt.mul i k), H, I.tok k2, ⟨_, rfl⟩, q⟩
end
end RD

set_option Elab.async false
set_option linter.all false
set_option maxRecDepth 100000
set_option maxHeartbeats 4000000
/-! Rows of texts in order: there is one alone. -/
namespace RE
open PySem PySem.Spec PyProof.Rows L2
def le (a b : List Nat) : Prop := ltCps b a = false
theorem lt_split : ∀ (a b c : List Nat), ltCps a c = true → ltCps a b = true ∨ ltCps b c = true
  | [], [], c, h => .inr h
  | [], _ :: _, _, _ => .inl rfl
  | _ :: _, _, [], h => nomatch h
  | x :: a, [], z :: c, h => .inr rfl
  | x :: a, y :: b, z :: c, h => by
    have h : (decide (x < z) || (x == z && ltCps a c)) = true := h
    show (decide (x < y) || (x == y && ltCps a b)) = true ∨ (decide (y < z) || (y == z && ltCps b c)) = true
    rcases Nat.lt_trichotomy x y with h1 | h1 | h1
    · exact .inl (by rw [decide_eq_true h1]; rfl)
    · subst h1
      rcases Bool.or_eq_true_iff.mp h with h2 | h2
      · exact .inr (by rw [h2]; rfl)
      · obtain ⟨h3, h4⟩ := Bool.and_eq_true_iff.mp h2
        rcases lt_split a b c h4 with h5 | h5
        · exact .inl (by rw [h5]; simp)
        · exact .inr (by rw [h3, h5]; simp)
    · have h6 : y < z := by
        rcases Bool.or_eq_true_iff.mp h with h2 | h2
        · exact Nat.lt_trans h1 (of_decide_eq_true h2)
        · obtain ⟨h3, _⟩ := Bool.and_eq_true_iff.mp h2
          rw [← eq_of_beq h3]; exact h1
      exact .inr (by rw [decide_eq_true h6]; rfl)
theorem le_trans {a b c : List Nat} (h1 : le a b) (h2 : le b c) : le a c := by
  unfold le at *
  cases e : ltCps c a with
  | false => rfl
  | true =>
    rcases lt_split c b a e with h | h
    · rw [h2] at h; cases h
    · rw [h1] at h; cases h
theorem le_anti : ∀ {a b : List Nat}, le a b → le b a → a = b
  | [], [], _, _ => rfl
  | [], _ :: _, _, h => nomatch h
  | _ :: _, [], h, _ => nomatch h
  | x :: a, y :: b, h1, h2 => by
    have h1 : (decide (y < x) || (y == x && ltCps b a)) = false := h1
    have h2 : (decide (x < y) || (x == y && ltCps a b)) = false := h2
    rw [Bool.or_eq_false_iff] at h1 h2
    have e : x = y := by
      have a1 := of_decide_eq_false h1.1
      have a2 := of_decide_eq_false h2.1
      omega
    subst e
    have h3 : ltCps b a = false := by have := h1.2; simpa using this
    have h4 : ltCps a b = false := by have := h2.2; simpa using this
    rw [le_anti (a := a) (b := b) h3 h4]
def leS (a b : Str) : Prop := le (TL.tl a) (TL.tl b)
theorem rising : ∀ (p : Str) (l : List Str), risingS p l = true → (p :: l).Pairwise leS
  | p, [], _ => List.pairwise_singleton _ _
  | p, x :: r, h => by
    have h : (!ltCps x.cps.toList p.cps.toList && risingS x r) = true := h
    obtain ⟨h1, h2⟩ := Bool.and_eq_true_iff.mp h
    have i := rising x r h2
    refine List.pairwise_cons.mpr ⟨fun z hz => ?_, i⟩
    have a : leS p x := by
      show ltCps (TL.tl x) (TL.tl p) = false
      have h1 : (!ltCps (TL.tl x) (TL.tl p)) = true := h1
      cases e : ltCps (TL.tl x) (TL.tl p) with
      | false => rfl
      | true => rw [e] at h1; cases h1
    rcases List.mem_cons.mp hz with rfl | hz
    · exact a
    · exact le_trans a ((List.pairwise_cons.mp i).1 z hz)
theorem sorted_pw : ∀ {l : List Str}, sortedS l = true → l.Pairwise leS
  | [], _ => List.Pairwise.nil
  | x :: r, h => rising x r h
theorem uniq : ∀ {l m : List Str}, l.Perm m → l.Pairwise leS → m.Pairwise leS → l = m
  | [], m, hp, _, _ => by rw [List.nil_perm.mp hp]
  | x :: r, m, hp, h1, h2 => by
    cases m with
    | nil => exact absurd hp.length_eq (by simp)
    | cons y t =>
      obtain ⟨a1, a2⟩ := List.pairwise_cons.mp h1
      obtain ⟨b1, b2⟩ := List.pairwise_cons.mp h2
      have e : x = y := by
        have hx : x ∈ y :: t := hp.mem_iff.mp List.mem_cons_self
        have hy : y ∈ x :: r := hp.mem_iff.mpr List.mem_cons_self
        rcases List.mem_cons.mp hx with rfl | hx
        · rfl
        rcases List.mem_cons.mp hy with rfl | hy
        · rfl
        exact TL.ext_tl (le_anti (a1 y hy) (b1 x hx))
      subst e
      rw [uniq ((List.perm_cons x).mp hp) a2 b2]
/-- a sorted row's part is that part, sorted -/
theorem sorted_filter {xs ys zs : List Str} {p : Str → Bool} (h1 : ys.Perm xs) (h2 : sortedS ys = true) (h3 : zs.Perm (xs.filter p)) (h4 : sortedS zs = true) : zs = ys.filter p :=
  uniq (h3.trans (h1.symm.filter p)) (sorted_pw h4) ((sorted_pw h2).filter p)
end RE

set_option Elab.async false
set_option linter.all false
set_option maxRecDepth 100000
set_option maxHeartbeats 4000000
/-! Further rules of dicts: d.update(d2). -/
namespace RF
open PySem PySem.Spec PyProof.Rows L2
def rUpdD : V → List V → Hp → VK → Prop := fun x xs H Q => ∃ (d o : Addr) (kvs more : List (Key × V)), x = .ref d ∧ xs = [.ref o] ∧ H d = some (.dK kvs) ∧ Rd H o (.dK more) ∧ d ≠ o ∧ kvs.length + more.length ≤ sizeLine ∧ (mergeK kvs more).length ≤ sizeLine ∧ Q .non (upd H d (.dK (mergeK kvs more)))
theorem mt_updD {X : Cx} : MtR X "dict.update" rUpdD := by
  intro pins s σ H x xs v us Q I rx rxs h
  obtain ⟨d, o, kvs, more, rfl, rfl, hd, ho, hne, hl, hl2, q⟩ := h
  cases rx
  obtain rfl := Vals.ref1 rxs
  obtain ⟨z, lo, vs, rel, dd⟩ := dk_of I.hok hd
  obtain ⟨z2, lo2, vs2, rel2, dd2⟩ := dk_rd I.hok ho
  refine call_meetsIn PySem.F.slot_dict_update dd.typeIs PySem.F.entry_dict_update (PySem.F.args_dict_update_2 _ _) (meets_dict_update (mixKind X.prog X.w) d o hne lo2)
    ⟨vs, vs2, dd, dd2, (by rw [← rel.length, ← rel2.length]; exact hl), fun h' hmm _ hs => ?_⟩
  have he : ∃ q, h'.get? d = some q := let ⟨q, _, _, hq, _⟩ := hmm; ⟨q, hq⟩
  refine d_write I (by rw [hd]; exact True.intro) hs he (dk_new hl2 lo (KV.merge rel2 rel) hmm) |> fun I' => ⟨.non, _, I', rfl, q⟩
/-- list(o.values()) -/
def tListVals (td : TE) : TE := fun σ H Q => td σ H fun x H1 => ∃ a kvs, x = V.ref a ∧ H1 a = some (.dK kvs) ∧ ∀ q, H1 q = none → Q (.ref q) (upd H1 q (.lst (kvs.map (·.2))))
section
variable {X : Cx} {o : Expr} {p pos apos mpos : Pos} {td : TE}
theorem pe_listVals (hc : X.calm = true) (hg : Gl X "list") (hm : X.mg "list" = none) (hd : PE X o td) (hbase : attributeBase o "values" X.env (eval o X.env) = eval o X.env := by rfl) (hline : (apos.endLine == mpos.line) = true := by rfl)
    (hse : starEach [Expr.Call (.Attribute o "values" apos) [] [] mpos] X.env = [(false, eval (Expr.Call (.Attribute o "values" apos) [] [] mpos) X.env)] := by rfl) :
    PE X (.Call (.Name "list" p) [.Call (.Attribute o "values" apos) [] [] mpos] [] pos) (tListVals td) := by
  refine ⟨fun pins s σ H Q I h => ?_⟩
  refine wpAny_Call_Name_kw (ld_blt I hg hm (u := .type "list") (by first | rfl | decide +kernel) ?_ (by first | decide +kernel | decide) (by first | decide +kernel | decide))
  rw [hse]
  refine PySem.callWith_type1 (wpAny_Call_method0_late hbase hline (thn (hd.run pins s σ H _ I h) fun v s1 ⟨x, H1, I1, r1, a, kvs, ex, ha, q⟩ => ?_))
  subst ex
  obtain rfl : v = Value.ref a := r1
  obtain ⟨z, hsys, vs, rel, dof⟩ := dk_of I1.hok ha
  obtain ⟨ep, dat⟩ := dof.dictAt
  have dat' := dat
  obtain ⟨ob, es, ho, ex, hdat, hko, hpr, hnd⟩ := dat'
  refine ⟨"dict", "dict.values", F.plainAttrs_dict, F.slot_dict_values, F.type_dict_values, ⟨ob, ho, ex.1⟩, fun b e => ?_, Calls.callWith_builtin rfl (PySem.evalArgs_none ?_)⟩
  · cases e
    exact ⟨ob, ho, ex.2.1⟩
  refine call_meetsIn F.slot_dict_values ⟨ob, ho, ex.1⟩ F.entry_dict_values (F.args_dict_values_1 _) (meets_dict_values (mixKind X.prog X.w) a hsys) ⟨⟨vs, dof⟩, ?_⟩
  have k1 : ∀ b u, s1.heap.get? b = some u → (s1.heap.push { cls := .type "dict_values", data := .fields #[.ref a] }).get? b = some u := fun b u e => Heap.get?_push_of_some _ e
  have dat1 : (s1.heap.push { cls := .type "dict_values", data := .fields #[.ref a] }).DictAt (mixKind X.prog X.w) a vs ep := dat.keep k1
  have I2 : Inv X pins σ H1 { s1 with heap := s1.heap.push { cls := .type "dict_values", data := .fields #[.ref a] } } := I1.kept (t' := s1.toks) k1
  have hl : kvs.length = vs.length := Paired.length rel
  refine PySem.W.kdl_call (PySem.W.kdl_values (knd := mixKind X.prog X.w) (r := s1.heap.objs.size) (d := a) (kvs := vs) (ep := ep)) (I1.ok.hd hc) ⟨⟨_, Heap.get?_push_size _ rfl, rfl, rfl⟩, dat1⟩ (by rw [← hl]; exact z) fun h' tk acc' c' hkeep hS hacc => ?_
  refine ⟨.ref _, upd H1 _ (.lst (kvs.map (·.2))), I2.laid hkeep (Nat.le_refl _) (show ObjOk X.prog X.w _ _ _ (.lst (kvs.map (·.2))) from ⟨?_, acc'.toList, c', ?_, ?_⟩), rfl, q _ (I2.hok.fresh (Nat.le_refl _))⟩
  · rw [List.length_map]; exact z
  · have el : acc'.toList.length = acc'.size := by simp
    refine vals_of_at (by rw [List.length_map, el, hacc.1, hl]) fun j x w h1 h2 => ?_
    obtain ⟨k, hk⟩ := hacc.2 j w (by rw [← Array.getElem?_toList]; exact h2)
    obtain ⟨x', h3, h4⟩ := KV.at' rel hk
    rw [List.getElem?_map, h3] at h1
    cases h1
    exact h4
  · rw [Array.toArray_toList]; exact hS
end
/-- d[i] = v as one of several targets -/
def rSetD : TSet := fun o i v H Q => ∃ (a : Addr) (H' : Hp), o = .ref a ∧ DPut H a i v H' ∧ Q H'
theorem set_dict {X : Cx} (hu : X.A.units + 1 < cLine) : PSet X rSetD := by
  intro pins s σ H o i v ov iv u Q I ro ri rv h
  obtain ⟨a, H', rfl, g, q⟩ := h
  cases ro
  exact d_setItem hu I g ri rv fun s' I' => ⟨H', I', q⟩
end RF

set_option Elab.async false
set_option linter.all false
set_option maxRecDepth 100000
set_option maxHeartbeats 4000000
/-! Rules that name the written part, for a comprehension's block. -/
namespace RG
open PySem PySem.Spec PyProof.Rows L2
theorem pg_tupK {X : Cx} {K : PySem.W.Frag} {es : List Expr} {k n : Nat} {pos : Pos} {t : TGs} (hc : X.calm = true) (h : PGs X es t) (hn : (assignEach es X.env).length = n := by rfl) (hst : (assignEach es X.env).findIdx? (·.1) = none := by rfl) (z : X.K = K := by rfl) :
    PG X (.Tuple es k pos) (gTup K n t) := z ▸ pg_tup hc h hn hst
end RG

set_option Elab.async false
set_option linter.all false
set_option maxRecDepth 100000
set_option maxHeartbeats 4000000
/-! What a walk by itself leans on: facts of the heap carried over changes. -/
namespace RW
open PySem PySem.Spec PyProof.Rows L2 RC
section
variable {H H1 H2 : Hp} {p q s l : Addr} {o o' u : HO}
theorem at_same (e : Same H H1) (h : H p = some o) : H1 p = some o := e _ _ h
theorem at_old (e : Old s l H H1) (h1 : p ≠ s) (h2 : p ≠ l) (h : H p = some o) : H1 p = some o := e _ _ h1 h2 h
theorem at_upd (n : q ≠ p) (h : H q = some u) : upd H p o q = some u := by rw [upd_ne n]; exact h
theorem no_upd (n : q ≠ p) (h : H q = none) : upd H p o q = none := by rw [upd_ne n]; exact h
theorem ne_new (h : H p = none) (h2 : H q = some u) : q ≠ p := ne_of_none h2 h
theorem ne_new' (h : H p = none) (h2 : H q = some u) : p ≠ q := Ne.symm (ne_of_none h2 h)
theorem ne_kind (h : H p = some o) (h' : H q = some u) (n : o ≠ u) : p ≠ q := fun z => n (by rw [z] at h; exact Option.some.inj (h.symm.trans h'))
theorem same_put_new (e : Same H H1) (h : H1 p = none) : Same H (upd H1 p o) := e.trans (same_new h o)
theorem same_put (e : Same H H1) (h : H p = none) : Same H (upd H1 p o) := fun b x hb => by rw [upd_ne (ne_of_none hb h)]; exact e _ _ hb
theorem same_then (h : Same H1 H2) (e : Same H H1) : Same H H2 := e.trans h
theorem free_same (e : Same H H1) (h : H1 p = none) : H p = none := e.free h
theorem free_upd (h : upd H p o q = none) : H q = none := (upd_none h).2
theorem ne_upd (h : upd H p o q = none) : q ≠ p := (upd_none h).1
theorem some_ref {xs : List V} {K : PySem.W.Frag} (h : H p = some (.lst xs)) : SqL K H p xs := SqL.of h
theorem rd_of (h : H p = some o) : Rd H p o := .inl h
theorem fr {R : Addr → Prop} (h : ∀ x, H x = none → x ≠ p → R x) : ∀ x, upd H p o x = none → R x := fun x hx => h x (upd_none hx).2 (upd_none hx).1
theorem fr_same {R : Addr → Prop} (e : Same H H1) (h : ∀ x, H x = none → H1 x = none → R x) : ∀ x, H1 x = none → R x := fun x hx => h x (e.free hx) hx
theorem gHp (h : H p = some o) : H p = some o := h
theorem gStm {n : Nat} (h : Stm H s l n) : Stm H s l n := h
theorem stm_upd {n : Nat} (h1 : p ≠ s) (h2 : p ≠ l) (h : Stm H s l n) : Stm (upd H p o) s l n := by
  obtain ⟨ne, ns, x, c, d, g1, g2, g3⟩ := h
  exact ⟨ne, ns, x, c, d, by rw [upd_ne (Ne.symm h1)]; exact g1, by rw [upd_ne (Ne.symm h2)]; exact g2, g3⟩
theorem stm_at {n : Nat} (h : Stm H s l n) : (∃ o, H s = some o) ∧ (∃ o, H l = some o) ∧ s ≠ l := by
  obtain ⟨ne, ns, x, c, d, g1, g2, g3⟩ := h
  exact ⟨⟨_, g1⟩, ⟨_, g2⟩, ne⟩
theorem stm_same {n : Nat} (h : Stm H s l n) (e : Same H H1) : Stm H1 s l n := h.same e
theorem old_upd (e : Old s l H H1) (h : H p = none) : Old s l H (upd H1 p o) := fun b x h1 h2 hb => by rw [upd_ne (ne_of_none hb h)]; exact e _ _ h1 h2 hb
theorem old_same (e : Old s l H H1) (h : Same H1 H2) : Old s l H H2 := fun b x h1 h2 hb => h _ _ (e _ _ h1 h2 hb)
theorem old_then (h : Old s l H1 H2) (e : Old s l H H1) : Old s l H H2 := e.trans h
theorem old_of (e : Same H H1) : Old s l H H1 := Old.of_same e
theorem gOld (h : Old s l H H1) : Old s l H H1 := h
theorem gCp {i j : Int} (h : 0 ≤ j ∧ j ≤ 1000000 ∧ i.natAbs < 2 ^ 64) : CPow i j := h
theorem gNe (h : p ≠ q) : p ≠ q := h
theorem isMut {d : Addr} {w : HO} {R : Prop} (h : H d = some w ∧ Mut (H d) ∧ R) : H d = some w ∧ Mut (H d) ∧ R := h
theorem isMut2 {d : Addr} {w : HO} {R : Prop} (h : H d = some w ∧ Mut (some w) ∧ R) : H d = some w ∧ Mut (some w) ∧ R := h
theorem gSm (h : Same H H1) : Same H H1 := h
theorem gCls {K : PySem.W.Frag} {C : Addr} (h : Cls K C) : Cls K C := h
theorem gNo {K : PySem.W.Frag} {C : Addr} {f : Str} (h : NoAttr K C f) : NoAttr K C f := h
theorem gCv {c : V} {u : Value} (h : ClsV c u) : ClsV c u := h
theorem gTy {K : PySem.W.Frag} {c : V} {u : Value} (h : TyX K H c u) : TyX K H c u := h
theorem gKit {K : PySem.W.Frag} {t c : Value} {b : Bool} (h : PySem.W.kitOne K t c = some b) : PySem.W.kitOne K t c = some b := h
theorem gKita {K : PySem.W.Frag} {t : Value} {c : List Value} {b : Bool} (h : PySem.W.kitAny K t c = some b) : PySem.W.kitAny K t c = some b := h
theorem gSl {K : PySem.W.Frag} {xs : List V} (h : SqL K H p xs) : SqL K H p xs := h
theorem gSt {K : PySem.W.Frag} {xs : List V} (h : SqT K H p xs) : SqT K H p xs := h
theorem gPr {cs : List V} {us : List Value} (h : Paired ClsV cs us) : Paired ClsV cs us := h
theorem gKi {K : PySem.W.Frag} {t : Value} {b : Bool} (h : PySem.W.kitOne K t (.type "int") = some b) : PySem.W.kitOne K t (.type "int") = some b := h
theorem gKb {K : PySem.W.Frag} {t : Value} {b : Bool} (h : PySem.W.kitOne K t (.type "bool") = some b) : PySem.W.kitOne K t (.type "bool") = some b := h
theorem gKs {K : PySem.W.Frag} {t : Value} {b : Bool} (h : PySem.W.kitOne K t (.type "str") = some b) : PySem.W.kitOne K t (.type "str") = some b := h
theorem gKl {K : PySem.W.Frag} {t : Value} {b : Bool} (h : PySem.W.kitOne K t (.type "list") = some b) : PySem.W.kitOne K t (.type "list") = some b := h
theorem gKt {K : PySem.W.Frag} {t : Value} {b : Bool} (h : PySem.W.kitOne K t (.type "tuple") = some b) : PySem.W.kitOne K t (.type "tuple") = some b := h
theorem gKd {K : PySem.W.Frag} {t : Value} {b : Bool} (h : PySem.W.kitOne K t (.type "dict") = some b) : PySem.W.kitOne K t (.type "dict") = some b := h
theorem cxK {P : Program} {w : World} {K : PySem.W.Frag} {mg : Str → Option Value} {base : Heap} {N : List Str} {qual : Str} {scope : Scope} {f : Addr} {cd : Value} {A : Around} {outer : List Env} {sh : Shared} {E : XK} :
    (cxOf CX0 P w K mg base N qual scope f cd A outer sh H E).nox.K = K := rfl
end
section
variable {H : Hp} {K : PySem.W.Frag} {a p : Addr} {kvs : List (Key × V)} {x y : Str} {i j : Int} {o : Option V} {od : Obj} {v : V} {xs : List V}
theorem dget_s (h : H a = some (.dK kvs)) (e : valV kvs (Sum.inr x) = o) : DGet H a (.str x) o := .inl ⟨kvs, Sum.inr x, .inl h, rfl, e.symm⟩
theorem dget_i (h : H a = some (.dK kvs)) (e : valV kvs (Sum.inl i) = o) : DGet H a (.int i) o := .inl ⟨kvs, Sum.inl i, .inl h, rfl, e.symm⟩
theorem dget_sF (h : H a = some (.frz od (.dK kvs))) (e : valV kvs (Sum.inr x) = o) : DGet H a (.str x) o := .inl ⟨kvs, Sum.inr x, .inr ⟨od, h⟩, rfl, e.symm⟩
theorem dget_sR (h : Rd H a (.dK kvs)) (e : valV kvs (Sum.inr x) = o) : DGet H a (.str x) o := .inl ⟨kvs, Sum.inr x, h, rfl, e.symm⟩
theorem dput_s (h : H a = some (.dK kvs)) (hl : kvs.length < sizeLine) : DPut H a (.str x) v (upd H a (.dK (putK kvs (Sum.inr x) v))) := DPut.k (k := Sum.inr x) h hl
theorem dput_i (h : H a = some (.dK kvs)) (hl : kvs.length < sizeLine) : DPut H a (.int i) v (upd H a (.dK (putK kvs (Sum.inl i) v))) := DPut.k (k := Sum.inl i) h hl
theorem sql_of (h : H p = some (.lst xs)) : ∃ ys, SqL K H p ys := ⟨xs, SqL.of h⟩
theorem sqt_of (h : H p = some (.tup xs)) : ∃ ys, SqT K H p ys := ⟨xs, SqT.of h⟩
theorem disp1 {a0 : Str} {v0 : V} {R : List (Key × V) → Prop} (h : R [((Sum.inr a0 : Key), v0)]) : ∃ kvs : List (Key × V), [(V.str a0, v0)] = kvs.map (fun kv => (kV kv.1, kv.2)) ∧ kvs.length ≤ 15 ∧ R kvs := ⟨[((Sum.inr a0 : Key), v0)], rfl, Nat.le_of_ble_eq_true rfl, h⟩
theorem disp2 {a0 a1 : Str} {v0 v1 : V} {R : List (Key × V) → Prop} (h : R [((Sum.inr a0 : Key), v0), ((Sum.inr a1 : Key), v1)]) : ∃ kvs : List (Key × V), [(V.str a0, v0), (V.str a1, v1)] = kvs.map (fun kv => (kV kv.1, kv.2)) ∧ kvs.length ≤ 15 ∧ R kvs := ⟨[((Sum.inr a0 : Key), v0), ((Sum.inr a1 : Key), v1)], rfl, Nat.le_of_ble_eq_true rfl, h⟩
theorem disp3 {a0 a1 a2 : Str} {v0 v1 v2 : V} {R : List (Key × V) → Prop} (h : R [((Sum.inr a0 : Key), v0), ((Sum.inr a1 : Key), v1), ((Sum.inr a2 : Key), v2)]) : ∃ kvs : List (Key × V), [(V.str a0, v0), (V.str a1, v1), (V.str a2, v2)] = kvs.map (fun kv => (kV kv.1, kv.2)) ∧ kvs.length ≤ 15 ∧ R kvs := ⟨[((Sum.inr a0 : Key), v0), ((Sum.inr a1 : Key), v1), ((Sum.inr a2 : Key), v2)], rfl, Nat.le_of_ble_eq_true rfl, h⟩
theorem disp4 {a0 a1 a2 a3 : Str} {v0 v1 v2 v3 : V} {R : List (Key × V) → Prop} (h : R [((Sum.inr a0 : Key), v0), ((Sum.inr a1 : Key), v1), ((Sum.inr a2 : Key), v2), ((Sum.inr a3 : Key), v3)]) : ∃ kvs : List (Key × V), [(V.str a0, v0), (V.str a1, v1), (V.str a2, v2), (V.str a3, v3)] = kvs.map (fun kv => (kV kv.1, kv.2)) ∧ kvs.length ≤ 15 ∧ R kvs := ⟨[((Sum.inr a0 : Key), v0), ((Sum.inr a1 : Key), v1), ((Sum.inr a2 : Key), v2), ((Sum.inr a3 : Key), v3)], rfl, Nat.le_of_ble_eq_true rfl, h⟩
theorem disp5 {a0 a1 a2 a3 a4 : Str} {v0 v1 v2 v3 v4 : V} {R : List (Key × V) → Prop} (h : R [((Sum.inr a0 : Key), v0), ((Sum.inr a1 : Key), v1), ((Sum.inr a2 : Key), v2), ((Sum.inr a3 : Key), v3), ((Sum.inr a4 : Key), v4)]) : ∃ kvs : List (Key × V), [(V.str a0, v0), (V.str a1, v1), (V.str a2, v2), (V.str a3, v3), (V.str a4, v4)] = kvs.map (fun kv => (kV kv.1, kv.2)) ∧ kvs.length ≤ 15 ∧ R kvs := ⟨[((Sum.inr a0 : Key), v0), ((Sum.inr a1 : Key), v1), ((Sum.inr a2 : Key), v2), ((Sum.inr a3 : Key), v3), ((Sum.inr a4 : Key), v4)], rfl, Nat.le_of_ble_eq_true rfl, h⟩
theorem disp6 {a0 a1 a2 a3 a4 a5 : Str} {v0 v1 v2 v3 v4 v5 : V} {R : List (Key × V) → Prop} (h : R [((Sum.inr a0 : Key), v0), ((Sum.inr a1 : Key), v1), ((Sum.inr a2 : Key), v2), ((Sum.inr a3 : Key), v3), ((Sum.inr a4 : Key), v4), ((Sum.inr a5 : Key), v5)]) : ∃ kvs : List (Key × V), [(V.str a0, v0), (V.str a1, v1), (V.str a2, v2), (V.str a3, v3), (V.str a4, v4), (V.str a5, v5)] = kvs.map (fun kv => (kV kv.1, kv.2)) ∧ kvs.length ≤ 15 ∧ R kvs := ⟨[((Sum.inr a0 : Key), v0), ((Sum.inr a1 : Key), v1), ((Sum.inr a2 : Key), v2), ((Sum.inr a3 : Key), v3), ((Sum.inr a4 : Key), v4), ((Sum.inr a5 : Key), v5)], rfl, Nat.le_of_ble_eq_true rfl, h⟩
theorem disp7 {a0 a1 a2 a3 a4 a5 a6 : Str} {v0 v1 v2 v3 v4 v5 v6 : V} {R : List (Key × V) → Prop} (h : R [((Sum.inr a0 : Key), v0), ((Sum.inr a1 : Key), v1), ((Sum.inr a2 : Key), v2), ((Sum.inr a3 : Key), v3), ((Sum.inr a4 : Key), v4), ((Sum.inr a5 : Key), v5), ((Sum.inr a6 : Key), v6)]) : ∃ kvs : List (Key × V), [(V.str a0, v0), (V.str a1, v1), (V.str a2, v2), (V.str a3, v3), (V.str a4, v4), (V.str a5, v5), (V.str a6, v6)] = kvs.map (fun kv => (kV kv.1, kv.2)) ∧ kvs.length ≤ 15 ∧ R kvs := ⟨[((Sum.inr a0 : Key), v0), ((Sum.inr a1 : Key), v1), ((Sum.inr a2 : Key), v2), ((Sum.inr a3 : Key), v3), ((Sum.inr a4 : Key), v4), ((Sum.inr a5 : Key), v5), ((Sum.inr a6 : Key), v6)], rfl, Nat.le_of_ble_eq_true rfl, h⟩
theorem disp8 {a0 a1 a2 a3 a4 a5 a6 a7 : Str} {v0 v1 v2 v3 v4 v5 v6 v7 : V} {R : List (Key × V) → Prop} (h : R [((Sum.inr a0 : Key), v0), ((Sum.inr a1 : Key), v1), ((Sum.inr a2 : Key), v2), ((Sum.inr a3 : Key), v3), ((Sum.inr a4 : Key), v4), ((Sum.inr a5 : Key), v5), ((Sum.inr a6 : Key), v6), ((Sum.inr a7 : Key), v7)]) : ∃ kvs : List (Key × V), [(V.str a0, v0), (V.str a1, v1), (V.str a2, v2), (V.str a3, v3), (V.str a4, v4), (V.str a5, v5), (V.str a6, v6), (V.str a7, v7)] = kvs.map (fun kv => (kV kv.1, kv.2)) ∧ kvs.length ≤ 15 ∧ R kvs := ⟨[((Sum.inr a0 : Key), v0), ((Sum.inr a1 : Key), v1), ((Sum.inr a2 : Key), v2), ((Sum.inr a3 : Key), v3), ((Sum.inr a4 : Key), v4), ((Sum.inr a5 : Key), v5), ((Sum.inr a6 : Key), v6), ((Sum.inr a7 : Key), v7)], rfl, Nat.le_of_ble_eq_true rfl, h⟩
theorem len_sl (h : SqL K H p xs) : LenV K (.ref p) H xs.length := .inl ⟨xs, h, rfl⟩
theorem len_st (h : SqT K H p xs) : LenV K (.ref p) H xs.length := .inr ⟨xs, h, rfl⟩
theorem sql_same {H' : Hp} (h : SqL K H p xs) (e : Same H H') : SqL K H' p xs := e.seq h
theorem sqt_same {H' : Hp} (h : SqT K H p xs) (e : Same H H') : SqT K H' p xs := e.seqT h
theorem ka1 {t c : Value} {b : Bool} (h : PySem.W.kitOne K t c = some b) : PySem.W.kitAny K t [c] = some (b || false) := kitAny_cons h (fun e => by rw [e]; rfl) (fun e => by rw [e]; rfl)
theorem kac {t c : Value} {cs : List Value} {b r : Bool} (h : PySem.W.kitOne K t c = some b) (h2 : PySem.W.kitAny K t cs = some r) : PySem.W.kitAny K t (c :: cs) = some (b || r) := kitAny_cons h (fun e => by rw [e]; exact h2) (fun e => by rw [e]; rfl)
theorem ka2 {t c1 c2 : Value} {b1 b2 : Bool} (h1 : PySem.W.kitOne K t c1 = some b1) (h2 : PySem.W.kitOne K t c2 = some b2) : PySem.W.kitAny K t [c1, c2] = some (b1 || (b2 || false)) := kac h1 (ka1 h2)
theorem ka3 {t c1 c2 c3 : Value} {b1 b2 b3 : Bool} (h1 : PySem.W.kitOne K t c1 = some b1) (h2 : PySem.W.kitOne K t c2 = some b2) (h3 : PySem.W.kitOne K t c3 = some b3) : PySem.W.kitAny K t [c1, c2, c3] = some (b1 || (b2 || (b3 || false))) := kac h1 (ka2 h2 h3)
theorem ka4 {t c1 c2 c3 c4 : Value} {b1 b2 b3 b4 : Bool} (h1 : PySem.W.kitOne K t c1 = some b1) (h2 : PySem.W.kitOne K t c2 = some b2) (h3 : PySem.W.kitOne K t c3 = some b3) (h4 : PySem.W.kitOne K t c4 = some b4) : PySem.W.kitAny K t [c1, c2, c3, c4] = some (b1 || (b2 || (b3 || (b4 || false)))) := kac h1 (ka3 h2 h3 h4)
theorem ka5 {t c1 c2 c3 c4 c5 : Value} {b1 b2 b3 b4 b5 : Bool} (h1 : PySem.W.kitOne K t c1 = some b1) (h2 : PySem.W.kitOne K t c2 = some b2) (h3 : PySem.W.kitOne K t c3 = some b3) (h4 : PySem.W.kitOne K t c4 = some b4) (h5 : PySem.W.kitOne K t c5 = some b5) : PySem.W.kitAny K t [c1, c2, c3, c4, c5] = some (b1 || (b2 || (b3 || (b4 || (b5 || false))))) := kac h1 (ka4 h2 h3 h4 h5)
theorem len_l (h : H p = some (.lst xs)) : LenV K (.ref p) H xs.length := .inl ⟨xs, SqL.of h, rfl⟩
theorem tyv_l (h : H p = some (.lst xs)) : tyV K "list" (.ref p) H := .inl ⟨rfl, _, SqL.of h⟩
theorem tyv_s (h : SqL K H p xs) : tyV K "list" (.ref p) H := .inl ⟨rfl, _, h⟩
theorem isd (h : H a = some (.dK kvs)) : IsD H a := .inl ⟨kvs, .inl h⟩
theorem cSsT (h : x = y) : decide (V.str x = V.str y) = true := decide_eq_true (congrArg V.str h)
theorem cSsF (h : x ≠ y) : decide (V.str x = V.str y) = false := decide_eq_false fun z => h (V.str.inj z)
theorem cNsT (h : x ≠ y) : (!decide (V.str x = V.str y)) = true := by rw [cSsF h]; rfl
theorem cNsF (h : x = y) : (!decide (V.str x = V.str y)) = false := by rw [cSsT h]; rfl
theorem cSiT (h : i = j) : decide (V.int i = V.int j) = true := decide_eq_true (congrArg V.int h)
theorem cSiF (h : i ≠ j) : decide (V.int i = V.int j) = false := decide_eq_false fun z => h (V.int.inj z)
theorem cNiT (h : i ≠ j) : (!decide (V.int i = V.int j)) = true := by rw [cSiF h]; rfl
theorem cNiF (h : i = j) : (!decide (V.int i = V.int j)) = false := by rw [cSiT h]; rfl
theorem someT (h : o = some v) : o.isSome = true := by rw [h]; rfl
theorem someF (h : o = none) : o.isSome = false := by rw [h]; rfl
theorem nsomeT (h : o = none) : (!o.isSome) = true := by rw [h]; rfl
theorem nsomeF (h : o = some v) : (!o.isSome) = false := by rw [h]; rfl
end
theorem k_int_int {K : PySem.W.Frag} : PySem.W.kitOne K (.type "int") (.type "int") = some true := kit_ty (by decide +kernel)
theorem k_int_bool {K : PySem.W.Frag} : PySem.W.kitOne K (.type "int") (.type "bool") = some false := kit_ty (by decide +kernel)
theorem k_int_str {K : PySem.W.Frag} : PySem.W.kitOne K (.type "int") (.type "str") = some false := kit_ty (by decide +kernel)
theorem k_int_list {K : PySem.W.Frag} : PySem.W.kitOne K (.type "int") (.type "list") = some false := kit_ty (by decide +kernel)
theorem k_int_tuple {K : PySem.W.Frag} : PySem.W.kitOne K (.type "int") (.type "tuple") = some false := kit_ty (by decide +kernel)
theorem k_int_dict {K : PySem.W.Frag} : PySem.W.kitOne K (.type "int") (.type "dict") = some false := kit_ty (by decide +kernel)
theorem k_bool_int {K : PySem.W.Frag} : PySem.W.kitOne K (.type "bool") (.type "int") = some true := kit_ty (by decide +kernel)
theorem k_bool_bool {K : PySem.W.Frag} : PySem.W.kitOne K (.type "bool") (.type "bool") = some true := kit_ty (by decide +kernel)
theorem k_bool_str {K : PySem.W.Frag} : PySem.W.kitOne K (.type "bool") (.type "str") = some false := kit_ty (by decide +kernel)
theorem k_bool_list {K : PySem.W.Frag} : PySem.W.kitOne K (.type "bool") (.type "list") = some false := kit_ty (by decide +kernel)
theorem k_bool_tuple {K : PySem.W.Frag} : PySem.W.kitOne K (.type "bool") (.type "tuple") = some false := kit_ty (by decide +kernel)
theorem k_bool_dict {K : PySem.W.Frag} : PySem.W.kitOne K (.type "bool") (.type "dict") = some false := kit_ty (by decide +kernel)
theorem k_str_int {K : PySem.W.Frag} : PySem.W.kitOne K (.type "str") (.type "int") = some false := kit_ty (by decide +kernel)
theorem k_str_bool {K : PySem.W.Frag} : PySem.W.kitOne K (.type "str") (.type "bool") = some false := kit_ty (by decide +kernel)
theorem k_str_str {K : PySem.W.Frag} : PySem.W.kitOne K (.type "str") (.type "str") = some true := kit_ty (by decide +kernel)
theorem k_str_list {K : PySem.W.Frag} : PySem.W.kitOne K (.type "str") (.type "list") = some false := kit_ty (by decide +kernel)
theorem k_str_tuple {K : PySem.W.Frag} : PySem.W.kitOne K (.type "str") (.type "tuple") = some false := kit_ty (by decide +kernel)
theorem k_str_dict {K : PySem.W.Frag} : PySem.W.kitOne K (.type "str") (.type "dict") = some false := kit_ty (by decide +kernel)
theorem k_NoneType_int {K : PySem.W.Frag} : PySem.W.kitOne K (.type "NoneType") (.type "int") = some false := kit_ty (by decide +kernel)
theorem k_NoneType_bool {K : PySem.W.Frag} : PySem.W.kitOne K (.type "NoneType") (.type "bool") = some false := kit_ty (by decide +kernel)
theorem k_NoneType_str {K : PySem.W.Frag} : PySem.W.kitOne K (.type "NoneType") (.type "str") = some false := kit_ty (by decide +kernel)
theorem k_NoneType_list {K : PySem.W.Frag} : PySem.W.kitOne K (.type "NoneType") (.type "list") = some false := kit_ty (by decide +kernel)
theorem k_NoneType_tuple {K : PySem.W.Frag} : PySem.W.kitOne K (.type "NoneType") (.type "tuple") = some false := kit_ty (by decide +kernel)
theorem k_NoneType_dict {K : PySem.W.Frag} : PySem.W.kitOne K (.type "NoneType") (.type "dict") = some false := kit_ty (by decide +kernel)
theorem k_list_int {K : PySem.W.Frag} : PySem.W.kitOne K (.type "list") (.type "int") = some false := kit_ty (by decide +kernel)
theorem k_list_bool {K : PySem.W.Frag} : PySem.W.kitOne K (.type "list") (.type "bool") = some false := kit_ty (by decide +kernel)
theorem k_list_str {K : PySem.W.Frag} : PySem.W.kitOne K (.type "list") (.type "str") = some false := kit_ty (by decide +kernel)
theorem k_list_list {K : PySem.W.Frag} : PySem.W.kitOne K (.type "list") (.type "list") = some true := kit_ty (by decide +kernel)
theorem k_list_tuple {K : PySem.W.Frag} : PySem.W.kitOne K (.type "list") (.type "tuple") = some false := kit_ty (by decide +kernel)
theorem k_list_dict {K : PySem.W.Frag} : PySem.W.kitOne K (.type "list") (.type "dict") = some false := kit_ty (by decide +kernel)
theorem k_tuple_int {K : PySem.W.Frag} : PySem.W.kitOne K (.type "tuple") (.type "int") = some false := kit_ty (by decide +kernel)
theorem k_tuple_bool {K : PySem.W.Frag} : PySem.W.kitOne K (.type "tuple") (.type "bool") = some false := kit_ty (by decide +kernel)
theorem k_tuple_str {K : PySem.W.Frag} : PySem.W.kitOne K (.type "tuple") (.type "str") = some false := kit_ty (by decide +kernel)
theorem k_tuple_list {K : PySem.W.Frag} : PySem.W.kitOne K (.type "tuple") (.type "list") = some false := kit_ty (by decide +kernel)
theorem k_tuple_tuple {K : PySem.W.Frag} : PySem.W.kitOne K (.type "tuple") (.type "tuple") = some true := kit_ty (by decide +kernel)
theorem k_tuple_dict {K : PySem.W.Frag} : PySem.W.kitOne K (.type "tuple") (.type "dict") = some false := kit_ty (by decide +kernel)
theorem k_dict_int {K : PySem.W.Frag} : PySem.W.kitOne K (.type "dict") (.type "int") = some false := kit_ty (by decide +kernel)
theorem k_dict_bool {K : PySem.W.Frag} : PySem.W.kitOne K (.type "dict") (.type "bool") = some false := kit_ty (by decide +kernel)
theorem k_dict_str {K : PySem.W.Frag} : PySem.W.kitOne K (.type "dict") (.type "str") = some false := kit_ty (by decide +kernel)
theorem k_dict_list {K : PySem.W.Frag} : PySem.W.kitOne K (.type "dict") (.type "list") = some false := kit_ty (by decide +kernel)
theorem k_dict_tuple {K : PySem.W.Frag} : PySem.W.kitOne K (.type "dict") (.type "tuple") = some false := kit_ty (by decide +kernel)
theorem k_dict_dict {K : PySem.W.Frag} : PySem.W.kitOne K (.type "dict") (.type "dict") = some true := kit_ty (by decide +kernel)
end RW

set_option Elab.async false
set_option linter.all false
set_option maxRecDepth 100000
set_option maxHeartbeats 0
namespace K17
open PySem PySem.Spec PyProof.Rows L2 RC
/-! ### the text -/
def top (i : Nat) : Stmt := PySem.Challenge.pw_recordyard_k44_ends_of_times.main.body.getD i (.Pass ⟨0, 0, 0, 0⟩)
abbrev s_Filterer_init : Stmt := inClass (top 28) 0
abbrev nm_Filterer_init : List Str := ["self"]
theorem sc_Filterer_init : FnScope nm_Filterer_init ["self"] (defScope s_Filterer_init) := ⟨rfl, rfl, rfl, by decide +kernel, rfl, by decide +kernel, by decide +kernel⟩
def dd_Filterer_init : He.DefD := ⟨("Filterer", some "__init__"), "__init__", "Filterer.__init__", defArgs s_Filterer_init, defBody s_Filterer_init, defScope s_Filterer_init, [], []⟩
abbrev s_copied_value : Stmt := top 21
abbrev nm_copied_value : List Str := ["thing", "part", "name"]
theorem sc_copied_value : FnScope nm_copied_value ["thing"] (defScope s_copied_value) := ⟨rfl, rfl, rfl, by decide +kernel, rfl, by decide +kernel, by decide +kernel⟩
def dd_copied_value : He.DefD := ⟨("copied_value", none), "copied_value", "copied_value", defArgs s_copied_value, defBody s_copied_value, defScope s_copied_value, [], []⟩
abbrev s_is_integer : Stmt := top 53
abbrev nm_is_integer : List Str := ["thing"]
theorem sc_is_integer : FnScope nm_is_integer ["thing"] (defScope s_is_integer) := ⟨rfl, rfl, rfl, by decide +kernel, rfl, by decide +kernel, by decide +kernel⟩
def dd_is_integer : He.DefD := ⟨("is_integer", none), "is_integer", "is_integer", defArgs s_is_integer, defBody s_is_integer, defScope s_is_integer, [], []⟩
abbrev s_BadWhen_init : Stmt := inClass (top 18) 0
abbrev nm_BadWhen_init : List Str := ["self", "when"]
theorem sc_BadWhen_init : FnScope nm_BadWhen_init ["self", "when"] (defScope s_BadWhen_init) := ⟨rfl, rfl, rfl, by decide +kernel, rfl, by decide +kernel, by decide +kernel⟩
def dd_BadWhen_init : He.DefD := ⟨("BadWhen", some "__init__"), "__init__", "BadWhen.__init__", defArgs s_BadWhen_init, defBody s_BadWhen_init, defScope s_BadWhen_init, [], []⟩
abbrev s_LogRecord_init : Stmt := inClass (top 23) 0
abbrev nm_LogRecord_init : List Str := ["self", "name", "levelno", "levelname", "msg", "args", "created", "extra"]
theorem sc_LogRecord_init : FnScope nm_LogRecord_init ["self", "name", "levelno", "levelname", "msg", "args", "created", "extra"] (defScope s_LogRecord_init) := ⟨rfl, rfl, rfl, by decide +kernel, rfl, by decide +kernel, by decide +kernel⟩
def dd_LogRecord_init : He.DefD := ⟨("LogRecord", some "__init__"), "__init__", "LogRecord.__init__", defArgs s_LogRecord_init, defBody s_LogRecord_init, defScope s_LogRecord_init, [], []⟩
abbrev s_Handler_init : Stmt := inClass (top 30) 0
abbrev nm_Handler_init : List Str := ["self", "yard"]
theorem sc_Handler_init : FnScope nm_Handler_init ["self", "yard"] (defScope s_Handler_init) := ⟨rfl, rfl, rfl, by decide +kernel, rfl, by decide +kernel, by decide +kernel⟩
def dd_Handler_init : He.DefD := ⟨("Handler", some "__init__"), "__init__", "Handler.__init__", defArgs s_Handler_init, defBody s_Handler_init, defScope s_Handler_init, [], []⟩
abbrev s_StreamHandler_init : Stmt := inClass (top 31) 0
abbrev nm_StreamHandler_init : List Str := ["self", "yard", "stream"]
theorem sc_StreamHandler_init : FnScope nm_StreamHandler_init ["self", "yard", "stream"] (defScope s_StreamHandler_init) := ⟨rfl, rfl, rfl, by decide +kernel, rfl, by decide +kernel, by decide +kernel⟩
def dd_StreamHandler_init : He.DefD := ⟨("StreamHandler", some "__init__"), "__init__", "StreamHandler.__init__", defArgs s_StreamHandler_init, defBody s_StreamHandler_init, defScope s_StreamHandler_init, [.str "stderr"], []⟩
abbrev s_FileHandler_init : Stmt := inClass (top 33) 0
abbrev nm_FileHandler_init : List Str := ["self", "yard", "filename", "mode", "delay"]
theorem sc_FileHandler_init : FnScope nm_FileHandler_init ["self", "yard", "filename", "mode", "delay"] (defScope s_FileHandler_init) := ⟨rfl, rfl, rfl, by decide +kernel, rfl, by decide +kernel, by decide +kernel⟩
def dd_FileHandler_init : He.DefD := ⟨("FileHandler", some "__init__"), "__init__", "FileHandler.__init__", defArgs s_FileHandler_init, defBody s_FileHandler_init, defScope s_FileHandler_init, [.str "a", .bl false], []⟩
abbrev s_checked_when : Stmt := top 41
abbrev nm_checked_when : List Str := ["when", "is_word", "sign", "word"]
theorem sc_checked_when : FnScope nm_checked_when ["when"] (defScope s_checked_when) := ⟨rfl, rfl, rfl, by decide +kernel, rfl, by decide +kernel, by decide +kernel⟩
def dd_checked_when : He.DefD := ⟨("checked_when", none), "checked_when", "checked_when", defArgs s_checked_when, defBody s_checked_when, defScope s_checked_when, [], []⟩
abbrev s_TimedRotatingFileHandler_init : Stmt := inClass (top 43) 0
abbrev nm_TimedRotatingFileHandler_init : List Str := ["self", "yard", "filename", "when", "interval", "backupCount", "delay", "word", "begun"]
theorem sc_TimedRotatingFileHandler_init : FnScope nm_TimedRotatingFileHandler_init ["self", "yard", "filename", "when", "interval", "backupCount", "delay"] (defScope s_TimedRotatingFileHandler_init) := ⟨rfl, rfl, rfl, by decide +kernel, rfl, by decide +kernel, by decide +kernel⟩
def dd_TimedRotatingFileHandler_init : He.DefD := ⟨("TimedRotatingFileHandler", some "__init__"), "__init__", "TimedRotatingFileHandler.__init__", defArgs s_TimedRotatingFileHandler_init, defBody s_TimedRotatingFileHandler_init, defScope s_TimedRotatingFileHandler_init, [.str "H", .int 1, .int 0, .bl false], []⟩
abbrev s_FileHandler_open_file : Stmt := inClass (top 33) 1
abbrev nm_FileHandler_open_file : List Str := ["self"]
theorem sc_FileHandler_open_file : FnScope nm_FileHandler_open_file ["self"] (defScope s_FileHandler_open_file) := ⟨rfl, rfl, rfl, by decide +kernel, rfl, by decide +kernel, by decide +kernel⟩
def dd_TimedRotatingFileHandler_open_file : He.DefD := ⟨("TimedRotatingFileHandler", some "open_file"), "open_file", "FileHandler.open_file", defArgs s_FileHandler_open_file, defBody s_FileHandler_open_file, defScope s_FileHandler_open_file, [], []⟩
abbrev s_TimedRotatingFileHandler_span : Stmt := inClass (top 43) 1
abbrev nm_TimedRotatingFileHandler_span : List Str := ["self"]
theorem sc_TimedRotatingFileHandler_span : FnScope nm_TimedRotatingFileHandler_span ["self"] (defScope s_TimedRotatingFileHandler_span) := ⟨rfl, rfl, rfl, by decide +kernel, rfl, by decide +kernel, by decide +kernel⟩
def dd_TimedRotatingFileHandler_span : He.DefD := ⟨("TimedRotatingFileHandler", some "span"), "span", "TimedRotatingFileHandler.span", defArgs s_TimedRotatingFileHandler_span, defBody s_TimedRotatingFileHandler_span, defScope s_TimedRotatingFileHandler_span, [], []⟩
abbrev s_TimedRotatingFileHandler_next_of : Stmt := inClass (top 43) 2
abbrev nm_TimedRotatingFileHandler_next_of : List Str := ["self", "seconds", "day"]
theorem sc_TimedRotatingFileHandler_next_of : FnScope nm_TimedRotatingFileHandler_next_of ["self", "seconds"] (defScope s_TimedRotatingFileHandler_next_of) := ⟨rfl, rfl, rfl, by decide +kernel, rfl, by decide +kernel, by decide +kernel⟩
def dd_TimedRotatingFileHandler_next_of : He.DefD := ⟨("TimedRotatingFileHandler", some "next_of"), "next_of", "TimedRotatingFileHandler.next_of", defArgs s_TimedRotatingFileHandler_next_of, defBody s_TimedRotatingFileHandler_next_of, defScope s_TimedRotatingFileHandler_next_of, [], []⟩
abbrev s_TimedRotatingFileHandler_shouldRollover : Stmt := inClass (top 43) 4
abbrev nm_TimedRotatingFileHandler_shouldRollover : List Str := ["self", "record"]
theorem sc_TimedRotatingFileHandler_shouldRollover : FnScope nm_TimedRotatingFileHandler_shouldRollover ["self", "record"] (defScope s_TimedRotatingFileHandler_shouldRollover) := ⟨rfl, rfl, rfl, by decide +kernel, rfl, by decide +kernel, by decide +kernel⟩
def dd_TimedRotatingFileHandler_shouldRollover : He.DefD := ⟨("TimedRotatingFileHandler", some "shouldRollover"), "shouldRollover", "TimedRotatingFileHandler.shouldRollover", defArgs s_TimedRotatingFileHandler_shouldRollover, defBody s_TimedRotatingFileHandler_shouldRollover, defScope s_TimedRotatingFileHandler_shouldRollover, [], []⟩
abbrev s_Logger_init : Stmt := inClass (top 55) 0
abbrev nm_Logger_init : List Str := ["self", "yard", "name", "level"]
theorem sc_Logger_init : FnScope nm_Logger_init ["self", "yard", "name", "level"] (defScope s_Logger_init) := ⟨rfl, rfl, rfl, by decide +kernel, rfl, by decide +kernel, by decide +kernel⟩
def dd_Logger_init : He.DefD := ⟨("Logger", some "__init__"), "__init__", "Logger.__init__", defArgs s_Logger_init, defBody s_Logger_init, defScope s_Logger_init, [], []⟩
abbrev s_Yard_init : Stmt := inClass (top 57) 0
abbrev nm_Yard_init : List Str := ["self", "now"]
theorem sc_Yard_init : FnScope nm_Yard_init ["self", "now"] (defScope s_Yard_init) := ⟨rfl, rfl, rfl, by decide +kernel, rfl, by decide +kernel, by decide +kernel⟩
def dd_Yard_init : He.DefD := ⟨("Yard", some "__init__"), "__init__", "Yard.__init__", defArgs s_Yard_init, defBody s_Yard_init, defScope s_Yard_init, [.int 0], []⟩
abbrev s_Yard_now : Stmt := inClass (top 57) 1
abbrev nm_Yard_now : List Str := ["self"]
theorem sc_Yard_now : FnScope nm_Yard_now ["self"] (defScope s_Yard_now) := ⟨rfl, rfl, rfl, by decide +kernel, rfl, by decide +kernel, by decide +kernel⟩
def dd_Yard_now : He.DefD := ⟨("Yard", some "now"), "now", "Yard.now", defArgs s_Yard_now, defBody s_Yard_now, defScope s_Yard_now, [], []⟩
abbrev s_Yard_advance : Stmt := inClass (top 57) 2
abbrev nm_Yard_advance : List Str := ["self", "milliseconds"]
theorem sc_Yard_advance : FnScope nm_Yard_advance ["self", "milliseconds"] (defScope s_Yard_advance) := ⟨rfl, rfl, rfl, by decide +kernel, rfl, by decide +kernel, by decide +kernel⟩
def dd_Yard_advance : He.DefD := ⟨("Yard", some "advance"), "advance", "Yard.advance", defArgs s_Yard_advance, defBody s_Yard_advance, defScope s_Yard_advance, [], []⟩
abbrev s_Yard_files : Stmt := inClass (top 57) 6
abbrev nm_Yard_files : List Str := ["self", "name"]
theorem sc_Yard_files : FnScope nm_Yard_files ["self"] (defScope s_Yard_files) := ⟨rfl, rfl, rfl, by decide +kernel, rfl, by decide +kernel, by decide +kernel⟩
def dd_Yard_files : He.DefD := ⟨("Yard", some "files"), "files", "Yard.files", defArgs s_Yard_files, defBody s_Yard_files, defScope s_Yard_files, [], []⟩
abbrev s_Yard_put_file : Stmt := inClass (top 57) 7
abbrev nm_Yard_put_file : List Str := ["self", "name", "text"]
theorem sc_Yard_put_file : FnScope nm_Yard_put_file ["self", "name", "text"] (defScope s_Yard_put_file) := ⟨rfl, rfl, rfl, by decide +kernel, rfl, by decide +kernel, by decide +kernel⟩
def dd_Yard_put_file : He.DefD := ⟨("Yard", some "put_file"), "put_file", "Yard.put_file", defArgs s_Yard_put_file, defBody s_Yard_put_file, defScope s_Yard_put_file, [], []⟩
abbrev s_Yard_has_file : Stmt := inClass (top 57) 9
abbrev nm_Yard_has_file : List Str := ["self", "name"]
theorem sc_Yard_has_file : FnScope nm_Yard_has_file ["self", "name"] (defScope s_Yard_has_file) := ⟨rfl, rfl, rfl, by decide +kernel, rfl, by decide +kernel, by decide +kernel⟩
def dd_Yard_has_file : He.DefD := ⟨("Yard", some "has_file"), "has_file", "Yard.has_file", defArgs s_Yard_has_file, defBody s_Yard_has_file, defScope s_Yard_has_file, [], []⟩
abbrev s_Yard_file_text : Stmt := inClass (top 57) 10
abbrev nm_Yard_file_text : List Str := ["self", "name"]
theorem sc_Yard_file_text : FnScope nm_Yard_file_text ["self", "name"] (defScope s_Yard_file_text) := ⟨rfl, rfl, rfl, by decide +kernel, rfl, by decide +kernel, by decide +kernel⟩
def dd_Yard_file_text : He.DefD := ⟨("Yard", some "file_text"), "file_text", "Yard.file_text", defArgs s_Yard_file_text, defBody s_Yard_file_text, defScope s_Yard_file_text, [], []⟩
abbrev s_Yard_file_time : Stmt := inClass (top 57) 11
abbrev nm_Yard_file_time : List Str := ["self", "name"]
theorem sc_Yard_file_time : FnScope nm_Yard_file_time ["self", "name"] (defScope s_Yard_file_time) := ⟨rfl, rfl, rfl, by decide +kernel, rfl, by decide +kernel, by decide +kernel⟩
def dd_Yard_file_time : He.DefD := ⟨("Yard", some "file_time"), "file_time", "Yard.file_time", defArgs s_Yard_file_time, defBody s_Yard_file_time, defScope s_Yard_file_time, [], []⟩
abbrev s_Yard_make_file : Stmt := inClass (top 57) 12
abbrev nm_Yard_make_file : List Str := ["self", "name"]
theorem sc_Yard_make_file : FnScope nm_Yard_make_file ["self", "name"] (defScope s_Yard_make_file) := ⟨rfl, rfl, rfl, by decide +kernel, rfl, by decide +kernel, by decide +kernel⟩
def dd_Yard_make_file : He.DefD := ⟨("Yard", some "make_file"), "make_file", "Yard.make_file", defArgs s_Yard_make_file, defBody s_Yard_make_file, defScope s_Yard_make_file, [], []⟩
abbrev s_Yard_enrol : Stmt := inClass (top 57) 24
abbrev nm_Yard_enrol : List Str := ["self", "handler"]
theorem sc_Yard_enrol : FnScope nm_Yard_enrol ["self", "handler"] (defScope s_Yard_enrol) := ⟨rfl, rfl, rfl, by decide +kernel, rfl, by decide +kernel, by decide +kernel⟩
def dd_Yard_enrol : He.DefD := ⟨("Yard", some "enrol"), "enrol", "Yard.enrol", defArgs s_Yard_enrol, defBody s_Yard_enrol, defScope s_Yard_enrol, [], []⟩
abbrev s_Yard_level_name : Stmt := inClass (top 57) 16
abbrev nm_Yard_level_name : List Str := ["self", "level"]
theorem sc_Yard_level_name : FnScope nm_Yard_level_name ["self", "level"] (defScope s_Yard_level_name) := ⟨rfl, rfl, rfl, by decide +kernel, rfl, by decide +kernel, by decide +kernel⟩
def dd_Yard_level_name : He.DefD := ⟨("Yard", some "level_name"), "level_name", "Yard.level_name", defArgs s_Yard_level_name, defBody s_Yard_level_name, defScope s_Yard_level_name, [], []⟩
abbrev s_Yard_level_of : Stmt := inClass (top 57) 18
abbrev nm_Yard_level_of : List Str := ["self", "level"]
theorem sc_Yard_level_of : FnScope nm_Yard_level_of ["self", "level"] (defScope s_Yard_level_of) := ⟨rfl, rfl, rfl, by decide +kernel, rfl, by decide +kernel, by decide +kernel⟩
def dd_Yard_level_of : He.DefD := ⟨("Yard", some "level_of"), "level_of", "Yard.level_of", defArgs s_Yard_level_of, defBody s_Yard_level_of, defScope s_Yard_level_of, [], []⟩
abbrev s_Yard_make_record : Stmt := inClass (top 57) 19
abbrev nm_Yard_make_record : List Str := ["self", "name", "level", "msg", "args", "extra", "number", "more", "bad", "key"]
theorem sc_Yard_make_record : FnScope nm_Yard_make_record ["self", "name", "level", "msg", "args", "extra"] (defScope s_Yard_make_record) := ⟨rfl, rfl, rfl, by decide +kernel, rfl, by decide +kernel, by decide +kernel⟩
def dd_Yard_make_record : He.DefD := ⟨("Yard", some "make_record"), "make_record", "Yard.make_record", defArgs s_Yard_make_record, defBody s_Yard_make_record, defScope s_Yard_make_record, [.adr (He.dflAt ("Yard", some "make_record") 0), .non], []⟩
abbrev s_Yard_shutdown : Stmt := inClass (top 57) 31
abbrev nm_Yard_shutdown : List Str := ["self", "handler"]
theorem sc_Yard_shutdown : FnScope nm_Yard_shutdown ["self"] (defScope s_Yard_shutdown) := ⟨rfl, rfl, rfl, by decide +kernel, rfl, by decide +kernel, by decide +kernel⟩
def dd_Yard_shutdown : He.DefD := ⟨("Yard", some "shutdown"), "shutdown", "Yard.shutdown", defArgs s_Yard_shutdown, defBody s_Yard_shutdown, defScope s_Yard_shutdown, [], []⟩
abbrev s__law_draw : Stmt := top 59
abbrev nm__law_draw : List Str := ["_law_stream", "_law_many", "_law_digit", "_law_mixed", "_law_last"]
theorem sc__law_draw : FnScope nm__law_draw ["_law_stream", "_law_many"] (defScope s__law_draw) := ⟨rfl, rfl, rfl, by decide +kernel, rfl, by decide +kernel, by decide +kernel⟩
def dd__law_draw : He.DefD := ⟨("_law_draw", none), "_law_draw", "_law_draw", defArgs s__law_draw, defBody s__law_draw, defScope s__law_draw, [], []⟩
abbrev s__law_pick : Stmt := top 60
abbrev nm__law_pick : List Str := ["_law_stream", "_law_some"]
theorem sc__law_pick : FnScope nm__law_pick ["_law_stream", "_law_some"] (defScope s__law_pick) := ⟨rfl, rfl, rfl, by decide +kernel, rfl, by decide +kernel, by decide +kernel⟩
def dd__law_pick : He.DefD := ⟨("_law_pick", none), "_law_pick", "_law_pick", defArgs s__law_pick, defBody s__law_pick, defScope s__law_pick, [], []⟩
abbrev s__law_same : Stmt := top 61
abbrev nm__law_same : List Str := ["_law_found", "_law_due_here", "_law_one", "_law_two"]
theorem sc__law_same : FnScope nm__law_same ["_law_found", "_law_due_here"] (defScope s__law_same) := ⟨rfl, rfl, rfl, by decide +kernel, rfl, by decide +kernel, by decide +kernel⟩
def dd__law_same : He.DefD := ⟨("_law_same", none), "_law_same", "_law_same", defArgs s__law_same, defBody s__law_same, defScope s__law_same, [], []⟩
abbrev s__law_moment : Stmt := top 62
abbrev nm__law_moment : List Str := ["_law_stream", "_law_some", "_law_near", "_law_way"]
theorem sc__law_moment : FnScope nm__law_moment ["_law_stream"] (defScope s__law_moment) := ⟨rfl, rfl, rfl, by decide +kernel, rfl, by decide +kernel, by decide +kernel⟩
def dd__law_moment : He.DefD := ⟨("_law_moment", none), "_law_moment", "_law_moment", defArgs s__law_moment, defBody s__law_moment, defScope s__law_moment, [], []⟩
abbrev s__law_due : Stmt := top 63
abbrev nm__law_due : List Str := ["_law_when", "_law_interval", "_law_seconds", "_law_sizes", "_law_day", "_law_many", "_law_k"]
theorem sc__law_due : FnScope nm__law_due ["_law_when", "_law_interval", "_law_seconds"] (defScope s__law_due) := ⟨rfl, rfl, rfl, by decide +kernel, rfl, by decide +kernel, by decide +kernel⟩
def dd__law_due : He.DefD := ⟨("_law_due", none), "_law_due", "_law_due", defArgs s__law_due, defBody s__law_due, defScope s__law_due, [], []⟩
abbrev s__law_is_refused : Stmt := top 64
abbrev nm__law_is_refused : List Str := ["_law_stream", "_law_odd", "_law_yard", "_law_thing", "_law_found", "e"]
theorem sc__law_is_refused : FnScope nm__law_is_refused ["_law_stream"] (defScope s__law_is_refused) := ⟨rfl, rfl, rfl, by decide +kernel, rfl, by decide +kernel, by decide +kernel⟩
def dd__law_is_refused : He.DefD := ⟨("_law_is_refused", none), "_law_is_refused", "_law_is_refused", defArgs s__law_is_refused, defBody s__law_is_refused, defScope s__law_is_refused, [], []⟩
abbrev s_law : Stmt := top 65
abbrev nm_law : List Str := ["_law_script", "_law_stream", "_law_whens", "_law_turn", "_law_now", "_law_old", "_law_when", "_law_interval", "_law_yard", "_law_files", "_law_begun", "_law_word", "_law_delay", "_law_handler", "_law_due_here", "_law_record", "_law_rest", "_law_found"]
theorem sc_law : FnScope nm_law ["_law_script"] (defScope s_law) := ⟨rfl, rfl, rfl, by decide +kernel, rfl, by decide +kernel, by decide +kernel⟩
def dd_law : He.DefD := ⟨("law", none), "law", "law", defArgs s_law, defBody s_law, defScope s_law, [], []⟩
def kv_FIRST_NAMES : List (Key × He.Dv) := [(Sum.inl (50), .str "CRITICAL"), (Sum.inl (40), .str "ERROR"), (Sum.inl (30), .str "WARNING"), (Sum.inl (20), .str "INFO"), (Sum.inl (10), .str "DEBUG"), (Sum.inl (0), .str "NOTSET")]
def kv_FIRST_NUMBERS : List (Key × He.Dv) := [(Sum.inr "CRITICAL", .int (50)), (Sum.inr "FATAL", .int (50)), (Sum.inr "ERROR", .int (40)), (Sum.inr "WARNING", .int (30)), (Sum.inr "WARN", .int (30)), (Sum.inr "INFO", .int (20)), (Sum.inr "DEBUG", .int (10)), (Sum.inr "NOTSET", .int (0))]
def kv_SPANS : List (Key × He.Dv) := [(Sum.inr "S", .int (1)), (Sum.inr "M", .int (60)), (Sum.inr "H", .int (3600)), (Sum.inr "D", .int (86400)), (Sum.inr "MIDNIGHT", .int (86400))]
def fa : List He.Fa := ([.glo "BadWhen", .glo "YardError", .glo "LogRecord", .glo "Filterer", .glo "Handler", .glo "StreamHandler", .glo "FileHandler", .glo "TimedRotatingFileHandler", .glo "Logger", .glo "Yard", .glo "copied_value", .glo "is_integer"] : List He.Fa) ++ ([.glo "checked_when", .glo "_law_draw", .glo "_law_pick", .glo "_law_same", .glo "_law_moment", .glo "_law_due", .glo "_law_is_refused", .glo "law", .int "WARNING" 30, .int "NOTSET" 0, .glo "OWN_FIELDS", .glo "FIRST_NAMES"] : List He.Fa) ++ ([.glo "FIRST_NUMBERS", .glo "SPANS", .glo "WEEKDAYS", .int "FIRST_WEEKDAY" 3, .str "DIGITS" "0123456789", .str "LETTERS" "abcdefghijklmnopqrstuvwxyzABCDEFGHIJKLMNOPQRSTUVWXYZ", .int "DAY_timed" 86400, .free "len", .free "isinstance", .free "int", .free "str", .free "list"] : List He.Fa) ++ ([.free "tuple", .free "bool", .free "dict", .free "range", .free "sorted", .free "all", .free "zip", .free "max", .free "min", .free "repr", .cls "LogRecord", .noat "LogRecord" "name"] : List He.Fa) ++ ([.noat "LogRecord" "levelno", .noat "LogRecord" "levelname", .noat "LogRecord" "msg", .noat "LogRecord" "given", .noat "LogRecord" "created", .noat "LogRecord" "extra", .cls "StreamHandler", .noat "StreamHandler" "filters", .noat "StreamHandler" "yard", .noat "StreamHandler" "level", .noat "StreamHandler" "formatter", .noat "StreamHandler" "name"] : List He.Fa) ++ ([.noat "StreamHandler" "terminator", .noat "StreamHandler" "closed", .noat "StreamHandler" "stream", .cls "TimedRotatingFileHandler", .noat "TimedRotatingFileHandler" "filters", .noat "TimedRotatingFileHandler" "yard", .noat "TimedRotatingFileHandler" "level", .noat "TimedRotatingFileHandler" "formatter", .noat "TimedRotatingFileHandler" "name", .noat "TimedRotatingFileHandler" "terminator", .noat "TimedRotatingFileHandler" "closed", .noat "TimedRotatingFileHandler" "filename"] : List He.Fa) ++ ([.noat "TimedRotatingFileHandler" "mode", .noat "TimedRotatingFileHandler" "delay", .noat "TimedRotatingFileHandler" "is_open", .noat "TimedRotatingFileHandler" "shut", .noat "TimedRotatingFileHandler" "when", .noat "TimedRotatingFileHandler" "interval", .noat "TimedRotatingFileHandler" "backup_count", .noat "TimedRotatingFileHandler" "rolloverAt", .cls "Logger", .noat "Logger" "filters", .noat "Logger" "yard", .noat "Logger" "name"] : List He.Fa) ++ ([.noat "Logger" "level", .noat "Logger" "propagate", .noat "Logger" "disabled", .noat "Logger" "handlers", .noat "Logger" "parent", .cls "Yard", .noat "Yard" "clock", .noat "Yard" "stream_texts", .noat "Yard" "file_rows", .noat "Yard" "names_of", .noat "Yard" "numbers_of", .noat "Yard" "bar_level"] : List He.Fa) ++ ([.noat "Yard" "logger_map", .noat "Yard" "made", .noat "Yard" "handler_names", .noat "Yard" "failure_rows", .noat "Yard" "root", .noat "Yard" "last_resort", .meth "TimedRotatingFileHandler" "open_file", .meth "TimedRotatingFileHandler" "span", .meth "TimedRotatingFileHandler" "next_of", .meth "TimedRotatingFileHandler" "shouldRollover", .meth "Yard" "now", .meth "Yard" "advance"] : List He.Fa) ++ ([.meth "Yard" "files", .meth "Yard" "put_file", .meth "Yard" "has_file", .meth "Yard" "file_text", .meth "Yard" "file_time", .meth "Yard" "make_file", .meth "Yard" "enrol", .meth "Yard" "level_name", .meth "Yard" "level_of", .meth "Yard" "make_record", .meth "Yard" "shutdown", .mkr "StreamHandler"] : List He.Fa) ++ ([.mkr "TimedRotatingFileHandler", .mkr "Logger", .mkr "Yard", .mkr "LogRecord"] : List He.Fa)
def fx : List RB.Fx := ([.exc "BadWhen" "when", .exm "BadWhen" "BadWhen" true, .pl "Logger", .pl "StreamHandler", .pl "LogRecord", .pl "TimedRotatingFileHandler", .sub "Logger" "Logger", .sub "StreamHandler" "StreamHandler", .sub "LogRecord" "LogRecord", .sub "TimedRotatingFileHandler" "TimedRotatingFileHandler", .cf "Filterer" "__init__", .cf "Handler" "__init__"] : List RB.Fx) ++ ([.cf "FileHandler" "__init__", .ty "BadWhen", .kit "BadWhen" "YardError" true, .ktn "WEEKDAYS", .ktup "WEEKDAYS" ["W0", "W1", "W2", "W3", "W4", "W5", "W6"], .dtup ("Yard", some "make_record") 0] : List RB.Fx)
def fn : List He.DefD := ([dd_Filterer_init, dd_copied_value, dd_is_integer, dd_BadWhen_init, dd_LogRecord_init, dd_Handler_init, dd_StreamHandler_init, dd_FileHandler_init, dd_checked_when, dd_TimedRotatingFileHandler_init, dd_TimedRotatingFileHandler_open_file, dd_TimedRotatingFileHandler_span] : List He.DefD) ++ ([dd_TimedRotatingFileHandler_next_of, dd_TimedRotatingFileHandler_shouldRollover, dd_Logger_init, dd_Yard_init, dd_Yard_now, dd_Yard_advance, dd_Yard_files, dd_Yard_put_file, dd_Yard_has_file, dd_Yard_file_text, dd_Yard_file_time, dd_Yard_make_file] : List He.DefD) ++ ([dd_Yard_enrol, dd_Yard_level_name, dd_Yard_level_of, dd_Yard_make_record, dd_Yard_shutdown, dd__law_draw, dd__law_pick, dd__law_same, dd__law_moment, dd__law_due, dd__law_is_refused, dd_law] : List He.DefD)
def ts : List RB.Tb := ([("FIRST_NAMES", kv_FIRST_NAMES), ("FIRST_NUMBERS", kv_FIRST_NUMBERS), ("SPANS", kv_SPANS)] : List RB.Tb)
def names : List PySem.Str := (["_wall", "DAY_dates", "MONTHS", "is_leap", "first_day", "date_of", "padded", "date_text", "clock_parts", "stamp", "YardError", "BadLevel"] : List PySem.Str) ++ (["BadExtra", "BadMessage", "BadField", "BadMode", "BadWhen", "OWN_FIELDS", "copied_value", "message_of", "LogRecord", "is_below", "let_by", "Filter"] : List PySem.Str) ++ (["Filterer", "Handler", "StreamHandler", "FileHandler", "DAY_timed", "SPANS", "WEEKDAYS", "FIRST_WEEKDAY", "DIGITS", "LETTERS", "checked_when", "is_alike"] : List PySem.Str) ++ (["TimedRotatingFileHandler", "CRITICAL", "ERROR", "WARNING", "INFO", "DEBUG", "NOTSET", "FIRST_NAMES", "FIRST_NUMBERS", "is_integer", "Logger", "Yard"] : List PySem.Str) ++ (["_law_draw", "_law_pick", "_law_same", "_law_moment", "_law_due", "_law_is_refused"] : List PySem.Str)
/-- what the text is, behind the top -/
structure Txt (P : Program) (w : World) (K : PySem.W.Frag) (mg : Str → Option Value) : Prop where
  g_BadWhen : mg "BadWhen" = some (.ref (He.ga K "BadWhen"))
  g_YardError : mg "YardError" = some (.ref (He.ga K "YardError"))
  g_LogRecord : mg "LogRecord" = some (.ref (He.ga K "LogRecord"))
  g_Filterer : mg "Filterer" = some (.ref (He.ga K "Filterer"))
  g_Handler : mg "Handler" = some (.ref (He.ga K "Handler"))
  g_StreamHandler : mg "StreamHandler" = some (.ref (He.ga K "StreamHandler"))
  g_FileHandler : mg "FileHandler" = some (.ref (He.ga K "FileHandler"))
  g_TimedRotatingFileHandler : mg "TimedRotatingFileHandler" = some (.ref (He.ga K "TimedRotatingFileHandler"))
  g_Logger : mg "Logger" = some (.ref (He.ga K "Logger"))
  g_Yard : mg "Yard" = some (.ref (He.ga K "Yard"))
  g_copied_value : mg "copied_value" = some (.ref (He.ga K "copied_value"))
  g_is_integer : mg "is_integer" = some (.ref (He.ga K "is_integer"))
  g_checked_when : mg "checked_when" = some (.ref (He.ga K "checked_when"))
  g__law_draw : mg "_law_draw" = some (.ref (He.ga K "_law_draw"))
  g__law_pick : mg "_law_pick" = some (.ref (He.ga K "_law_pick"))
  g__law_same : mg "_law_same" = some (.ref (He.ga K "_law_same"))
  g__law_moment : mg "_law_moment" = some (.ref (He.ga K "_law_moment"))
  g__law_due : mg "_law_due" = some (.ref (He.ga K "_law_due"))
  g__law_is_refused : mg "_law_is_refused" = some (.ref (He.ga K "_law_is_refused"))
  g_law : mg "law" = some (.ref (He.ga K "law"))
  g_WARNING : ∃ t, mg "WARNING" = some (.int 30 t)
  g_NOTSET : ∃ t, mg "NOTSET" = some (.int 0 t)
  g_OWN_FIELDS : mg "OWN_FIELDS" = some (.ref (He.ga K "OWN_FIELDS"))
  g_FIRST_NAMES : mg "FIRST_NAMES" = some (.ref (He.ga K "FIRST_NAMES"))
  g_FIRST_NUMBERS : mg "FIRST_NUMBERS" = some (.ref (He.ga K "FIRST_NUMBERS"))
  g_SPANS : mg "SPANS" = some (.ref (He.ga K "SPANS"))
  g_WEEKDAYS : mg "WEEKDAYS" = some (.ref (He.ga K "WEEKDAYS"))
  g_FIRST_WEEKDAY : ∃ t, mg "FIRST_WEEKDAY" = some (.int 3 t)
  g_DIGITS : ∃ t, mg "DIGITS" = some (.str "0123456789" t)
  g_LETTERS : ∃ t, mg "LETTERS" = some (.str "abcdefghijklmnopqrstuvwxyzABCDEFGHIJKLMNOPQRSTUVWXYZ" t)
  g_DAY_timed : ∃ t, mg "DAY_timed" = some (.int 86400 t)
  b_len : mg "len" = none
  b_isinstance : mg "isinstance" = none
  b_int : mg "int" = none
  b_str : mg "str" = none
  b_list : mg "list" = none
  b_tuple : mg "tuple" = none
  b_bool : mg "bool" = none
  b_dict : mg "dict" = none
  b_range : mg "range" = none
  b_sorted : mg "sorted" = none
  b_all : mg "all" = none
  b_zip : mg "zip" = none
  b_max : mg "max" = none
  b_min : mg "min" = none
  b_repr : mg "repr" = none
  c_LogRecord : Cls K (He.ga K "LogRecord")
  n_LogRecord_name : NoAttr K (He.ga K "LogRecord") "name"
  n_LogRecord_levelno : NoAttr K (He.ga K "LogRecord") "levelno"
  n_LogRecord_levelname : NoAttr K (He.ga K "LogRecord") "levelname"
  n_LogRecord_msg : NoAttr K (He.ga K "LogRecord") "msg"
  n_LogRecord_given : NoAttr K (He.ga K "LogRecord") "given"
  n_LogRecord_created : NoAttr K (He.ga K "LogRecord") "created"
  n_LogRecord_extra : NoAttr K (He.ga K "LogRecord") "extra"
  c_StreamHandler : Cls K (He.ga K "StreamHandler")
  n_StreamHandler_filters : NoAttr K (He.ga K "StreamHandler") "filters"
  n_StreamHandler_yard : NoAttr K (He.ga K "StreamHandler") "yard"
  n_StreamHandler_level : NoAttr K (He.ga K "StreamHandler") "level"
  n_StreamHandler_formatter : NoAttr K (He.ga K "StreamHandler") "formatter"
  n_StreamHandler_name : NoAttr K (He.ga K "StreamHandler") "name"
  n_StreamHandler_terminator : NoAttr K (He.ga K "StreamHandler") "terminator"
  n_StreamHandler_closed : NoAttr K (He.ga K "StreamHandler") "closed"
  n_StreamHandler_stream : NoAttr K (He.ga K "StreamHandler") "stream"
  c_TimedRotatingFileHandler : Cls K (He.ga K "TimedRotatingFileHandler")
  n_TimedRotatingFileHandler_filters : NoAttr K (He.ga K "TimedRotatingFileHandler") "filters"
  n_TimedRotatingFileHandler_yard : NoAttr K (He.ga K "TimedRotatingFileHandler") "yard"
  n_TimedRotatingFileHandler_level : NoAttr K (He.ga K "TimedRotatingFileHandler") "level"
  n_TimedRotatingFileHandler_formatter : NoAttr K (He.ga K "TimedRotatingFileHandler") "formatter"
  n_TimedRotatingFileHandler_name : NoAttr K (He.ga K "TimedRotatingFileHandler") "name"
  n_TimedRotatingFileHandler_terminator : NoAttr K (He.ga K "TimedRotatingFileHandler") "terminator"
  n_TimedRotatingFileHandler_closed : NoAttr K (He.ga K "TimedRotatingFileHandler") "closed"
  n_TimedRotatingFileHandler_filename : NoAttr K (He.ga K "TimedRotatingFileHandler") "filename"
  n_TimedRotatingFileHandler_mode : NoAttr K (He.ga K "TimedRotatingFileHandler") "mode"
  n_TimedRotatingFileHandler_delay : NoAttr K (He.ga K "TimedRotatingFileHandler") "delay"
  n_TimedRotatingFileHandler_is_open : NoAttr K (He.ga K "TimedRotatingFileHandler") "is_open"
  n_TimedRotatingFileHandler_shut : NoAttr K (He.ga K "TimedRotatingFileHandler") "shut"
  n_TimedRotatingFileHandler_when : NoAttr K (He.ga K "TimedRotatingFileHandler") "when"
  n_TimedRotatingFileHandler_interval : NoAttr K (He.ga K "TimedRotatingFileHandler") "interval"
  n_TimedRotatingFileHandler_backup_count : NoAttr K (He.ga K "TimedRotatingFileHandler") "backup_count"
  n_TimedRotatingFileHandler_rolloverAt : NoAttr K (He.ga K "TimedRotatingFileHandler") "rolloverAt"
  c_Logger : Cls K (He.ga K "Logger")
  n_Logger_filters : NoAttr K (He.ga K "Logger") "filters"
  n_Logger_yard : NoAttr K (He.ga K "Logger") "yard"
  n_Logger_name : NoAttr K (He.ga K "Logger") "name"
  n_Logger_level : NoAttr K (He.ga K "Logger") "level"
  n_Logger_propagate : NoAttr K (He.ga K "Logger") "propagate"
  n_Logger_disabled : NoAttr K (He.ga K "Logger") "disabled"
  n_Logger_handlers : NoAttr K (He.ga K "Logger") "handlers"
  n_Logger_parent : NoAttr K (He.ga K "Logger") "parent"
  c_Yard : Cls K (He.ga K "Yard")
  n_Yard_clock : NoAttr K (He.ga K "Yard") "clock"
  n_Yard_stream_texts : NoAttr K (He.ga K "Yard") "stream_texts"
  n_Yard_file_rows : NoAttr K (He.ga K "Yard") "file_rows"
  n_Yard_names_of : NoAttr K (He.ga K "Yard") "names_of"
  n_Yard_numbers_of : NoAttr K (He.ga K "Yard") "numbers_of"
  n_Yard_bar_level : NoAttr K (He.ga K "Yard") "bar_level"
  n_Yard_logger_map : NoAttr K (He.ga K "Yard") "logger_map"
  n_Yard_made : NoAttr K (He.ga K "Yard") "made"
  n_Yard_handler_names : NoAttr K (He.ga K "Yard") "handler_names"
  n_Yard_failure_rows : NoAttr K (He.ga K "Yard") "failure_rows"
  n_Yard_root : NoAttr K (He.ga K "Yard") "root"
  n_Yard_last_resort : NoAttr K (He.ga K "Yard") "last_resort"
  m_TimedRotatingFileHandler_open_file : Meth K (He.ga K "TimedRotatingFileHandler") "open_file" (He.ma K (He.ga K "TimedRotatingFileHandler") "open_file")
  m_TimedRotatingFileHandler_span : Meth K (He.ga K "TimedRotatingFileHandler") "span" (He.ma K (He.ga K "TimedRotatingFileHandler") "span")
  m_TimedRotatingFileHandler_next_of : Meth K (He.ga K "TimedRotatingFileHandler") "next_of" (He.ma K (He.ga K "TimedRotatingFileHandler") "next_of")
  m_TimedRotatingFileHandler_shouldRollover : Meth K (He.ga K "TimedRotatingFileHandler") "shouldRollover" (He.ma K (He.ga K "TimedRotatingFileHandler") "shouldRollover")
  m_Yard_now : Meth K (He.ga K "Yard") "now" (He.ma K (He.ga K "Yard") "now")
  m_Yard_advance : Meth K (He.ga K "Yard") "advance" (He.ma K (He.ga K "Yard") "advance")
  m_Yard_files : Meth K (He.ga K "Yard") "files" (He.ma K (He.ga K "Yard") "files")
  m_Yard_put_file : Meth K (He.ga K "Yard") "put_file" (He.ma K (He.ga K "Yard") "put_file")
  m_Yard_has_file : Meth K (He.ga K "Yard") "has_file" (He.ma K (He.ga K "Yard") "has_file")
  m_Yard_file_text : Meth K (He.ga K "Yard") "file_text" (He.ma K (He.ga K "Yard") "file_text")
  m_Yard_file_time : Meth K (He.ga K "Yard") "file_time" (He.ma K (He.ga K "Yard") "file_time")
  m_Yard_make_file : Meth K (He.ga K "Yard") "make_file" (He.ma K (He.ga K "Yard") "make_file")
  m_Yard_enrol : Meth K (He.ga K "Yard") "enrol" (He.ma K (He.ga K "Yard") "enrol")
  m_Yard_level_name : Meth K (He.ga K "Yard") "level_name" (He.ma K (He.ga K "Yard") "level_name")
  m_Yard_level_of : Meth K (He.ga K "Yard") "level_of" (He.ma K (He.ga K "Yard") "level_of")
  m_Yard_make_record : Meth K (He.ga K "Yard") "make_record" (He.ma K (He.ga K "Yard") "make_record")
  m_Yard_shutdown : Meth K (He.ga K "Yard") "shutdown" (He.ma K (He.ga K "Yard") "shutdown")
  k_StreamHandler : Mk K (He.ga K "StreamHandler") (He.ma K (He.ga K "StreamHandler") "__init__")
  k_TimedRotatingFileHandler : Mk K (He.ga K "TimedRotatingFileHandler") (He.ma K (He.ga K "TimedRotatingFileHandler") "__init__")
  k_Logger : Mk K (He.ga K "Logger") (He.ma K (He.ga K "Logger") "__init__")
  k_Yard : Mk K (He.ga K "Yard") (He.ma K (He.ga K "Yard") "__init__")
  k_LogRecord : Mk K (He.ga K "LogRecord") (He.ma K (He.ga K "LogRecord") "__init__")
  x_BadWhen : RB.ExcF K (He.ga K "BadWhen") "when"
  e_BadWhen_BadWhen : PySem.W.exmOne K (.ref (He.ga K "BadWhen")) (.ref (He.ga K "BadWhen")) = some true
  p_Logger : RA.PlainC K (He.ga K "Logger")
  p_StreamHandler : RA.PlainC K (He.ga K "StreamHandler")
  p_LogRecord : RA.PlainC K (He.ga K "LogRecord")
  p_TimedRotatingFileHandler : RA.PlainC K (He.ga K "TimedRotatingFileHandler")
  sub_Logger_Logger : RA.PairC K (He.ga K "Logger") (He.ga K "Logger")
  sub_StreamHandler_StreamHandler : RA.PairC K (He.ga K "StreamHandler") (He.ga K "StreamHandler")
  sub_LogRecord_LogRecord : RA.PairC K (He.ga K "LogRecord") (He.ga K "LogRecord")
  sub_TimedRotatingFileHandler_TimedRotatingFileHandler : RA.PairC K (He.ga K "TimedRotatingFileHandler") (He.ga K "TimedRotatingFileHandler")
  cf_Filterer_init : RA.CFun K (He.ga K "Filterer") "__init__" (He.ma K (He.ga K "Filterer") "__init__")
  cf_Handler_init : RA.CFun K (He.ga K "Handler") "__init__" (He.ma K (He.ga K "Handler") "__init__")
  cf_FileHandler_init : RA.CFun K (He.ga K "FileHandler") "__init__" (He.ma K (He.ga K "FileHandler") "__init__")
  ty_BadWhen : RB.TyC K (He.ga K "BadWhen")
  kit_BadWhen_YardError : PySem.W.kitOne K (.ref (He.ga K "BadWhen")) (.ref (He.ga K "YardError")) = some true
  ktn_WEEKDAYS : ∃ o, K.lookup (He.ga K "WEEKDAYS") = some o ∧ o.cls = .type "tuple" ∧ o.dict = none
  kt_WEEKDAYS : ∀ H : Hp, SqT K H (He.ga K "WEEKDAYS") ((["W0", "W1", "W2", "W3", "W4", "W5", "W6"] : List Str).map V.str)
  dt_Yard_make_record_0 : ∀ H : Hp, SqT K H (He.dflAt ("Yard", some "make_record") 0 K) []
  d_Filterer_init : Stands K "__init__" "Filterer.__init__" s_Filterer_init [] (He.fAd K ("Filterer", some "__init__"))
  d_copied_value : Stands K "copied_value" "copied_value" s_copied_value [] (He.fAd K ("copied_value", none))
  d_is_integer : Stands K "is_integer" "is_integer" s_is_integer [] (He.fAd K ("is_integer", none))
  d_BadWhen_init : Stands K "__init__" "BadWhen.__init__" s_BadWhen_init [] (He.fAd K ("BadWhen", some "__init__"))
  d_LogRecord_init : Stands K "__init__" "LogRecord.__init__" s_LogRecord_init [] (He.fAd K ("LogRecord", some "__init__"))
  d_Handler_init : Stands K "__init__" "Handler.__init__" s_Handler_init [] (He.fAd K ("Handler", some "__init__"))
  d_StreamHandler_init : Stands K "__init__" "StreamHandler.__init__" s_StreamHandler_init [(He.Dv.str "stderr" : He.Dv).v K] (He.fAd K ("StreamHandler", some "__init__"))
  d_FileHandler_init : Stands K "__init__" "FileHandler.__init__" s_FileHandler_init [(He.Dv.str "a" : He.Dv).v K, (He.Dv.bl false : He.Dv).v K] (He.fAd K ("FileHandler", some "__init__"))
  d_checked_when : Stands K "checked_when" "checked_when" s_checked_when [] (He.fAd K ("checked_when", none))
  d_TimedRotatingFileHandler_init : Stands K "__init__" "TimedRotatingFileHandler.__init__" s_TimedRotatingFileHandler_init [(He.Dv.str "H" : He.Dv).v K, (He.Dv.int 1 : He.Dv).v K, (He.Dv.int 0 : He.Dv).v K, (He.Dv.bl false : He.Dv).v K] (He.fAd K ("TimedRotatingFileHandler", some "__init__"))
  d_TimedRotatingFileHandler_open_file : Stands K "open_file" "FileHandler.open_file" s_FileHandler_open_file [] (He.fAd K ("TimedRotatingFileHandler", some "open_file"))
  d_TimedRotatingFileHandler_span : Stands K "span" "TimedRotatingFileHandler.span" s_TimedRotatingFileHandler_span [] (He.fAd K ("TimedRotatingFileHandler", some "span"))
  d_TimedRotatingFileHandler_next_of : Stands K "next_of" "TimedRotatingFileHandler.next_of" s_TimedRotatingFileHandler_next_of [] (He.fAd K ("TimedRotatingFileHandler", some "next_of"))
  d_TimedRotatingFileHandler_shouldRollover : Stands K "shouldRollover" "TimedRotatingFileHandler.shouldRollover" s_TimedRotatingFileHandler_shouldRollover [] (He.fAd K ("TimedRotatingFileHandler", some "shouldRollover"))
  d_Logger_init : Stands K "__init__" "Logger.__init__" s_Logger_init [] (He.fAd K ("Logger", some "__init__"))
  d_Yard_init : Stands K "__init__" "Yard.__init__" s_Yard_init [(He.Dv.int 0 : He.Dv).v K] (He.fAd K ("Yard", some "__init__"))
  d_Yard_now : Stands K "now" "Yard.now" s_Yard_now [] (He.fAd K ("Yard", some "now"))
  d_Yard_advance : Stands K "advance" "Yard.advance" s_Yard_advance [] (He.fAd K ("Yard", some "advance"))
  d_Yard_files : Stands K "files" "Yard.files" s_Yard_files [] (He.fAd K ("Yard", some "files"))
  d_Yard_put_file : Stands K "put_file" "Yard.put_file" s_Yard_put_file [] (He.fAd K ("Yard", some "put_file"))
  d_Yard_has_file : Stands K "has_file" "Yard.has_file" s_Yard_has_file [] (He.fAd K ("Yard", some "has_file"))
  d_Yard_file_text : Stands K "file_text" "Yard.file_text" s_Yard_file_text [] (He.fAd K ("Yard", some "file_text"))
  d_Yard_file_time : Stands K "file_time" "Yard.file_time" s_Yard_file_time [] (He.fAd K ("Yard", some "file_time"))
  d_Yard_make_file : Stands K "make_file" "Yard.make_file" s_Yard_make_file [] (He.fAd K ("Yard", some "make_file"))
  d_Yard_enrol : Stands K "enrol" "Yard.enrol" s_Yard_enrol [] (He.fAd K ("Yard", some "enrol"))
  d_Yard_level_name : Stands K "level_name" "Yard.level_name" s_Yard_level_name [] (He.fAd K ("Yard", some "level_name"))
  d_Yard_level_of : Stands K "level_of" "Yard.level_of" s_Yard_level_of [] (He.fAd K ("Yard", some "level_of"))
  d_Yard_make_record : Stands K "make_record" "Yard.make_record" s_Yard_make_record [(He.Dv.adr (He.dflAt ("Yard", some "make_record") 0) : He.Dv).v K, (He.Dv.non : He.Dv).v K] (He.fAd K ("Yard", some "make_record"))
  d_Yard_shutdown : Stands K "shutdown" "Yard.shutdown" s_Yard_shutdown [] (He.fAd K ("Yard", some "shutdown"))
  d__law_draw : Stands K "_law_draw" "_law_draw" s__law_draw [] (He.fAd K ("_law_draw", none))
  d__law_pick : Stands K "_law_pick" "_law_pick" s__law_pick [] (He.fAd K ("_law_pick", none))
  d__law_same : Stands K "_law_same" "_law_same" s__law_same [] (He.fAd K ("_law_same", none))
  d__law_moment : Stands K "_law_moment" "_law_moment" s__law_moment [] (He.fAd K ("_law_moment", none))
  d__law_due : Stands K "_law_due" "_law_due" s__law_due [] (He.fAd K ("_law_due", none))
  d__law_is_refused : Stands K "_law_is_refused" "_law_is_refused" s__law_is_refused [] (He.fAd K ("_law_is_refused", none))
  d_law : Stands K "law" "law" s_law [] (He.fAd K ("law", none))
  t_FIRST_NAMES : RB.KD P w K (He.ga K "FIRST_NAMES") (kv_FIRST_NAMES.map fun q => (q.1, q.2.v K))
  t_FIRST_NUMBERS : RB.KD P w K (He.ga K "FIRST_NUMBERS") (kv_FIRST_NUMBERS.map fun q => (q.1, q.2.v K))
  t_SPANS : RB.KD P w K (He.ga K "SPANS") (kv_SPANS.map fun q => (q.1, q.2.v K))
theorem Txt.of {P : Program} {w : World} {K : PySem.W.Frag} {h : Heap} {mg : Str → Option Value} (X : K.In h) (G : h.Ns mainGlobals mg) (c : RB.SaysB fa fx fn ts w K) : Txt P w K mg where
    g_BadWhen := He.glo_ok X G (c.fact 0 (f := .glo "BadWhen") (by rfl))
    g_YardError := He.glo_ok X G (c.fact 1 (f := .glo "YardError") (by rfl))
    g_LogRecord := He.glo_ok X G (c.fact 2 (f := .glo "LogRecord") (by rfl))
    g_Filterer := He.glo_ok X G (c.fact 3 (f := .glo "Filterer") (by rfl))
    g_Handler := He.glo_ok X G (c.fact 4 (f := .glo "Handler") (by rfl))
    g_StreamHandler := He.glo_ok X G (c.fact 5 (f := .glo "StreamHandler") (by rfl))
    g_FileHandler := He.glo_ok X G (c.fact 6 (f := .glo "FileHandler") (by rfl))
    g_TimedRotatingFileHandler := He.glo_ok X G (c.fact 7 (f := .glo "TimedRotatingFileHandler") (by rfl))
    g_Logger := He.glo_ok X G (c.fact 8 (f := .glo "Logger") (by rfl))
    g_Yard := He.glo_ok X G (c.fact 9 (f := .glo "Yard") (by rfl))
    g_copied_value := He.glo_ok X G (c.fact 10 (f := .glo "copied_value") (by rfl))
    g_is_integer := He.glo_ok X G (c.fact 11 (f := .glo "is_integer") (by rfl))
    g_checked_when := He.glo_ok X G (c.fact 12 (f := .glo "checked_when") (by rfl))
    g__law_draw := He.glo_ok X G (c.fact 13 (f := .glo "_law_draw") (by rfl))
    g__law_pick := He.glo_ok X G (c.fact 14 (f := .glo "_law_pick") (by rfl))
    g__law_same := He.glo_ok X G (c.fact 15 (f := .glo "_law_same") (by rfl))
    g__law_moment := He.glo_ok X G (c.fact 16 (f := .glo "_law_moment") (by rfl))
    g__law_due := He.glo_ok X G (c.fact 17 (f := .glo "_law_due") (by rfl))
    g__law_is_refused := He.glo_ok X G (c.fact 18 (f := .glo "_law_is_refused") (by rfl))
    g_law := He.glo_ok X G (c.fact 19 (f := .glo "law") (by rfl))
    g_WARNING := He.int_ok X G (c.fact 20 (f := .int "WARNING" 30) (by rfl))
    g_NOTSET := He.int_ok X G (c.fact 21 (f := .int "NOTSET" 0) (by rfl))
    g_OWN_FIELDS := He.glo_ok X G (c.fact 22 (f := .glo "OWN_FIELDS") (by rfl))
    g_FIRST_NAMES := He.glo_ok X G (c.fact 23 (f := .glo "FIRST_NAMES") (by rfl))
    g_FIRST_NUMBERS := He.glo_ok X G (c.fact 24 (f := .glo "FIRST_NUMBERS") (by rfl))
    g_SPANS := He.glo_ok X G (c.fact 25 (f := .glo "SPANS") (by rfl))
    g_WEEKDAYS := He.glo_ok X G (c.fact 26 (f := .glo "WEEKDAYS") (by rfl))
    g_FIRST_WEEKDAY := He.int_ok X G (c.fact 27 (f := .int "FIRST_WEEKDAY" 3) (by rfl))
    g_DIGITS := He.str_ok X G (c.fact 28 (f := .str "DIGITS" "0123456789") (by rfl))
    g_LETTERS := He.str_ok X G (c.fact 29 (f := .str "LETTERS" "abcdefghijklmnopqrstuvwxyzABCDEFGHIJKLMNOPQRSTUVWXYZ") (by rfl))
    g_DAY_timed := He.int_ok X G (c.fact 30 (f := .int "DAY_timed" 86400) (by rfl))
    b_len := He.free_ok X G (c.fact 31 (f := .free "len") (by rfl))
    b_isinstance := He.free_ok X G (c.fact 32 (f := .free "isinstance") (by rfl))
    b_int := He.free_ok X G (c.fact 33 (f := .free "int") (by rfl))
    b_str := He.free_ok X G (c.fact 34 (f := .free "str") (by rfl))
    b_list := He.free_ok X G (c.fact 35 (f := .free "list") (by rfl))
    b_tuple := He.free_ok X G (c.fact 36 (f := .free "tuple") (by rfl))
    b_bool := He.free_ok X G (c.fact 37 (f := .free "bool") (by rfl))
    b_dict := He.free_ok X G (c.fact 38 (f := .free "dict") (by rfl))
    b_range := He.free_ok X G (c.fact 39 (f := .free "range") (by rfl))
    b_sorted := He.free_ok X G (c.fact 40 (f := .free "sorted") (by rfl))
    b_all := He.free_ok X G (c.fact 41 (f := .free "all") (by rfl))
    b_zip := He.free_ok X G (c.fact 42 (f := .free "zip") (by rfl))
    b_max := He.free_ok X G (c.fact 43 (f := .free "max") (by rfl))
    b_min := He.free_ok X G (c.fact 44 (f := .free "min") (by rfl))
    b_repr := He.free_ok X G (c.fact 45 (f := .free "repr") (by rfl))
    c_LogRecord := He.cls_ok (c.fact 46 (f := .cls "LogRecord") (by rfl))
    n_LogRecord_name := He.noat_ok (c.fact 47 (f := .noat "LogRecord" "name") (by rfl))
    n_LogRecord_levelno := He.noat_ok (c.fact 48 (f := .noat "LogRecord" "levelno") (by rfl))
    n_LogRecord_levelname := He.noat_ok (c.fact 49 (f := .noat "LogRecord" "levelname") (by rfl))
    n_LogRecord_msg := He.noat_ok (c.fact 50 (f := .noat "LogRecord" "msg") (by rfl))
    n_LogRecord_given := He.noat_ok (c.fact 51 (f := .noat "LogRecord" "given") (by rfl))
    n_LogRecord_created := He.noat_ok (c.fact 52 (f := .noat "LogRecord" "created") (by rfl))
    n_LogRecord_extra := He.noat_ok (c.fact 53 (f := .noat "LogRecord" "extra") (by rfl))
    c_StreamHandler := He.cls_ok (c.fact 54 (f := .cls "StreamHandler") (by rfl))
    n_StreamHandler_filters := He.noat_ok (c.fact 55 (f := .noat "StreamHandler" "filters") (by rfl))
    n_StreamHandler_yard := He.noat_ok (c.fact 56 (f := .noat "StreamHandler" "yard") (by rfl))
    n_StreamHandler_level := He.noat_ok (c.fact 57 (f := .noat "StreamHandler" "level") (by rfl))
    n_StreamHandler_formatter := He.noat_ok (c.fact 58 (f := .noat "StreamHandler" "formatter") (by rfl))
    n_StreamHandler_name := He.noat_ok (c.fact 59 (f := .noat "StreamHandler" "name") (by rfl))
    n_StreamHandler_terminator := He.noat_ok (c.fact 60 (f := .noat "StreamHandler" "terminator") (by rfl))
    n_StreamHandler_closed := He.noat_ok (c.fact 61 (f := .noat "StreamHandler" "closed") (by rfl))
    n_StreamHandler_stream := He.noat_ok (c.fact 62 (f := .noat "StreamHandler" "stream") (by rfl))
    c_TimedRotatingFileHandler := He.cls_ok (c.fact 63 (f := .cls "TimedRotatingFileHandler") (by rfl))
    n_TimedRotatingFileHandler_filters := He.noat_ok (c.fact 64 (f := .noat "TimedRotatingFileHandler" "filters") (by rfl))
    n_TimedRotatingFileHandler_yard := He.noat_ok (c.fact 65 (f := .noat "TimedRotatingFileHandler" "yard") (by rfl))
    n_TimedRotatingFileHandler_level := He.noat_ok (c.fact 66 (f := .noat "TimedRotatingFileHandler" "level") (by rfl))
    n_TimedRotatingFileHandler_formatter := He.noat_ok (c.fact 67 (f := .noat "TimedRotatingFileHandler" "formatter") (by rfl))
    n_TimedRotatingFileHandler_name := He.noat_ok (c.fact 68 (f := .noat "TimedRotatingFileHandler" "name") (by rfl))
    n_TimedRotatingFileHandler_terminator := He.noat_ok (c.fact 69 (f := .noat "TimedRotatingFileHandler" "terminator") (by rfl))
    n_TimedRotatingFileHandler_closed := He.noat_ok (c.fact 70 (f := .noat "TimedRotatingFileHandler" "closed") (by rfl))
    n_TimedRotatingFileHandler_filename := He.noat_ok (c.fact 71 (f := .noat "TimedRotatingFileHandler" "filename") (by rfl))
    n_TimedRotatingFileHandler_mode := He.noat_ok (c.fact 72 (f := .noat "TimedRotatingFileHandler" "mode") (by rfl))
    n_TimedRotatingFileHandler_delay := He.noat_ok (c.fact 73 (f := .noat "TimedRotatingFileHandler" "delay") (by rfl))
    n_TimedRotatingFileHandler_is_open := He.noat_ok (c.fact 74 (f := .noat "TimedRotatingFileHandler" "is_open") (by rfl))
    n_TimedRotatingFileHandler_shut := He.noat_ok (c.fact 75 (f := .noat "TimedRotatingFileHandler" "shut") (by rfl))
    n_TimedRotatingFileHandler_when := He.noat_ok (c.fact 76 (f := .noat "TimedRotatingFileHandler" "when") (by rfl))
    n_TimedRotatingFileHandler_interval := He.noat_ok (c.fact 77 (f := .noat "TimedRotatingFileHandler" "interval") (by rfl))
    n_TimedRotatingFileHandler_backup_count := He.noat_ok (c.fact 78 (f := .noat "TimedRotatingFileHandler" "backup_count") (by rfl))
    n_TimedRotatingFileHandler_rolloverAt := He.noat_ok (c.fact 79 (f := .noat "TimedRotatingFileHandler" "rolloverAt") (by rfl))
    c_Logger := He.cls_ok (c.fact 80 (f := .cls "Logger") (by rfl))
    n_Logger_filters := He.noat_ok (c.fact 81 (f := .noat "Logger" "filters") (by rfl))
    n_Logger_yard := He.noat_ok (c.fact 82 (f := .noat "Logger" "yard") (by rfl))
    n_Logger_name := He.noat_ok (c.fact 83 (f := .noat "Logger" "name") (by rfl))
    n_Logger_level := He.noat_ok (c.fact 84 (f := .noat "Logger" "level") (by rfl))
    n_Logger_propagate := He.noat_ok (c.fact 85 (f := .noat "Logger" "propagate") (by rfl))
    n_Logger_disabled := He.noat_ok (c.fact 86 (f := .noat "Logger" "disabled") (by rfl))
    n_Logger_handlers := He.noat_ok (c.fact 87 (f := .noat "Logger" "handlers") (by rfl))
    n_Logger_parent := He.noat_ok (c.fact 88 (f := .noat "Logger" "parent") (by rfl))
    c_Yard := He.cls_ok (c.fact 89 (f := .cls "Yard") (by rfl))
    n_Yard_clock := He.noat_ok (c.fact 90 (f := .noat "Yard" "clock") (by rfl))
    n_Yard_stream_texts := He.noat_ok (c.fact 91 (f := .noat "Yard" "stream_texts") (by rfl))
    n_Yard_file_rows := He.noat_ok (c.fact 92 (f := .noat "Yard" "file_rows") (by rfl))
    n_Yard_names_of := He.noat_ok (c.fact 93 (f := .noat "Yard" "names_of") (by rfl))
    n_Yard_numbers_of := He.noat_ok (c.fact 94 (f := .noat "Yard" "numbers_of") (by rfl))
    n_Yard_bar_level := He.noat_ok (c.fact 95 (f := .noat "Yard" "bar_level") (by rfl))
    n_Yard_logger_map := He.noat_ok (c.fact 96 (f := .noat "Yard" "logger_map") (by rfl))
    n_Yard_made := He.noat_ok (c.fact 97 (f := .noat "Yard" "made") (by rfl))
    n_Yard_handler_names := He.noat_ok (c.fact 98 (f := .noat "Yard" "handler_names") (by rfl))
    n_Yard_failure_rows := He.noat_ok (c.fact 99 (f := .noat "Yard" "failure_rows") (by rfl))
    n_Yard_root := He.noat_ok (c.fact 100 (f := .noat "Yard" "root") (by rfl))
    n_Yard_last_resort := He.noat_ok (c.fact 101 (f := .noat "Yard" "last_resort") (by rfl))
    m_TimedRotatingFileHandler_open_file := He.meth_ok (c.fact 102 (f := .meth "TimedRotatingFileHandler" "open_file") (by rfl))
    m_TimedRotatingFileHandler_span := He.meth_ok (c.fact 103 (f := .meth "TimedRotatingFileHandler" "span") (by rfl))
    m_TimedRotatingFileHandler_next_of := He.meth_ok (c.fact 104 (f := .meth "TimedRotatingFileHandler" "next_of") (by rfl))
    m_TimedRotatingFileHandler_shouldRollover := He.meth_ok (c.fact 105 (f := .meth "TimedRotatingFileHandler" "shouldRollover") (by rfl))
    m_Yard_now := He.meth_ok (c.fact 106 (f := .meth "Yard" "now") (by rfl))
    m_Yard_advance := He.meth_ok (c.fact 107 (f := .meth "Yard" "advance") (by rfl))
    m_Yard_files := He.meth_ok (c.fact 108 (f := .meth "Yard" "files") (by rfl))
    m_Yard_put_file := He.meth_ok (c.fact 109 (f := .meth "Yard" "put_file") (by rfl))
    m_Yard_has_file := He.meth_ok (c.fact 110 (f := .meth "Yard" "has_file") (by rfl))
    m_Yard_file_text := He.meth_ok (c.fact 111 (f := .meth "Yard" "file_text") (by rfl))
    m_Yard_file_time := He.meth_ok (c.fact 112 (f := .meth "Yard" "file_time") (by rfl))
    m_Yard_make_file := He.meth_ok (c.fact 113 (f := .meth "Yard" "make_file") (by rfl))
    m_Yard_enrol := He.meth_ok (c.fact 114 (f := .meth "Yard" "enrol") (by rfl))
    m_Yard_level_name := He.meth_ok (c.fact 115 (f := .meth "Yard" "level_name") (by rfl))
    m_Yard_level_of := He.meth_ok (c.fact 116 (f := .meth "Yard" "level_of") (by rfl))
    m_Yard_make_record := He.meth_ok (c.fact 117 (f := .meth "Yard" "make_record") (by rfl))
    m_Yard_shutdown := He.meth_ok (c.fact 118 (f := .meth "Yard" "shutdown") (by rfl))
    k_StreamHandler := He.mkr_ok (c.fact 119 (f := .mkr "StreamHandler") (by rfl))
    k_TimedRotatingFileHandler := He.mkr_ok (c.fact 120 (f := .mkr "TimedRotatingFileHandler") (by rfl))
    k_Logger := He.mkr_ok (c.fact 121 (f := .mkr "Logger") (by rfl))
    k_Yard := He.mkr_ok (c.fact 122 (f := .mkr "Yard") (by rfl))
    k_LogRecord := He.mkr_ok (c.fact 123 (f := .mkr "LogRecord") (by rfl))
    x_BadWhen := RB.exc_ok (c.more 0 (f := .exc "BadWhen" "when") (by rfl))
    e_BadWhen_BadWhen := RB.exm_ok (c.more 1 (f := .exm "BadWhen" "BadWhen" true) (by rfl))
    p_Logger := RB.pl_ok (c.more 2 (f := .pl "Logger") (by rfl))
    p_StreamHandler := RB.pl_ok (c.more 3 (f := .pl "StreamHandler") (by rfl))
    p_LogRecord := RB.pl_ok (c.more 4 (f := .pl "LogRecord") (by rfl))
    p_TimedRotatingFileHandler := RB.pl_ok (c.more 5 (f := .pl "TimedRotatingFileHandler") (by rfl))
    sub_Logger_Logger := RB.sub_ok (c.more 6 (f := .sub "Logger" "Logger") (by rfl))
    sub_StreamHandler_StreamHandler := RB.sub_ok (c.more 7 (f := .sub "StreamHandler" "StreamHandler") (by rfl))
    sub_LogRecord_LogRecord := RB.sub_ok (c.more 8 (f := .sub "LogRecord" "LogRecord") (by rfl))
    sub_TimedRotatingFileHandler_TimedRotatingFileHandler := RB.sub_ok (c.more 9 (f := .sub "TimedRotatingFileHandler" "TimedRotatingFileHandler") (by rfl))
    cf_Filterer_init := RB.cf_ok (c.more 10 (f := .cf "Filterer" "__init__") (by rfl))
    cf_Handler_init := RB.cf_ok (c.more 11 (f := .cf "Handler" "__init__") (by rfl))
    cf_FileHandler_init := RB.cf_ok (c.more 12 (f := .cf "FileHandler" "__init__") (by rfl))
    ty_BadWhen := RB.ty_ok (c.more 13 (f := .ty "BadWhen") (by rfl))
    kit_BadWhen_YardError := RB.kit_ok (c.more 14 (f := .kit "BadWhen" "YardError" true) (by rfl))
    ktn_WEEKDAYS := RB.ktn_ok (c.more 15 (f := .ktn "WEEKDAYS") (by rfl))
    kt_WEEKDAYS := RB.ktup_ok (c.more 16 (f := .ktup "WEEKDAYS" ["W0", "W1", "W2", "W3", "W4", "W5", "W6"]) (by rfl))
    dt_Yard_make_record_0 := RB.dtup_ok (c.more 17 (f := .dtup ("Yard", some "make_record") 0) (by rfl))
    d_Filterer_init := c.d.def_ 0 (d := dd_Filterer_init) (by rfl)
    d_copied_value := c.d.def_ 1 (d := dd_copied_value) (by rfl)
    d_is_integer := c.d.def_ 2 (d := dd_is_integer) (by rfl)
    d_BadWhen_init := c.d.def_ 3 (d := dd_BadWhen_init) (by rfl)
    d_LogRecord_init := c.d.def_ 4 (d := dd_LogRecord_init) (by rfl)
    d_Handler_init := c.d.def_ 5 (d := dd_Handler_init) (by rfl)
    d_StreamHandler_init := c.d.def_ 6 (d := dd_StreamHandler_init) (by rfl)
    d_FileHandler_init := c.d.def_ 7 (d := dd_FileHandler_init) (by rfl)
    d_checked_when := c.d.def_ 8 (d := dd_checked_when) (by rfl)
    d_TimedRotatingFileHandler_init := c.d.def_ 9 (d := dd_TimedRotatingFileHandler_init) (by rfl)
    d_TimedRotatingFileHandler_open_file := c.d.def_ 10 (d := dd_TimedRotatingFileHandler_open_file) (by rfl)
    d_TimedRotatingFileHandler_span := c.d.def_ 11 (d := dd_TimedRotatingFileHandler_span) (by rfl)
    d_TimedRotatingFileHandler_next_of := c.d.def_ 12 (d := dd_TimedRotatingFileHandler_next_of) (by rfl)
    d_TimedRotatingFileHandler_shouldRollover := c.d.def_ 13 (d := dd_TimedRotatingFileHandler_shouldRollover) (by rfl)
    d_Logger_init := c.d.def_ 14 (d := dd_Logger_init) (by rfl)
    d_Yard_init := c.d.def_ 15 (d := dd_Yard_init) (by rfl)
    d_Yard_now := c.d.def_ 16 (d := dd_Yard_now) (by rfl)
    d_Yard_advance := c.d.def_ 17 (d := dd_Yard_advance) (by rfl)
    d_Yard_files := c.d.def_ 18 (d := dd_Yard_files) (by rfl)
    d_Yard_put_file := c.d.def_ 19 (d := dd_Yard_put_file) (by rfl)
    d_Yard_has_file := c.d.def_ 20 (d := dd_Yard_has_file) (by rfl)
    d_Yard_file_text := c.d.def_ 21 (d := dd_Yard_file_text) (by rfl)
    d_Yard_file_time := c.d.def_ 22 (d := dd_Yard_file_time) (by rfl)
    d_Yard_make_file := c.d.def_ 23 (d := dd_Yard_make_file) (by rfl)
    d_Yard_enrol := c.d.def_ 24 (d := dd_Yard_enrol) (by rfl)
    d_Yard_level_name := c.d.def_ 25 (d := dd_Yard_level_name) (by rfl)
    d_Yard_level_of := c.d.def_ 26 (d := dd_Yard_level_of) (by rfl)
    d_Yard_make_record := c.d.def_ 27 (d := dd_Yard_make_record) (by rfl)
    d_Yard_shutdown := c.d.def_ 28 (d := dd_Yard_shutdown) (by rfl)
    d__law_draw := c.d.def_ 29 (d := dd__law_draw) (by rfl)
    d__law_pick := c.d.def_ 30 (d := dd__law_pick) (by rfl)
    d__law_same := c.d.def_ 31 (d := dd__law_same) (by rfl)
    d__law_moment := c.d.def_ 32 (d := dd__law_moment) (by rfl)
    d__law_due := c.d.def_ 33 (d := dd__law_due) (by rfl)
    d__law_is_refused := c.d.def_ 34 (d := dd__law_is_refused) (by rfl)
    d_law := c.d.def_ 35 (d := dd_law) (by rfl)
    t_FIRST_NAMES := c.tb 0 (t := ("FIRST_NAMES", kv_FIRST_NAMES)) (by rfl) P
    t_FIRST_NUMBERS := c.tb 1 (t := ("FIRST_NUMBERS", kv_FIRST_NUMBERS)) (by rfl) P
    t_SPANS := c.tb 2 (t := ("SPANS", kv_SPANS)) (by rfl) P
end K17

set_option Elab.async false
set_option linter.all false
set_option maxRecDepth 100000
set_option maxHeartbeats 4000000
/-! The head's facts over the objects that the module's names reach, level by level. -/
namespace RHd
open PySem PySem.Spec PyProof.Rows L2 He RB
/-- what the objects at a level name -/
def lvl (g : Addr → Option Obj) : Nat → List Addr → List Addr
  | 0, as => as
  | n + 1, as => as ++ lvl g n (as.flatMap fun a => match g a with
    | some o => (refsD o).filter fun b => !Nat.beq b a
    | none => [])
def asL (g : Addr → Option Obj) (n : Nat) : List Addr := lvl g n [mainGlobals]
def obsLG (n : Nat) (fa : List Fa) (fx : List Fx) (fn : List DefD) (ts : List Tb) (g : Addr → Option Obj) : AlB := obsB fa fx fn ts (frG g (extraB g fx (asL g n)))
def hookL (n : Nat) (fa : List Fa) (fx : List Fx) (fn : List DefD) (ts : List Tb) : PySem.W.Hook where
  α := AlB
  obs := fun s => obsLG n fa fx fn ts s.heap.get?
  val := fun w => valB fn ts w
  says := fun w h => ∃ K : PySem.W.Frag, K.In h ∧ SaysB fa fx fn ts w K
  of := fun _ _ e => ⟨_, frG_in, e⟩
  keeps := fun _ _ _ ⟨K, hK, c⟩ k => ⟨K, PySem.W.Frag.In.keeps hK k, c⟩
theorem obsLG_eq {n : Nat} {fa : List Fa} {fx : List Fx} {fn : List DefD} {ts : List Tb} {g : Addr → Option Obj} {s : Shared} (h : ∀ a, g a = s.heap.get? a) : obsLG n fa fx fn ts g = (hookL n fa fx fn ts).obs s := by
  have e : g = s.heap.get? := funext h
  rw [e] <;> rfl
end RHd

set_option Elab.async false
set_option linter.all false
set_option maxRecDepth 100000
set_option maxHeartbeats 0
namespace K17
open PySem PySem.Spec PyProof.Rows L2 RC
/-! ### the head -/
abbrev R : PySem.W.OpenRow := PySem.W.OpenLaw.row PySem.Challenge.rw_recordyard_k44_ends_of_times
abbrev hk : PySem.W.Hook := RHd.hookL 4 fa fx fn ts
def ob (s : PySem.W.SharedT) : RB.AlB := RHd.obsLG 4 fa fx fn ts (HandSHeadRun.getT s)
theorem ob_eq (s : PySem.W.SharedT) : ob s = hk.obs s.abs := RHd.obsLG_eq (HandSHeadRun.getT_eq s)
open HandSHeadRun PySem.W
abbrev AlR : Type := List (Option (List (Option (Key × Int)))) × Bool
noncomputable def fr (s : PySem.W.SharedT) : PySem.W.Frag := He.frG (HandSHeadRun.getT s) (RB.extraB (HandSHeadRun.getT s) fx (RHd.asL (HandSHeadRun.getT s) 4))
noncomputable def obD (s : PySem.W.SharedT) : He.AlD := He.obsD fa fn (fr s)
noncomputable def obR (s : PySem.W.SharedT) : AlR := (ts.map fun t => RB.tbRow (fr s) t.1, (fx.all fun f => f.ok (fr s)) && ts.all fun t => RB.tbVals (fr s) t)
noncomputable abbrev lk (w : World) (s : PySem.W.SharedT) : Bool := HandSHeadRun.looksF R.prog (boot_heap w.params) s.abs
noncomputable abbrev sn (s : PySem.W.SharedT) := HandSHeadRun.seenQ (PySem.W.view R.prog [65]) names (importedModules R.prog.main.body) (fun s => xlAt (PySem.W.view R.prog [65]) [] s && recOk R.toRowW.records s) s.abs
theorem hjoin3 {S A B D C : Type} {o : Option S} {a : S → A} {b : S → B} {d : S → D} {r : S → C} {x : A} {y : B} {v : D} {z : C} (h1 : o.map (fun s => (a s, b s, r s)) = some (x, y, z)) (h2 : o.map d = some v) : o.map (fun s => (a s, b s, (d s, r s))) = some (x, y, (v, z)) := by
  cases o with
  | none => cases h1
  | some s =>
    have e1 := Option.some.inj h1
    have e2 := Option.some.inj h2
    injection e1 with p1 p2
    injection p2 with p2 p3
    show some (a s, b s, (d s, r s)) = _
    rw [p1, p2, p3, e2]
theorem r1_f (w : World) (os : OsState) : (HandSHeadRun.endF (HandSHeadRun.stepQ (HandSHeadRun.denQ tabQ) R.prog (w.withFollow "special-get-raises" false)) 15000 R.prog (w.withFollow "special-get-raises" false) os).map (fun s => (lk (w.withFollow "special-get-raises" false) s, sn s, obR s)) = some (true, openGood (PySem.W.view R.prog [65]) names, (ts.map fun t => RB.tbWant (w.withFollow "special-get-raises" false).params t.2, true)) := by
  kernel_rfl
theorem r2_f (w : World) (os : OsState) : (HandSHeadRun.endF (HandSHeadRun.stepQ (HandSHeadRun.denQ tabQ) R.prog (w.withFollow "special-get-raises" false)) 15000 R.prog (w.withFollow "special-get-raises" false) os).map obD = some (He.valD fn) := by
  kernel_rfl
theorem run_f (w : World) : HandSHeadRun.RunEq R (PySem.W.view R.prog [65]) hk ob 15000 names (w.withFollow "special-get-raises" false) := fun os => hjoin3 (r1_f w os) (r2_f w os)
theorem r1_t (w : World) (os : OsState) : (HandSHeadRun.endF (HandSHeadRun.stepQ (HandSHeadRun.denQ tabQ) R.prog (w.withFollow "special-get-raises" true)) 15000 R.prog (w.withFollow "special-get-raises" true) os).map (fun s => (lk (w.withFollow "special-get-raises" true) s, sn s, obR s)) = some (true, openGood (PySem.W.view R.prog [65]) names, (ts.map fun t => RB.tbWant (w.withFollow "special-get-raises" true).params t.2, true)) := by
  kernel_rfl
theorem r2_t (w : World) (os : OsState) : (HandSHeadRun.endF (HandSHeadRun.stepQ (HandSHeadRun.denQ tabQ) R.prog (w.withFollow "special-get-raises" true)) 15000 R.prog (w.withFollow "special-get-raises" true) os).map obD = some (He.valD fn) := by
  kernel_rfl
theorem run_t (w : World) : HandSHeadRun.RunEq R (PySem.W.view R.prog [65]) hk ob 15000 names (w.withFollow "special-get-raises" true) := fun os => hjoin3 (r1_t w os) (r2_t w os)
theorem run (w : World) : HandSHeadRun.RunEq R (PySem.W.view R.prog [65]) hk ob 15000 names w := PySem.W.byRow2 "special-get-raises" (P := fun w => HandSHeadRun.RunEq R (PySem.W.view R.prog [65]) hk ob 15000 names w) run_f run_t w
end K17

set_option Elab.async false
set_option linter.all false
set_option maxRecDepth 100000
set_option maxHeartbeats 4000000
/-! What changes: all but some places stay; what is apart from these places. -/
namespace RC
open PySem PySem.Spec PyProof.Rows L2
theorem yes_if {σ : L2.St} {H : Hp} {A B : Hp → Prop} (h : A H) : tYes σ H (fun b H3 => if b = true then A H3 else B H3) := by
  show if true = true then A H else B H
  rw [if_pos rfl]; exact h
theorem seq_of {a b : TS} {D : Ends} {σ : L2.St} {H : Hp} (Mid : L2.St → Hp → Prop) (hA : ∀ b' : TS, (∀ σ' H', Mid σ' H' → b' D σ' H') → tSeq a b' D σ H) (hB : ∀ σ' H', Mid σ' H' → b D σ' H') : tSeq a b D σ H := hA b hB
theorem free_same {H H' : Hp} {a : Addr} (s : Same H H') (h : H' a = none) : H a = none := by
  cases e : H a with
  | none => rfl
  | some o => rw [s _ _ e] at h; cases h
theorem cxK2 {CX : CXT} {P : Program} {w : World} {K : PySem.W.Frag} {mg : Str → Option Value} {base : Heap} {N : List Str} {qual : Str} {scope : Scope} {f : Addr} {cd : Value} {A : Around} {outer : List Env} {sh : Shared} {H : Hp} {E : XK} :
    (cxOf CX P w K mg base N qual scope f cd A outer sh H E).K = K := rfl
theorem cxK3 {CX : CXT} {P : Program} {w : World} {K : PySem.W.Frag} {mg : Str → Option Value} {base : Heap} {N : List Str} {qual : Str} {scope : Scope} {f : Addr} {cd : Value} {A : Around} {outer : List Env} {sh : Shared} {H : Hp} {E : XK} {p : Addr × Obj} :
    (L2H.cxH CX P w K mg base N qual scope f cd A outer sh H E p).K = K := rfl
theorem hu_hot {A : Around} {k : Nat} {h : Option Value} (hr : Room k A) : (A.mark h).units + 1 < cLine := (show A.units + 1 < cLine from hu_of hr)
/-- all that stands outside of ms is as it was -/
def Chg (ms : List Addr) (H H' : Hp) : Prop := ∀ b o, b ∉ ms → H b = some o → H' b = some o
section
variable {ms ns : List Addr} {H H' H'' G : Hp} {a b p : Addr} {o o' : HO}
theorem Chg.refl : Chg ms H H := fun _ _ _ e => e
theorem Chg.of (s : Same H H') : Chg ms H H' := fun b o _ e => s b o e
theorem Chg.trans (c : Chg ms H H') (d : Chg ms H' H'') : Chg ms H H'' := fun b o n e => d b o n (c b o n e)
theorem Chg.mono (c : Chg ms H H') (h : ∀ b ∈ ms, b ∈ ns) : Chg ns H H' := fun b o n e => c b o (fun z => n (h b z)) e
theorem Chg.put (h : a ∈ ms) : Chg ms H (upd H a o) := fun b u n e => by rw [upd_ne (fun z => n (by rw [z]; exact h))]; exact e
theorem Chg.sameR (c : Chg ms H H') (s : Same H' H'') : Chg ms H H'' := fun b o n e => s b o (c b o n e)
theorem Chg.sameL (s : Same H H') (c : Chg ms H' H'') : Chg ms H H'' := fun b o n e => c b o n (s b o e)
theorem Chg.new (c : Chg ms H H') (h : H a = none) : Chg ms H (upd H' a o) := fun b u n e => by rw [upd_ne (ne_of_none e h)]; exact c b u n e
theorem Chg.set (c : Chg ms H H') (h : a ∈ ms) : Chg ms H (upd H' a o) := c.trans (Chg.put h)
theorem nin1 (h : b ≠ a) : b ∉ [a] := fun z => h (List.mem_singleton.mp z)
theorem nin2 {c : Addr} (h : b ≠ a) (k : b ≠ c) : b ∉ [a, c] := fun z => (List.mem_cons.mp z).elim h fun z => k (List.mem_singleton.mp z)
/-- what an apart heap holds stays -/
theorem Chg.apart (c : Chg ms H H') (s : Same G H) (out : ∀ m ∈ ms, G m = none) : Same G H' := fun b o e => c b o (fun z => by rw [out b z] at e; cases e) (s b o e)
/-- the heap without some places -/
noncomputable def rst (S : Addr → Prop) (H : Hp) : Hp := open Classical in fun b => if S b then none else H b
variable {S S' : Addr → Prop}
theorem rst_same : Same (rst S H) H := fun b o e => by
  unfold rst at e
  split at e
  · cases e
  · exact e
theorem rst_at (h : H b = some o) (n : ¬ S b) : rst S H b = some o := by unfold rst; rw [if_neg n]; exact h
theorem rst_none (h : S b) : rst S H b = none := by unfold rst; rw [if_pos h]
theorem rst_next (c : ∀ b o, ¬ S b → H b = some o → H' b = some o) (h : ∀ b, S' b → S b ∨ H b = none) : Same (rst S H) (rst S' H') := fun b o e => by
  have e2 := rst_same _ _ e
  have n : ¬ S b := fun z => by rw [rst_none z] at e; cases e
  refine rst_at (c b o n e2) fun z => ?_
  rcases h b z with k | k
  · exact n k
  · rw [k] at e2; cases e2
end
end RC

set_option Elab.async false
set_option linter.all false
set_option maxRecDepth 100000
set_option maxHeartbeats 4000000
/-! Further rules: two lists of the same objects are equal; a text times an int. -/
namespace RX
open PySem PySem.Spec PyProof.Rows PySem.SeqAt L2
open RD
/-- two lists of objects that are the same, or of unlike lengths -/
def rEqLL (K : PySem.W.Frag) : R2 := fun x y H Q => ∃ (a b : Addr) (as bs : List Addr), x = .ref a ∧ y = .ref b ∧ SqL K H a (as.map V.ref) ∧ SqL K H b (bs.map V.ref) ∧ (as = bs ∨ as.length ≠ bs.length) ∧ Q (.bl (decide (as = bs))) H
def rNeLL (K : PySem.W.Frag) : R2 := fun x y H Q => ∃ (a b : Addr) (as bs : List Addr), x = .ref a ∧ y = .ref b ∧ SqL K H a (as.map V.ref) ∧ SqL K H b (bs.map V.ref) ∧ (as = bs ∨ as.length ≠ bs.length) ∧ Q (.bl (!decide (as = bs))) H
section
variable {X : Cx}
theorem size_ne {as bs : List Addr} (h : as.length ≠ bs.length) : ((as.map Value.ref).toArray.size != (bs.map Value.ref).toArray.size) = true := by simpa using h
theorem op_eqLL (hu : X.A.units < cLine) : OpR X (compareOp .Eq) (rEqLL X.K) := by
  intro pins s σ H x y v u Q I rx ry h
  obtain ⟨a, b, as, bs, rfl, rfl, ha, hb, c, q⟩ := h
  cases rx
  cases ry
  obtain ⟨its, rv, hl, _⟩ := I.list ha
  obtain ⟨its2, rv2, hl2, _⟩ := I.list hb
  obtain rfl := vals_refs rv
  obtain rfl := vals_refs rv2
  rcases c with rfl | c
  · refine eq_listAt (e := fun _ => true) hl.isList hl2.isList rfl hu (fun j h1 h2 => EqAt.same _) ?_
    rw [all_true]
    rw [decide_eq_true rfl] at q
    exact fin_bl I q rfl
  · rw [decide_eq_false (fun z => c (by rw [z]))] at q
    exact eq_list_lengthsAt hl.isList hl2.isList (size_ne c) hu (fin_bl I q rfl)
theorem op_neLL (hu : X.A.units < cLine) : OpR X (compareOp .NotEq) (rNeLL X.K) := by
  intro pins s σ H x y v u Q I rx ry h
  obtain ⟨a, b, as, bs, rfl, rfl, ha, hb, c, q⟩ := h
  cases rx
  cases ry
  obtain ⟨its, rv, hl, _⟩ := I.list ha
  obtain ⟨its2, rv2, hl2, _⟩ := I.list hb
  obtain rfl := vals_refs rv
  obtain rfl := vals_refs rv2
  rcases c with rfl | c
  · refine RcNeAt.lists (e := fun _ => true) hl.isList hl2.isList rfl hu (fun j h1 h2 => EqAt.same _) X.prog X.w X.xe _ ?_
    rw [all_true]
    rw [decide_eq_true rfl] at q
    exact fin_bl I q rfl
  · rw [decide_eq_false (fun z => c (by rw [z]))] at q
    exact RcNeAt.lists_lengths hl.isList hl2.isList (size_ne c) hu X.prog X.w X.xe _ (fin_bl I q rfl)
end
end RX

set_option Elab.async false
set_option linter.all false
set_option maxRecDepth 100000
set_option maxHeartbeats 4000000
/-! How long the text of a number is. -/
namespace RN
open PySem PySem.Spec PyProof.Rows L2
theorem log2_div (n : Nat) (h : 10 ≤ n) : (n / 10).log2 + 1 ≤ n.log2 := by
  have h1 : n / 10 ≤ n / 2 := by omega
  have h2 : n / 10 ≠ 0 := by omega
  have h3 : n ≠ 0 := by omega
  have h4 := Nat.log2_self_le h2
  have h5 : 2 ^ ((n / 10).log2 + 1) ≤ n := by rw [Nat.pow_succ]; omega
  exact (Nat.le_log2 h3).mpr h5
theorem len_numL (n : Nat) : (TL.numL n).length ≤ n.log2 + 1 := by
  induction n using Nat.strongRecOn with
  | ind n ih =>
    by_cases h : n < 10
    · rw [TL.numL_lt h]; simp
    · have h : 10 ≤ n := by omega
      rw [TL.numL_step h, List.length_append]
      have := ih (n / 10) (by omega)
      have := log2_div n h
      simp only [List.length_singleton]
      omega
theorem len_toString (i : Int) : (Str.ofString (toString i)).length ≤ i.natAbs.log2 + 2 := by
  cases i with
  | ofNat n =>
    have e := TL.tl_num n
    rw [TL.len_tl]
    show (TL.tl (Str.ofString (toString ((n : Nat) : Int)))).length ≤ _
    rw [e]
    have := len_numL n
    show _ ≤ n.log2 + 2
    omega
  | negSucc n =>
    have e := TL.tl_num (n + 1)
    have e2 : toString (Int.negSucc n) = "-" ++ toString (((n + 1 : Nat)) : Int) := rfl
    rw [TL.len_tl, e2]
    have e3 : TL.tl (Str.ofString ("-" ++ toString (((n + 1 : Nat)) : Int))) = 45 :: TL.tl (Str.ofString (toString (((n + 1 : Nat)) : Int))) := by
      show (Str.ofString _).cps.toList = 45 :: (Str.ofString _).cps.toList
      rw [signs_ofString, signs_ofString, String.toList_append, List.map_append]; rfl
    rw [e3, e, List.length_cons]
    have := len_numL (n + 1)
    show _ ≤ (n + 1).log2 + 2
    omega
end RN

set_option Elab.async false
set_option linter.all false
set_option maxRecDepth 100000
set_option maxHeartbeats 4000000
/-! Further rules: a list and an empty one. -/
namespace RY
open PySem PySem.Spec PyProof.Rows PySem.SeqAt L2
open RD
def rEqE (K : PySem.W.Frag) : R2 := fun x y H Q => ∃ (a b : Addr) (xs : List V), x = .ref a ∧ y = .ref b ∧ SqL K H a xs ∧ SqL K H b [] ∧ Q (.bl (xs.isEmpty)) H
def rNeE (K : PySem.W.Frag) : R2 := fun x y H Q => ∃ (a b : Addr) (xs : List V), x = .ref a ∧ y = .ref b ∧ SqL K H a xs ∧ SqL K H b [] ∧ Q (.bl (!xs.isEmpty)) H
section
variable {X : Cx}
theorem vals_nil {us : List Value} (h : Vals [] us) : us = [] := by cases h; rfl
theorem vals_cons {x : V} {xs : List V} {us : List Value} (h : Vals (x :: xs) us) : (us.toArray.size != (([] : List Value)).toArray.size) = true := by cases h; simp
theorem op_eqE (hu : X.A.units < cLine) : OpR X (compareOp .Eq) (rEqE X.K) := by
  intro pins s σ H x y v u Q I rx ry h
  obtain ⟨a, b, xs, rfl, rfl, ha, hb, q⟩ := h
  cases rx
  cases ry
  obtain ⟨its, rv, hl, _⟩ := I.list ha
  obtain ⟨its2, rv2, hl2, _⟩ := I.list hb
  obtain rfl := vals_nil rv2
  cases xs with
  | nil =>
    obtain rfl := vals_nil rv
    refine eq_listAt (e := fun _ => true) hl.isList hl2.isList rfl hu (fun j h1 h2 => EqAt.same _) ?_
    rw [all_true]
    exact fin_bl I q rfl
  | cons x xs => exact eq_list_lengthsAt hl.isList hl2.isList (vals_cons rv) hu (fin_bl I q rfl)
theorem op_neE (hu : X.A.units < cLine) : OpR X (compareOp .NotEq) (rNeE X.K) := by
  intro pins s σ H x y v u Q I rx ry h
  obtain ⟨a, b, xs, rfl, rfl, ha, hb, q⟩ := h
  cases rx
  cases ry
  obtain ⟨its, rv, hl, _⟩ := I.list ha
  obtain ⟨its2, rv2, hl2, _⟩ := I.list hb
  obtain rfl := vals_nil rv2
  cases xs with
  | nil =>
    obtain rfl := vals_nil rv
    refine RcNeAt.lists (e := fun _ => true) hl.isList hl2.isList rfl hu (fun j h1 h2 => EqAt.same _) X.prog X.w X.xe _ ?_
    rw [all_true]
    exact fin_bl I q rfl
  | cons x xs => exact RcNeAt.lists_lengths hl.isList hl2.isList (vals_cons rv) hu X.prog X.w X.xe _ (fin_bl I q rfl)

def flatW : V → Bool
  | .int _ => true
  | .bl _ => true
  | .str _ => true
  | .non => true
  | .ref _ => true
  | _ => false
/-- two lists of the same plain values -/
def rEqV (K : PySem.W.Frag) : R2 := fun x y H Q => ∃ (a b : Addr) (xs : List V), x = .ref a ∧ y = .ref b ∧ SqL K H a xs ∧ SqL K H b xs ∧ xs.all flatW = true ∧ Q (.bl true) H
def rNeV (K : PySem.W.Frag) : R2 := fun x y H Q => ∃ (a b : Addr) (xs : List V), x = .ref a ∧ y = .ref b ∧ SqL K H a xs ∧ SqL K H b xs ∧ xs.all flatW = true ∧ Q (.bl false) H
theorem eq_same {A : Around} {s : Shared} {x : V} {u u' : Value} (h : RelV x u) (h' : RelV x u') (hf : flatW x = true) : EqAt A s u u' true := by
  cases x with
  | int i =>
    obtain ⟨t, rfl⟩ := h
    obtain ⟨t', rfl⟩ := h'
    have e := EqAt.int_int (A := A) (s := s) i t i t'
    rw [beq_self_eq_true] at e; exact e
  | str i =>
    obtain ⟨t, rfl⟩ := h
    obtain ⟨t', rfl⟩ := h'
    have e := EqAt.str_str (A := A) (s := s) i t i t'
    rw [beq_self_eq_true] at e; exact e
  | bl b => cases h; cases h'; exact EqAt.same _
  | non => cases h; cases h'; exact EqAt.same _
  | ref a => cases h; cases h'; exact EqAt.same _
  | _ => cases hf
theorem eq_all {A : Around} {s : Shared} : ∀ {xs : List V} {us us' : List Value}, Vals xs us → Vals xs us' → xs.all flatW = true → us.length = us'.length ∧ ∀ (j : Nat) (h1 : j < us.length) (h2 : j < us'.length), EqAt A s us[j] us'[j] true
  | [], _, _, .nil, .nil, _ => ⟨rfl, fun j h1 _ => absurd h1 (Nat.not_lt_zero _)⟩
  | x :: xs, _, _, .cons h t, .cons h' t', hf => by
    rw [List.all_cons, Bool.and_eq_true] at hf
    have ih := eq_all (A := A) (s := s) t t' hf.2
    refine ⟨congrArg (· + 1) ih.1, fun j h1 h2 => ?_⟩
    cases j with
    | zero => exact eq_same h h' hf.1
    | succ j => exact ih.2 j (Nat.lt_of_succ_lt_succ h1) (Nat.lt_of_succ_lt_succ h2)
theorem all_tt (n : Nat) : (List.range n).all (fun _ => true) = true := by simp
theorem op_eqV (hu : X.A.units < cLine) : OpR X (compareOp .Eq) (rEqV X.K) := by
  intro pins s σ H x y v u Q I rx ry h
  obtain ⟨a, b, xs, rfl, rfl, ha, hb, hf, q⟩ := h
  cases rx
  cases ry
  obtain ⟨its, rv, hl, _⟩ := I.list ha
  obtain ⟨its2, rv2, hl2, _⟩ := I.list hb
  have e := eq_all (A := X.A.in1) (s := s) rv rv2 hf
  refine eq_listAt (e := fun _ => true) hl.isList hl2.isList (by simpa using e.1) hu (fun j h1 h2 => by simpa using e.2 j (by simpa using h1) (by simpa using h2)) ?_
  rw [all_tt]
  exact fin_bl I q rfl
theorem op_neV (hu : X.A.units < cLine) : OpR X (compareOp .NotEq) (rNeV X.K) := by
  intro pins s σ H x y v u Q I rx ry h
  obtain ⟨a, b, xs, rfl, rfl, ha, hb, hf, q⟩ := h
  cases rx
  cases ry
  obtain ⟨its, rv, hl, _⟩ := I.list ha
  obtain ⟨its2, rv2, hl2, _⟩ := I.list hb
  have e := eq_all (A := X.A.in1) (s := s) rv rv2 hf
  refine RcNeAt.lists (e := fun _ => true) hl.isList hl2.isList (by simpa using e.1) hu (fun j h1 h2 => by simpa using e.2 j (by simpa using h1) (by simpa using h2)) X.prog X.w X.xe _ ?_
  rw [all_tt]
  exact fin_bl I q rfl
end
end RY

set_option Elab.async false
set_option linter.all false
set_option maxRecDepth 100000
set_option maxHeartbeats 0
namespace K17
open PySem PySem.Spec PyProof.Rows L2 RC
section
variable {P : Program} {w : World} {K : PySem.W.Frag} {mg : Str → Option Value} {base : Heap}
theorem dp_ints {K : PySem.W.Frag} {H : Hp} : ∀ ns : List Int, DpAll K H (ns.map V.int) (ns.map PyData.int)
  | [] => .nil
  | n :: r => .cons (.int n) (dp_ints r)
theorem can_ints : ∀ ns : List Int, PyData.canLayAll0 (ns.map PyData.int) = true
  | [] => by simp [PyData.canLayAll0]
  | n :: r => by simp [PyData.canLayAll0, PyData.canLay0, can_ints r]
theorem dep_ints : ∀ ns : List Int, PyData.depthAll (ns.map PyData.int) = 0
  | [] => by simp [PyData.depthAll]
  | n :: r => by simp [PyData.depthAll, PyData.depth, dep_ints r]
theorem sh_ints (ns : List Int) : SeqAt.shaped (.list (ns.map PyData.int)) = true := by
  unfold SeqAt.shaped
  simp [PyData.canLay0, PyData.depth, can_ints, dep_ints]
theorem seq0 (v : Int) (r : List Int) : seqIndex? 0 ((v :: r).map V.int).length = some 0 := by
  unfold seqIndex?
  simp
def spDraw : Sp := fun vs H Q _ => ∃ (s l : Addr) (n : Nat) (many : Int), vs = [.ref s, .int many] ∧ Stm H s l n ∧ n ≤ 1000000 ∧ 1 ≤ many ∧ many < 4611686018427387904 ∧
  ∀ (H' : Hp) (d : Int), Old s l H H' → Stm H' s l (n + 1) → 0 ≤ d → d < many → Q (.int d) H'
theorem old_upd {s l : Addr} {H H' : Hp} {a : Addr} {o : HO} (h : Old s l H H') (ha : a = s ∨ a = l ∨ H' a = none) : Old s l H (upd H' a o) := fun b u h1 h2 e => by
  have e2 := h b u h1 h2 e
  have hb : b ≠ a := by
    rintro rfl
    rcases ha with z | z | z
    · exact h1 z
    · exact h2 z
    · rw [z] at e2; cases e2
  rw [upd_ne hb]; exact e2
theorem stm_small {d c : Int} (h : 0 ≤ d) (h1 : d < 2147483647) (h2 : 0 ≤ c) (h3 : c ≤ 1000001) : (d + 104729 * c + 17).natAbs < 2 ^ 64 := by omega
theorem stm_small2 {m c : Int} (h : 0 ≤ m) (h1 : m < 2147483629) (h2 : 0 ≤ c) (h3 : c ≤ 1000001) : (m * 48271 + 40503 * c * c + 13).natAbs < 2 ^ 64 := by
  have q1 : 0 ≤ 40503 * c * c := Int.mul_nonneg (by omega) h2
  have q2 : 40503 * c * c ≤ 40503 * c * 1000001 := Int.mul_le_mul_of_nonneg_left h3 (by omega)
  omega
theorem ok_draw {f : Addr} (T : Txt P w K mg) (F : Stands K "_law_draw" "_law_draw" s__law_draw [] f) : Callable P w K mg base 1 f ["_law_stream", "_law_many"] [] spDraw := by
  refine F.call0 sc__law_draw (fun vs H Q E h => ?_) (fun cdv A outer s H vs Q E hr h => ?_) (fun _ _ _ _ _ _ us hl => match us, hl with | [_, _], _ => rfl)
  · obtain ⟨s, l, n, m, rfl, _⟩ := h
    rfl
  obtain ⟨p, l, n, many, rfl, hS, hn, hm1, hm2, hQ⟩ := h
  refine ⟨_, (pss_cons (ps_while PassesOwn.never (PW.pt (pw_and (pt_cmpR op_eq (pe_ix ix_list (pv 0) pe_int (fun _ _ => rfl)) pe_int (nomark _)) (pw_and1 (pt_cmpR (op_neD hr.units) (pe_ix ix_list (pv 0) pe_int (fun _ _ => rfl)) (pe_lst pa_nil) (nomark _))))) (pss_cons (ps_asg (pe_bm PySem.F.plainAttrs_list PySem.F.slot_list_pop PySem.F.type_list_pop mt_popAt (pe_ix ix_list (pv 0) pe_int (fun _ _ => rfl)) (pa_cons pe_int pa_nil)) (pg_sub (pv 0) pe_int set_list))
      (pss_one (ps_if (pt_cmpR op_lt (pe_ix ix_list (pv 0) pe_int (fun _ _ => rfl)) (pe_op op_pow pe_int pe_int) (nomark _)) (pss_cons (ps_asg (pe_op op_mod (pe_callTy call_int1 (by rfl) T.b_int (by decide +kernel) (pa_cons (pe_op op_add (pe_op op_add (pe_op op_mul (pe_ix ix_list (pv 0) pe_int (fun _ _ => rfl)) pe_int) (pe_ix ix_list (pv 0) pe_int (fun _ _ => rfl))) pe_int) pa_nil)) pe_int) (pg_sub (pv 0) pe_int set_list))
      (pss_one (ps_asg pe_int (pg_sub (pv 0) pe_int set_list)))) pss_nil))))
      (pss_cons (ps_if (pt_cmpR op_gt (pe_ix ix_list (pv 0) pe_int (fun _ _ => rfl)) pe_int (nomark _)) (pss_cons (ps_set (i := 2) sc__law_draw.nd rfl (by first | exact Or.inl rfl | exact Or.inr rfl) (pe_op op_mod (pe_callTy call_int1 (by rfl) T.b_int (by decide +kernel) (pa_cons (pe_ix ix_list (pv 0) pe_int (fun _ _ => rfl)) pa_nil)) (pv 1)))
      (pss_cons (ps_asg (pe_op op_fdivW (pe_ix ix_list (pv 0) pe_int (fun _ _ => rfl)) (pv 1)) (pg_sub (pv 0) pe_int set_list))
      (pss_one (ps_ret (pv 2))))) pss_nil)
      (pss_cons (ps_asg (pe_op op_add (pe_ix ix_list (pv 0) pe_int (fun _ _ => rfl)) pe_int) (pg_sub (pv 0) pe_int set_list))
      (pss_cons (ps_set (i := 3) sc__law_draw.nd rfl (by first | exact Or.inl rfl | exact Or.inr rfl) (pe_op op_mod (pe_callTy call_int1 (by rfl) T.b_int (by decide +kernel) (pa_cons (pe_op op_pow (pe_op op_add (pe_op op_add (pe_ix ix_list (pv 0) pe_int (fun _ _ => rfl)) (pe_op op_mul pe_int (pe_ix ix_list (pv 0) pe_int (fun _ _ => rfl)))) pe_int) pe_int) pa_nil)) pe_int))
      (pss_cons (ps_set (i := 4) sc__law_draw.nd rfl (by first | exact Or.inl rfl | exact Or.inr rfl) (pe_op op_mod (pe_callTy call_int1 (by rfl) T.b_int (by decide +kernel) (pa_cons (pe_op op_pow (pe_op op_add (pe_op op_add (pe_op op_mul (pv 3) pe_int) (pe_op op_mul (pe_op op_mul pe_int (pe_ix ix_list (pv 0) pe_int (fun _ _ => rfl))) (pe_ix ix_list (pv 0) pe_int (fun _ _ => rfl)))) pe_int) pe_int) pa_nil)) pe_int))
      (pss_one (ps_ret (pe_op op_mod (pe_callTy call_int1 (by rfl) T.b_int (by decide +kernel) (pa_cons (pv 4) pa_nil)) (pv 1))))))))), ?_⟩
  obtain ⟨hne, ns, x, c, d, h1, h2, h3, h4, h5, h6, h7, h8⟩ := hS
  refine ⟨fun m σ H' => σ = [some (.ref p), some (.int many), none, none, none] ∧ Old p l H H' ∧ ∃ (ns : List Int) (x c d : Int), m = ns.length ∧ H' p = some (.lst [.ref l, .int x, .int c, .int d]) ∧ H' l = some (.lst (ns.map V.int)) ∧ ns.length ≤ 63 ∧ 0 ≤ x ∧ 0 ≤ c ∧ c ≤ n ∧ 0 ≤ d ∧ d < 2147483647,
    ⟨_, rfl, Old.refl _, ns, x, c, d, rfl, h1, h2, h3, h4, h5, h6, h7, h8⟩, ?_⟩
  clear h1 h2 h3 h4 h5 h6 h7 h8 ns x c d
  rintro m σ H1 ⟨rfl, hO, ns, x, c, d, rfl, h1, h2, h3, h4, h5, h6, h7, h8⟩
  refine ⟨_, rfl, p, _, _, _, rfl, rfl, SqL.of h1, rfl, rfl, _, rfl, ?_⟩
  by_cases hx : x = 0
  · subst hx
    refine iteT' (decide_eq_true rfl) ?_
    refine ⟨_, rfl, p, _, _, _, rfl, rfl, SqL.of h1, rfl, (by show 0 ≤ sizeLine; decide), fun q hq => ?_⟩
    have g1 : upd H1 q (.lst []) p = some (.lst [.ref l, .int 0, .int c, .int d]) := by rw [upd_ne (ne_of_none h1 hq)]; exact h1
    have g2 : upd H1 q (.lst []) l = some (.lst (ns.map V.int)) := by rw [upd_ne (ne_of_none h2 hq)]; exact h2
    have gO : Old p l H (upd H1 q (.lst [])) := old_upd hO (.inr (.inr hq))
    refine ⟨_, _, Dp.lst (SqL.of g2) (dp_ints ns), Dp.lst (SqL.of upd_same) .nil, sh_ints ns, by decide +kernel, _, rfl, ?_⟩
    generalize upd H1 q (.lst []) = H2 at g1 g2 gO
    cases ns with
    | cons v r =>
      refine iteT' (by rfl) ?_
      refine ⟨fun σ' H' => ∃ m', m' < (v :: r).length ∧ (σ' = [some (.ref p), some (.int many), none, none, none] ∧ Old p l H H' ∧ ∃ (ns : List Int) (x c d : Int), m' = ns.length ∧ H' p = some (.lst [.ref l, .int x, .int c, .int d]) ∧ H' l = some (.lst (ns.map V.int)) ∧ ns.length ≤ 63 ∧ 0 ≤ x ∧ 0 ≤ c ∧ c ≤ n ∧ 0 ≤ d ∧ d < 2147483647), fun σ' H' z => z, ?_⟩
      -- s[1] = s[0].pop(0)
      refine ⟨_, rfl, p, _, _, _, rfl, rfl, SqL.of g1, rfl, .inl ⟨rfl, _, SqL.of g2⟩, l, (v :: r).map V.int, 0, 0, .int v, rfl, rfl, g2, by decide, by decide, seq0 _ _, rfl, ?_⟩
      generalize e3 : upd H2 l _ = H3
      have k1 : H3 p = some (.lst [.ref l, .int 0, .int c, .int d]) := by rw [← e3, upd_ne hne]; exact g1
      have kO : Old p l H H3 := by rw [← e3]; exact old_upd gO (.inr (.inl rfl))
      have k2 : H3 l = some (.lst (r.map V.int)) := by rw [← e3]; exact upd_same
      clear e3
      refine ⟨_, rfl, p, _, 1, 1, rfl, rfl, k1, rfl, ?_⟩
      generalize e4 : upd H3 p _ = H4
      have j1 : H4 p = some (.lst [.ref l, .int v, .int c, .int d]) := by rw [← e4]; exact upd_same
      have j2 : H4 l = some (.lst (r.map V.int)) := by rw [← e4, upd_ne (Ne.symm hne)]; exact k2
      have jO : Old p l H H4 := by rw [← e4]; exact old_upd kO (.inl rfl)
      clear e4
      have hl : r.length ≤ 63 := Nat.le_of_succ_le h3
      refine ⟨_, rfl, p, _, _, _, rfl, rfl, SqL.of j1, rfl, _, _, rfl, rfl, ⟨by decide, by decide, by decide⟩, _, _, rfl, rfl, _, rfl, ?_⟩
      refine ite2 (fun hv => ?_) (fun hv => ?_)
      · -- s[3] = int(..) % 2147483647
        refine ⟨_, rfl, p, _, _, _, rfl, rfl, SqL.of j1, rfl, _, _, rfl, rfl, .inr ⟨by decide, by decide⟩, _, rfl, p, _, _, _, rfl, rfl, SqL.of j1, rfl, _, _, rfl, rfl, _, _, rfl, rfl, .inl ⟨_, rfl, _, _, rfl, rfl, (by show (0 : Int) < 2147483647; decide), _, rfl, p, _, 3, 3, rfl, rfl, j1, rfl, ?_⟩⟩
        have m1 := Int.emod_nonneg (d * 31 + v + 7) (show (2147483647 : Int) ≠ 0 by decide)
        have m2 := Int.emod_lt_of_pos (d * 31 + v + 7) (show (0 : Int) < 2147483647 by decide)
        refine ⟨_, rfl, p, _, 1, 1, rfl, rfl, upd_same, rfl, r.length, Nat.lt_succ_self _, rfl, old_upd (old_upd jO (.inl rfl)) (.inl rfl), r, 0, c, (d * 31 + v + 7) % 2147483647, rfl, upd_same, ?_, hl, Int.le_refl 0, h5, h6, m1, m2⟩
        rw [upd_ne (Ne.symm hne), upd_ne (Ne.symm hne)]; exact j2
      · have hv : 10 ^ 18 ≤ v := by
          have z : ¬ v < 10 ^ (18 : Int).toNat := fun z => hv (decide_eq_true z)
          have e : (18 : Int).toNat = 18 := rfl
          rw [e] at z; omega
        exact ⟨r.length, Nat.lt_succ_self _, rfl, jO, r, v, c, d, rfl, j1, j2, hl, by omega, h5, h6, h7, h8⟩
    | nil =>
      refine iteF' (by rfl) ?_
      refine ⟨_, rfl, p, _, _, _, rfl, rfl, SqL.of g1, rfl, _, _, rfl, rfl, _, rfl, ?_⟩
      refine iteF' (by rfl) ?_
      -- s[2] = s[2] + 1
      refine ⟨_, rfl, p, _, _, _, rfl, rfl, SqL.of g1, rfl, _, _, rfl, rfl, _, rfl, p, _, 2, 2, rfl, rfl, g1, rfl, ?_⟩
      generalize e3 : upd H2 p _ = H3
      have a1 : H3 p = some (.lst [.ref l, .int 0, .int (c + 1), .int d]) := by rw [← e3]; exact upd_same
      have a2 : H3 l = some (.lst (([] : List Int).map V.int)) := by rw [← e3, upd_ne (Ne.symm hne)]; exact g2
      have aO : Old p l H H3 := by rw [← e3]; exact old_upd gO (.inl rfl)
      have hc : c + 1 ≤ 1000001 := by omega
      clear e3
      refine ⟨_, rfl, p, _, _, _, rfl, rfl, SqL.of a1, rfl, _, rfl, p, _, _, _, rfl, rfl, SqL.of a1, rfl, _, _, rfl, rfl, .inl ⟨by decide, by decide⟩, _, _, rfl, rfl, _, _, rfl, rfl, _, _, rfl, rfl, ⟨by decide, by decide, stm_small h7 h8 (by omega) hc⟩, .inl ⟨_, rfl, _, _, rfl, rfl, (by show (0 : Int) < 2147483629; decide), ?_⟩⟩
      have m1 := Int.emod_nonneg ((d + 104729 * (c + 1) + 17) ^ (5 : Int).toNat) (show (2147483629 : Int) ≠ 0 by decide)
      have m2 := Int.emod_lt_of_pos ((d + 104729 * (c + 1) + 17) ^ (5 : Int).toNat) (show (0 : Int) < 2147483629 by decide)
      refine ⟨_, rfl, _, _, rfl, rfl, .inr ⟨by decide, by decide⟩, _, rfl, p, _, _, _, rfl, rfl, SqL.of a1, rfl, _, _, rfl, rfl, .inl ⟨by decide, by decide⟩, _, rfl, p, _, _, _, rfl, rfl, SqL.of a1, rfl, _, _, rfl, rfl, .inr ⟨by omega, by omega⟩, _, _, rfl, rfl, _, _, rfl, rfl, _, _, rfl, rfl, ⟨by decide, by decide, stm_small2 m1 m2 (by omega) hc⟩, .inl ⟨_, rfl, _, _, rfl, rfl, (by show (0 : Int) < 1000000007; decide), ?_⟩⟩
      refine ⟨_, rfl, .inl ⟨_, rfl, _, rfl, _, _, rfl, rfl, (by show (0 : Int) < many; omega), ?_⟩⟩
      exact hQ _ _ aO ⟨hne, [], 0, c + 1, d, a1, a2, Nat.zero_le _, Int.le_refl 0, by omega, by omega, h7, h8⟩ (Int.emod_nonneg _ (by omega)) (Int.emod_lt_of_pos _ (by omega))
  · refine iteF' (decide_eq_false fun z => hx (V.int.inj z)) ?_
    have hx1 : 0 < x := by omega
    refine ⟨_, rfl, p, _, _, _, rfl, rfl, SqL.of h1, rfl, _, _, rfl, rfl, _, rfl, ?_⟩
    refine iteT' (decide_eq_true hx1) ?_
    refine ⟨_, rfl, p, _, _, _, rfl, rfl, SqL.of h1, rfl, .inl ⟨_, rfl, _, rfl, _, _, rfl, rfl, (by show (0 : Int) < many; omega), ?_⟩⟩
    refine ⟨_, rfl, p, _, _, _, rfl, rfl, SqL.of h1, rfl, _, rfl, _, _, rfl, rfl, wide_div (b := 63) (by omega) (by omega) (by decide) (by decide), _, rfl, p, _, 1, 1, rfl, rfl, h1, rfl, _, rfl, ?_⟩
    refine hQ _ _ (old_upd hO (.inl rfl)) ⟨hne, ns, x / many, c, d, upd_same, by rw [upd_ne (Ne.symm hne)]; exact h2, h3, Int.ediv_nonneg h4 (by omega), h5, by omega, h7, h8⟩ (Int.emod_nonneg _ (by omega)) (Int.emod_lt_of_pos _ (by omega))
end
end K17

set_option Elab.async false
/-! Days, years, months, as plain numbers. -/
namespace DT
/-- the first day of a year, from the first day of 1970 -/
def fdy (y : Int) : Int := 365 * (y - 1970) + (y - 1) / 4 - (y - 1) / 100 + (y - 1) / 400 - 477
def leapB (y : Int) : Bool := (decide (y % 4 = 0) && !decide (y % 100 = 0)) || decide (y % 400 = 0)
def daysI (y : Int) : Int := if leapB y = true then 366 else 365
theorem fdy_next (y : Int) : fdy (y + 1) = fdy y + daysI y := by
  unfold fdy daysI leapB
  have e : y + 1 - 1 = y := by omega
  rw [e]
  by_cases c4 : y % 4 = 0
  · by_cases c100 : y % 100 = 0
    · by_cases c400 : y % 400 = 0
      · rw [decide_eq_true c400, Bool.or_true, if_pos rfl]; omega
      · rw [decide_eq_true c4, decide_eq_true c100, decide_eq_false c400]
        rw [if_neg (by decide)]; omega
    · rw [decide_eq_true c4, decide_eq_false c100]
      rw [if_pos (by simp)]; omega
  · have c400 : ¬ y % 400 = 0 := by omega
    rw [decide_eq_false c4, decide_eq_false c400]
    rw [if_neg (by simp)]; omega
theorem daysI_pos (y : Int) : 365 ≤ daysI y ∧ daysI y ≤ 366 := by unfold daysI; split <;> omega
/-- the day lies in the year -/
structure YearAt (d y : Int) : Prop where
  lo : fdy y ≤ d
  hi : d < fdy (y + 1)
theorem fdy_mono {a b : Int} (h : a ≤ b) : fdy a + 365 * (b - a) ≤ fdy b := by unfold fdy; omega
theorem YearAt.uniq {d y z : Int} (h : YearAt d y) (k : YearAt d z) : y = z := by
  by_cases c : y < z
  · have := fdy_mono (show y + 1 ≤ z by omega)
    have := h.hi; have := k.lo; omega
  · by_cases c2 : z < y
    · have := fdy_mono (show z + 1 ≤ y by omega)
      have := k.hi; have := h.lo; omega
    · omega
theorem fdy_start (k : Int) (h : 0 ≤ k) : fdy (1970 + k) ≤ 366 * k := by unfold fdy; omega
theorem fdy_cyc (q : Int) : fdy (1970 + 400 * q) = 146097 * q := by unfold fdy; omega
theorem year_ge {d y : Int} (h : YearAt d y) (h0 : 0 ≤ d) : 1970 ≤ y := by
  by_cases c : 1970 ≤ y
  · exact c
  · have := fdy_mono (show y + 1 ≤ 1970 by omega)
    have : fdy 1970 = 0 := by decide
    have := h.hi; omega
theorem year_le {d y : Int} (h : YearAt d y) (b : d ≤ 3000000) : y ≤ 10190 := by
  by_cases c : y ≤ 10190
  · exact c
  · have h1 := fdy_mono (show 10190 ≤ y by omega)
    have h2 : 3000000 < fdy 10190 := by decide
    have := h.lo; omega
theorem year_ex (d : Int) (h0 : 0 ≤ d) : ∃ y, YearAt d y := by
  have key : ∀ n : Nat, ∀ y : Int, fdy y ≤ d → (d - fdy y).toNat ≤ n → ∃ z, YearAt d z := by
    intro n
    induction n with
    | zero =>
      intro y h1 h2
      refine ⟨y, h1, ?_⟩
      have := fdy_next y
      have := daysI_pos y
      omega
    | succ n ih =>
      intro y h1 h2
      by_cases c : d < fdy (y + 1)
      · exact ⟨y, h1, c⟩
      · have := fdy_next y
        have := daysI_pos y
        exact ih (y + 1) (by omega) (by omega)
  exact key _ 1970 (by have : fdy 1970 = 0 := by decide
                       omega) (Nat.le_refl _)
/-- the months' sizes -/
def sizes (y : Int) : List Int := [31, daysI y - 337, 31, 30, 31, 30, 31, 31, 30, 31, 30, 31]
/-- the month from m on, and the day within -/
def mgo : List Int → Int → Nat → Nat × Int
  | [], r, m => (m, r)
  | s :: l, r, m => if r < s then (m, r) else mgo l (r - s) (m + 1)
theorem sizes_sum (y : Int) : (sizes y).sum = daysI y := by unfold sizes; simp; omega
theorem mgo_lt : ∀ (l : List Int) (r : Int) (m : Nat), r < l.sum → (∀ s ∈ l, 0 ≤ s) → 0 ≤ r → (mgo l r m).1 < m + l.length ∧ m ≤ (mgo l r m).1 ∧ 0 ≤ (mgo l r m).2 ∧ (∀ b : Int, (∀ s ∈ l, s ≤ b) → (mgo l r m).2 < b)
  | [], r, m, h, _, h0 => by simp at h; omega
  | s :: l, r, m, h, hs, h0 => by
    unfold mgo
    by_cases c : r < s
    · rw [if_pos c]
      refine ⟨by simp, Nat.le_refl _, h0, fun b hb => ?_⟩
      have := hb s (by simp)
      show r < b
      omega
    · rw [if_neg c]
      have h2 : (s :: l).sum = s + l.sum := by simp
      rw [h2] at h
      have ih := mgo_lt l (r - s) (m + 1) (by omega) (fun x hx => hs x (List.mem_cons_of_mem _ hx)) (by omega)
      refine ⟨by have := ih.1; simp; omega, by have := ih.2.1; omega, ih.2.2.1, fun b hb => ih.2.2.2 b fun x hx => hb x (List.mem_cons_of_mem _ hx)⟩
def monthOf (y r : Int) : Nat := (mgo (sizes y) r 0).1
def dayOf (y r : Int) : Int := (mgo (sizes y) r 0).2
theorem month_lt {y r : Int} (h0 : 0 ≤ r) (h : r < daysI y) : monthOf y r < 12 ∧ 0 ≤ dayOf y r ∧ dayOf y r < 31 := by
  have hp := daysI_pos y
  have := mgo_lt (sizes y) r 0 (by rw [sizes_sum]; exact h) (by intro s hs; unfold sizes at hs; simp at hs; omega) h0
  refine ⟨by have := this.1; unfold monthOf; simpa [sizes] using this, this.2.2.1, this.2.2.2 31 (by intro s hs; unfold sizes at hs; simp at hs; omega)⟩
/-- the step of the loop -/
theorem mgo_step (l : List Int) (s r : Int) (m : Nat) (h : ¬ r < s) : mgo (s :: l) r m = mgo l (r - s) (m + 1) := by
  show (if r < s then _ else _) = _
  rw [if_neg h]
theorem mgo_stop (l : List Int) (s r : Int) (m : Nat) (h : r < s) : mgo (s :: l) r m = (m, r) := if_pos h
end DT

set_option Elab.async false
set_option linter.all false
set_option maxRecDepth 100000
set_option maxHeartbeats 0
namespace K17
open PySem PySem.Spec PyProof.Rows L2 RC
section
variable {P : Program} {w : World} {K : PySem.W.Frag} {mg : Str → Option Value} {base : Heap}
/-! ### the words for times -/
def whN (wi : Nat) : Str := (["S", "M", "H", "D", "MIDNIGHT", "W0", "W1", "W2", "W3", "W4", "W5", "W6"] : List Str).getD wi "D"
end
end K17

set_option Elab.async false
set_option linter.all false
set_option maxRecDepth 100000
set_option maxHeartbeats 0
namespace K17
open PySem PySem.Spec PyProof.Rows L2 RC
section
variable {P : Program} {w : World} {K : PySem.W.Frag} {mg : Str → Option Value} {base : Heap}
/-- all but p is as it was -/
def SameBut (p : Addr) (H H' : Hp) : Prop := ∀ b o, b ≠ p → H b = some o → H' b = some o
theorem SameBut.trans {p : Addr} {H H1 H2 : Hp} (a : SameBut p H H1) (b : SameBut p H1 H2) : SameBut p H H2 := fun c o h e => b c o h (a c o h e)
theorem SameBut.of {p : Addr} {H H' : Hp} (a : Same H H') : SameBut p H H' := fun c o _ e => a c o e
theorem SameBut.put {p : Addr} {H : Hp} {o : HO} : SameBut p H (upd H p o) := fun c u h e => by rw [upd_ne h]; exact e
theorem made_same {H H' : Hp} {x dx C : Addr} {o : HO} {fs : List (Str × V)} (hx : H x = none) (hd : H dx = none) (b : SameBut x (upd (upd H dx o) x (.ins C dx fs)) H') : Same H H' := fun c u e => by
  have h1 : c ≠ x := ne_of_none e hx
  have h2 : c ≠ dx := ne_of_none e hd
  exact b c u h1 (by rw [upd_ne h1, upd_ne h2]; exact e)
def spFiltererInit (K : PySem.W.Frag) : Sp := fun vs H Q _ => ∃ (C p dx : Addr) (fs : List (Str × V)), vs = [.ref p] ∧ H p = some (.ins C dx fs) ∧ Cls K C ∧ NoAttr K C "filters" ∧ fs.length < 100 ∧ ∀ l, H l = none → Q .non (upd (upd H l (.lst [])) p (.ins C dx (putF "filters" (.ref l) fs)))
theorem ok_filterer_init {f : Addr} (T : Txt P w K mg) (F : Stands K "__init__" "Filterer.__init__" s_Filterer_init [] f) : Callable P w K mg base 1 f ["self"] [] (spFiltererInit K) := by
  refine F.call0 sc_Filterer_init (fun vs H Q E h => ?_) (fun cdv A outer s H vs Q E hr h => ?_) (fun _ _ _ _ _ _ us hl => match us, hl with | [_], _ => rfl)
  · obtain ⟨C, p, dx, fs, rfl, _⟩ := h; rfl
  obtain ⟨C, p, dx, fs, rfl, hp, c, n, hl, hQ⟩ := h
  refine ⟨_, (pss_one (ps_fld (pv 0) (pe_lst pa_nil) rfl)), ?_⟩
  refine ⟨(by show 0 ≤ sizeLine; decide), fun l hl' => ?_⟩
  exact ⟨_, rfl, p, C, dx, fs, rfl, (by rw [upd_ne (ne_of_none hp hl')]; exact hp), c, n, (by omega), hQ l hl'⟩
end
end K17

set_option Elab.async false
set_option linter.all false
set_option maxRecDepth 100000
set_option maxHeartbeats 0
namespace K17
open PySem PySem.Spec PyProof.Rows L2 RC
section
variable {P : Program} {w : World} {K : PySem.W.Frag} {mg : Str → Option Value} {base : Heap}
/-! ### what is made -/
abbrev CY (K : PySem.W.Frag) : Addr := He.ga K "Yard"
abbrev CL (K : PySem.W.Frag) : Addr := He.ga K "Logger"
def spEnrol (K : PySem.W.Frag) : Sp := fun vs H Q _ => ∃ (y h dy m : Addr) (fs : List (Str × V)) (xs : List V), vs = [.ref y, .ref h] ∧ H y = some (.ins (CY K) dy fs) ∧ fs.lookup ("made" : Str) = some (.ref m) ∧ H m = some (.lst xs) ∧ xs.length ≤ 1000 ∧ Q .non (upd H m (.lst (xs ++ [.ref h])))
theorem ok_enrol {f : Addr} (T : Txt P w K mg) (F : Stands K "enrol" "Yard.enrol" s_Yard_enrol [] f) : Callable P w K mg base 1 f ["self", "handler"] [] (spEnrol K) := by
  refine F.call0 sc_Yard_enrol (fun vs H Q E h => ?_) (fun cdv A outer s H vs Q E hr h => ?_) (fun _ _ _ _ _ _ us hl => match us, hl with | [_, _], _ => rfl)
  · obtain ⟨y, h, dy, m, fs, xs, rfl, _⟩ := h; rfl
  obtain ⟨y, h, dy, m, fs, xs, rfl, h1, h2, h3, h4, hQ⟩ := h
  refine ⟨_, (pss_one (ps_expr (pe_bm PySem.F.plainAttrs_list PySem.F.slot_list_append PySem.F.type_list_append mt_append (pe_fld (pv 0) rfl) (pa_cons (pv 1) pa_nil)))), ?_⟩
  exact ⟨_, rfl, y, _, dy, fs, _, rfl, h1, T.c_Yard, T.n_Yard_made, h2, .inl ⟨rfl, _, SqL.of h3⟩, _, rfl, m, _, _, rfl, rfl, h3, (by rw [sizeLine_eq]; omega), hQ⟩
/-- what the text says of a class of handlers -/
structure HCls (K : PySem.W.Frag) (C : Addr) : Prop where
  c : Cls K C
  n1 : NoAttr K C "filters"
  n2 : NoAttr K C "yard"
  n3 : NoAttr K C "level"
  n4 : NoAttr K C "formatter"
  n5 : NoAttr K C "name"
  n6 : NoAttr K C "terminator"
  n7 : NoAttr K C "closed"
def hF (l y : Addr) : List (Str × V) := [("filters", .ref l), ("yard", .ref y), ("level", .int 0), ("formatter", .non), ("name", .non), ("terminator", .str "\n"), ("closed", .bl false)]
/-- a handler at p was made: its filters at l; the yard's list of what was made, at m, has it at its end -/
def HMade (K : PySem.W.Frag) (H : Hp) (p C dx y m : Addr) (xs : List V) (H' : Hp) : Prop := ∃ l, (∀ b o, b ≠ p → b ≠ m → H b = some o → H' b = some o) ∧ H l = none ∧ H' p = some (.ins C dx (hF l y)) ∧ H' l = some (.lst []) ∧ H' m = some (.lst (xs ++ [.ref p]))
def spHandlerInit (K : PySem.W.Frag) : Sp := fun vs H Q _ => ∃ (p C dx y dy m : Addr) (fs : List (Str × V)) (xs : List V), vs = [.ref p, .ref y] ∧ H p = some (.ins C dx []) ∧ HCls K C ∧ p ≠ y ∧ H y = some (.ins (CY K) dy fs) ∧ fs.lookup ("made" : Str) = some (.ref m) ∧ fs.lookup ("enrol" : Str) = none ∧ H m = some (.lst xs) ∧ xs.length ≤ 1000 ∧
  ∀ H', HMade K H p C dx y m xs H' → Q .non H'
theorem ok_handler_init {f : Addr} (T : Txt P w K mg) (F : Stands K "__init__" "Handler.__init__" s_Handler_init [] f) (c_Filterer_init : Callable P w K mg base 1 (He.ma K (He.ga K "Filterer") "__init__") ["self"] [] (spFiltererInit K))
    (c_Yard_enrol : Callable P w K mg base 1 (He.ma K (He.ga K "Yard") "enrol") ["self", "handler"] [] (spEnrol K)) : Callable P w K mg base 2 f ["self", "yard"] [] (spHandlerInit K) := by
  refine F.call0 sc_Handler_init (fun vs H Q E h => ?_) (fun cdv A outer s H vs Q E hr h => ?_) (fun _ _ _ _ _ _ us hl => match us, hl with | [_, _], _ => rfl)
  · obtain ⟨p, C, dx, y, dy, m, fs, xs, rfl, _⟩ := h; rfl
  obtain ⟨p, C, dx, y, dy, m, fs, xs, rfl, hp, c, npy, hy, hm, he, hmm, hxs, hQ⟩ := h
  refine ⟨_, (pss_cons (ps_expr (pe_cf T.cf_Filterer_init c_Filterer_init (hr.mono (by first | decide | exact Nat.le_refl _)) (pe_glob (v := .ref _) (by rfl) T.g_Filterer rfl) (pa_cons (pv 0) pa_nil)))
      (pss_cons (ps_fld (pv 0) (pv 1) rfl)
      (pss_cons (ps_fld (pv 0) pe_int rfl)
      (pss_cons (ps_fld (pv 0) pe_non rfl)
      (pss_cons (ps_fld (pv 0) pe_non rfl)
      (pss_cons (ps_fld (pv 0) pe_str rfl)
      (pss_cons (ps_fld (pv 0) pe_bl rfl)
      (pss_one (ps_expr (pe_mt T.c_Yard T.m_Yard_enrol c_Yard_enrol (hr.mono (by first | decide | exact Nat.le_refl _)) (pv 1) (pa_cons (pv 0) pa_nil))))))))))), ?_⟩
  refine ⟨rfl, _, rfl, C, p, dx, [], rfl, hp, c.c, c.n1, (by decide), fun l hl => ?_⟩
  refine ⟨_, rfl, _, rfl, p, C, dx, _, rfl, upd_same, c.c, c.n2, (by show 1 < 1000; decide), ?_⟩
  rw [upd_upd]
  refine ⟨_, rfl, p, C, dx, _, rfl, upd_same, c.c, c.n3, (by show 2 < 1000; decide), ?_⟩
  rw [upd_upd]
  refine ⟨_, rfl, p, C, dx, _, rfl, upd_same, c.c, c.n4, (by show 3 < 1000; decide), ?_⟩
  rw [upd_upd]
  refine ⟨_, rfl, p, C, dx, _, rfl, upd_same, c.c, c.n5, (by show 4 < 1000; decide), ?_⟩
  rw [upd_upd]
  refine ⟨_, rfl, p, C, dx, _, rfl, upd_same, c.c, c.n6, (by show 5 < 1000; decide), ?_⟩
  rw [upd_upd]
  refine ⟨_, rfl, p, C, dx, _, rfl, upd_same, c.c, c.n7, (by show 6 < 1000; decide), ?_⟩
  rw [upd_upd]
  generalize e1 : upd (upd H l (.lst [])) p _ = H1
  have nlp : l ≠ p := fun z => by rw [z, hp] at hl; cases hl
  have npm : p ≠ m := fun z => by rw [z, hmm] at hp; cases hp
  have nlm : l ≠ m := fun z => by rw [z, hmm] at hl; cases hl
  have q1 : H1 p = some (.ins C dx (hF l y)) := by rw [← e1]; exact upd_same
  have q2 : H1 l = some (.lst []) := by rw [← e1, upd_ne nlp]; exact upd_same
  have q3 : ∀ b o, b ≠ p → H b = some o → H1 b = some o := fun b o h1 h2 => by rw [← e1, upd_ne h1]; exact same_new hl _ b o h2
  clear e1
  refine ⟨_, rfl, y, dy, fs, rfl, q3 _ _ (Ne.symm npy) hy, he, _, rfl, y, p, dy, m, fs, xs, rfl, q3 _ _ (Ne.symm npy) hy, hm, q3 _ _ (Ne.symm npm) hmm, hxs, ?_⟩
  exact hQ _ ⟨l, fun b o h1 h2 h3 => by rw [upd_ne h2]; exact q3 b o h1 h3, hl, by rw [upd_ne npm]; exact q1, by rw [upd_ne nlm]; exact q2, upd_same⟩
def spStreamInit (K : PySem.W.Frag) : Sp := fun vs H Q _ => ∃ (p dx y dy m : Addr) (st : Str) (fs : List (Str × V)) (xs : List V), vs = [.ref p, .ref y, .str st] ∧ H p = some (.ins (He.ga K "StreamHandler") dx []) ∧ p ≠ y ∧ H y = some (.ins (CY K) dy fs) ∧ fs.lookup ("made" : Str) = some (.ref m) ∧ fs.lookup ("enrol" : Str) = none ∧ H m = some (.lst xs) ∧ xs.length ≤ 1000 ∧
  ∀ (H' : Hp) (l : Addr), (∀ b o, b ≠ p → b ≠ m → H b = some o → H' b = some o) → H l = none → H' p = some (.ins (He.ga K "StreamHandler") dx (hF l y ++ ([("stream", .str st)] : List (Str × V)))) → H' l = some (.lst []) → H' m = some (.lst (xs ++ [.ref p])) → Q .non H'
theorem ok_stream_init {f : Addr} (T : Txt P w K mg) (F : Stands K "__init__" "StreamHandler.__init__" s_StreamHandler_init [.str "stderr"] f) (c_Handler_init : Callable P w K mg base 2 (He.ma K (He.ga K "Handler") "__init__") ["self", "yard"] [] (spHandlerInit K)) :
    Callable P w K mg base 3 f ["self", "yard", "stream"] [.str "stderr"] (spStreamInit K) := by
  refine F.call sc_StreamHandler_init 2 0 (fun vs H Q E h => ?_) (fun cdv A outer s H vs Q E hr h => ?_) (fun z => nomatch z) fun _ => ⟨rfl, fun _ _ _ _ _ _ _ us its hl hi => match us, hl, its, hi with | [_, _], _, [_], _ => ⟨_, rfl, rfl⟩⟩
  · obtain ⟨p, dx, y, dy, m, st, fs, xs, rfl, _⟩ := h; rfl
  obtain ⟨p, dx, y, dy, m, st, fs, xs, rfl, hp, npy, hy, hm, he, hmm, hxs, hQ⟩ := h
  refine ⟨_, (pss_cons (ps_expr (pe_cf T.cf_Handler_init c_Handler_init (hr.mono (by first | decide | exact Nat.le_refl _)) (pe_glob (v := .ref _) (by rfl) T.g_Handler rfl) (pa_cons (pv 0) (pa_cons (pv 1) pa_nil))))
      (pss_one (ps_fld (pv 0) (pv 2) rfl))), ?_⟩
  have c : HCls K (He.ga K "StreamHandler") := ⟨T.c_StreamHandler, T.n_StreamHandler_filters, T.n_StreamHandler_yard, T.n_StreamHandler_level, T.n_StreamHandler_formatter, T.n_StreamHandler_name, T.n_StreamHandler_terminator, T.n_StreamHandler_closed⟩
  refine ⟨rfl, _, rfl, _, rfl, p, _, dx, y, dy, m, fs, xs, rfl, hp, c, npy, hy, hm, he, hmm, hxs, fun H1 hM => ?_⟩
  obtain ⟨l, k1, k2, k3, k4, k5⟩ := hM
  have nlp : l ≠ p := fun z => by rw [z, hp] at k2; cases k2
  have npm : m ≠ p := fun z => by rw [z, hp] at hmm; cases hmm
  refine ⟨_, rfl, _, rfl, p, _, dx, _, rfl, k3, T.c_StreamHandler, T.n_StreamHandler_stream, (by show 7 < 1000; decide), ?_⟩
  exact hQ _ l (fun b o h1 h2 h3 => by rw [upd_ne h1]; exact k1 b o h1 h2 h3) k2 upd_same (by rw [upd_ne nlp]; exact k4) (by rw [upd_ne npm]; exact k5)
theorem ok_stream_init3 {f : Addr} (T : Txt P w K mg) (F : Stands K "__init__" "StreamHandler.__init__" s_StreamHandler_init [.str "stderr"] f) (c_Handler_init : Callable P w K mg base 2 (He.ma K (He.ga K "Handler") "__init__") ["self", "yard"] [] (spHandlerInit K)) :
    Callable P w K mg base 3 f ["self", "yard", "stream"] [] (spStreamInit K) := by
  refine F.call sc_StreamHandler_init 3 1 (fun vs H Q E h => ?_) (fun cdv A outer s H vs Q E hr h => ?_) (fun z => nomatch z) fun _ => ⟨rfl, fun _ _ _ _ _ _ _ us its hl hi => match us, hl, its, hi with | [_, _, _], _, [_], _ => ⟨_, rfl, rfl⟩⟩
  · obtain ⟨p, dx, y, dy, m, st, fs, xs, rfl, _⟩ := h; rfl
  obtain ⟨p, dx, y, dy, m, st, fs, xs, rfl, hp, npy, hy, hm, he, hmm, hxs, hQ⟩ := h
  refine ⟨_, (pss_cons (ps_expr (pe_cf T.cf_Handler_init c_Handler_init (hr.mono (by first | decide | exact Nat.le_refl _)) (pe_glob (v := .ref _) (by rfl) T.g_Handler rfl) (pa_cons (pv 0) (pa_cons (pv 1) pa_nil))))
      (pss_one (ps_fld (pv 0) (pv 2) rfl))), ?_⟩
  have c : HCls K (He.ga K "StreamHandler") := ⟨T.c_StreamHandler, T.n_StreamHandler_filters, T.n_StreamHandler_yard, T.n_StreamHandler_level, T.n_StreamHandler_formatter, T.n_StreamHandler_name, T.n_StreamHandler_terminator, T.n_StreamHandler_closed⟩
  refine ⟨rfl, _, rfl, _, rfl, p, _, dx, y, dy, m, fs, xs, rfl, hp, c, npy, hy, hm, he, hmm, hxs, fun H1 hM => ?_⟩
  obtain ⟨l, k1, k2, k3, k4, k5⟩ := hM
  have nlp : l ≠ p := fun z => by rw [z, hp] at k2; cases k2
  have npm : m ≠ p := fun z => by rw [z, hp] at hmm; cases hmm
  refine ⟨_, rfl, _, rfl, p, _, dx, _, rfl, k3, T.c_StreamHandler, T.n_StreamHandler_stream, (by show 7 < 1000; decide), ?_⟩
  exact hQ _ l (fun b o h1 h2 h3 => by rw [upd_ne h1]; exact k1 b o h1 h2 h3) k2 upd_same (by rw [upd_ne nlp]; exact k4) (by rw [upd_ne npm]; exact k5)
def lF (l y : Addr) (name : Str) (lev : Int) (h : Addr) (par : V) : List (Str × V) := [("filters", .ref l), ("yard", .ref y), ("name", .str name), ("level", .int lev), ("propagate", .bl true), ("disabled", .bl false), ("handlers", .ref h), ("parent", par)]
def spLoggerInit (K : PySem.W.Frag) : Sp := fun vs H Q _ => ∃ (p dx y : Addr) (name : Str) (lev : Int), vs = [.ref p, .ref y, .str name, .int lev] ∧ H p = some (.ins (CL K) dx []) ∧
  ∀ (H' : Hp) (l h : Addr), SameBut p H H' → H l = none → H h = none → l ≠ h → H' p = some (.ins (CL K) dx (lF l y name lev h .non)) → H' l = some (.lst []) → H' h = some (.lst []) → Q .non H'
theorem ok_logger_init {f : Addr} (T : Txt P w K mg) (F : Stands K "__init__" "Logger.__init__" s_Logger_init [] f) (c_Filterer_init : Callable P w K mg base 1 (He.ma K (He.ga K "Filterer") "__init__") ["self"] [] (spFiltererInit K)) :
    Callable P w K mg base 2 f ["self", "yard", "name", "level"] [] (spLoggerInit K) := by
  refine F.call0 sc_Logger_init (fun vs H Q E h => ?_) (fun cdv A outer s H vs Q E hr h => ?_) (fun _ _ _ _ _ _ us hl => match us, hl with | [_, _, _, _], _ => rfl)
  · obtain ⟨p, dx, y, name, lev, rfl, _⟩ := h; rfl
  obtain ⟨p, dx, y, name, lev, rfl, hp, hQ⟩ := h
  refine ⟨_, (pss_cons (ps_expr (pe_cf T.cf_Filterer_init c_Filterer_init (hr.mono (by first | decide | exact Nat.le_refl _)) (pe_glob (v := .ref _) (by rfl) T.g_Filterer rfl) (pa_cons (pv 0) pa_nil)))
      (pss_cons (ps_fld (pv 0) (pv 1) rfl)
      (pss_cons (ps_fld (pv 0) (pv 2) rfl)
      (pss_cons (ps_fld (pv 0) (pv 3) rfl)
      (pss_cons (ps_fld (pv 0) pe_bl rfl)
      (pss_cons (ps_fld (pv 0) pe_bl rfl)
      (pss_cons (ps_fld (pv 0) (pe_lst pa_nil) rfl)
      (pss_one (ps_fld (pv 0) pe_non rfl))))))))), ?_⟩
  refine ⟨rfl, _, rfl, _, p, dx, [], rfl, hp, T.c_Logger, T.n_Logger_filters, (by decide), fun l hl => ?_⟩
  refine ⟨_, rfl, _, rfl, p, _, dx, _, rfl, upd_same, T.c_Logger, T.n_Logger_yard, (by show 1 < 1000; decide), ?_⟩
  rw [upd_upd]
  refine ⟨_, rfl, _, rfl, p, _, dx, _, rfl, upd_same, T.c_Logger, T.n_Logger_name, (by show 2 < 1000; decide), ?_⟩
  rw [upd_upd]
  refine ⟨_, rfl, _, rfl, p, _, dx, _, rfl, upd_same, T.c_Logger, T.n_Logger_level, (by show 3 < 1000; decide), ?_⟩
  rw [upd_upd]
  refine ⟨_, rfl, p, _, dx, _, rfl, upd_same, T.c_Logger, T.n_Logger_propagate, (by show 4 < 1000; decide), ?_⟩
  rw [upd_upd]
  refine ⟨_, rfl, p, _, dx, _, rfl, upd_same, T.c_Logger, T.n_Logger_disabled, (by show 5 < 1000; decide), ?_⟩
  rw [upd_upd]
  refine ⟨(by show 0 ≤ sizeLine; decide), fun h hh => ?_⟩
  obtain ⟨nhp, hh1⟩ := upd_none hh
  obtain ⟨nhl, hh2⟩ := upd_none hh1
  refine ⟨_, rfl, p, _, dx, _, rfl, (by rw [upd_ne (Ne.symm nhp)]; exact upd_same), T.c_Logger, T.n_Logger_handlers, (by show 6 < 1000; decide), ?_⟩
  refine ⟨_, rfl, p, _, dx, _, rfl, upd_same, T.c_Logger, T.n_Logger_parent, (by show 7 < 1000; decide), ?_⟩
  rw [upd_upd]
  have nlp : l ≠ p := fun z => by rw [z, hp] at hl; cases hl
  refine hQ _ l h (fun b o h1 h2 => ?_) hl hh2 (Ne.symm nhl) upd_same ?_ ?_
  · have n1 : b ≠ h := ne_of_none h2 hh2
    have n2 : b ≠ l := ne_of_none h2 hl
    rw [upd_ne h1, upd_ne n1, upd_ne h1, upd_ne n2]; exact h2
  · rw [upd_ne nlp, upd_ne (Ne.symm nhl), upd_ne nlp]; exact upd_same
  · rw [upd_ne nhp]; exact upd_same
end
end K17

set_option Elab.async false
set_option linter.all false
set_option maxRecDepth 100000
set_option maxHeartbeats 0
namespace K17
open PySem PySem.Spec PyProof.Rows L2 RC
section
variable {P : Program} {w : World} {K : PySem.W.Frag} {mg : Str → Option Value} {base : Heap}
/-! ### a yard is made -/
/-- H came from H0; ns: what is still being changed; L: what was laid since -/
structure Fr (H0 : Hp) (p : Addr) (ns : List Addr) (L : List (Addr × HO)) (H : Hp) : Prop where
  kp : ∀ b o, b ≠ p → H0 b = some o → H b = some o
  has : ∀ x ∈ L, x.1 ∉ ns ∧ H0 x.1 = none ∧ H x.1 = some x.2
  live : ∀ n ∈ ns, ∃ o, H n = some o
  old : ∀ n ∈ ns, n = p ∨ H0 n = none
  mem : p ∈ ns
  nd : (L.map (·.1)).Nodup
section
variable {H0 H H2 : Hp} {p : Addr} {ns : List Addr} {L : List (Addr × HO)}
theorem Fr.none (F : Fr H0 p ns L H) {q : Addr} (h : H q = none) : H0 q = none := by
  cases e : H0 q with
  | none => rfl
  | some o =>
    by_cases c : q = p
    · subst c; obtain ⟨o', e'⟩ := F.live _ F.mem; rw [e'] at h; cases h
    · rw [F.kp q o c e] at h; cases h
theorem Fr.notin (F : Fr H0 p ns L H) {q : Addr} (h : H q = Option.none) : q ∉ ns := fun z => by obtain ⟨o, e⟩ := F.live q z; rw [e] at h; cases h
theorem Fr.to (F : Fr H0 p ns L H) (k : ∀ b o, b ∉ ns → H b = some o → H2 b = some o) (l : ∀ n ∈ ns, ∃ o, H2 n = some o) : Fr H0 p ns L H2 where
  kp := fun b o hb e => k b o (fun z => by rcases F.old b z with c | c; exact hb c; rw [c] at e; cases e) (F.kp b o hb e)
  has := fun x hx => ⟨(F.has x hx).1, (F.has x hx).2.1, k _ _ (F.has x hx).1 (F.has x hx).2.2⟩
  live := l
  old := F.old
  mem := F.mem
  nd := F.nd
theorem Fr.nin (F : Fr H0 p ns L H) {q : Addr} (h : H q = Option.none) : q ∉ L.map (·.1) := fun z => by
  obtain ⟨x, hx, e⟩ := List.mem_map.mp z
  have := (F.has x hx).2.2
  rw [e, h] at this; cases this
theorem nin_cons {a b : Addr} {o : HO} {L : List (Addr × HO)} (h : a ≠ b) (k : a ∉ L.map (·.1)) : a ∉ ((b, o) :: L).map (·.1) := fun z => by
  rcases List.mem_cons.mp z with z | z
  · exact h z
  · exact k z
theorem Fr.cons (F : Fr H0 p ns L H) {q : Addr} {o : HO} (h1 : q ∉ ns) (h2 : H0 q = Option.none) (h3 : H q = some o) (h4 : q ∉ L.map (·.1)) : Fr H0 p ns ((q, o) :: L) H where
  kp := F.kp
  has := fun x hx => by
    rcases List.mem_cons.mp hx with c | c
    · subst c; exact ⟨h1, h2, h3⟩
    · exact F.has x c
  live := F.live
  old := F.old
  mem := F.mem
  nd := List.nodup_cons.mpr ⟨h4, F.nd⟩
theorem Fr.set (F : Fr H0 p ns L H) {o : HO} {q : Addr} (hq : q ∈ ns) (e : upd H q o = H2) : Fr H0 p ns L H2 := by
  subst e
  refine F.to (fun b u h1 h2 => ?_) (fun n hn => ?_)
  · rw [upd_ne (fun z => h1 (by rw [z]; exact hq))]; exact h2
  · by_cases c : n = q
    · subst c; exact ⟨_, upd_same⟩
    · rw [upd_ne c]; exact F.live n hn
theorem Fr.new (F : Fr H0 p ns L H) {o : HO} {q : Addr} (hq : H q = Option.none) (e : upd H q o = H2) : Fr H0 p ns ((q, o) :: L) H2 := by
  subst e
  refine (F.to (H2 := upd H q o) (fun b u h1 h2 => same_new hq _ _ _ h2) (fun n hn => ?_)).cons (F.notin hq) (F.none hq) upd_same (F.nin hq)
  obtain ⟨u, hu⟩ := F.live n hn
  exact ⟨u, same_new hq _ _ _ hu⟩
/-- one more is being changed -/
theorem Fr.own (F : Fr H0 p ns L H) {o : HO} {q : Addr} (hq : H q = Option.none) (e : upd H q o = H2) : Fr H0 p (q :: ns) L H2 := by
  have G := F.new hq e
  subst e
  refine ⟨G.kp, fun x hx => ?_, fun n hn => ?_, fun n hn => ?_, List.mem_cons_of_mem _ F.mem, F.nd⟩
  · have g := F.has x hx
    refine ⟨fun z => ?_, g.2.1, (G.has x (List.mem_cons_of_mem _ hx)).2.2⟩
    rcases List.mem_cons.mp z with c | c
    · rw [c, hq] at g; cases g.2.2
    · exact g.1 c
  · rcases List.mem_cons.mp hn with c | c
    · subst c; exact ⟨_, upd_same⟩
    · exact G.live n c
  · rcases List.mem_cons.mp hn with c | c
    · subst c; exact .inr (F.none hq)
    · exact F.old n c
theorem Fr.get (F : Fr H0 p ns L H) {x : Addr × HO} (h : x ∈ L) : H x.1 = some x.2 := (F.has x h).2.2
theorem Fr.putf (F : Fr H0 p ns L H) {o o' : HO} {q : Addr} (hq : H q = Option.none) (e : upd (upd H q o) p o' = H2) : Fr H0 p ns ((q, o) :: L) H2 := (F.new hq rfl).set F.mem e
theorem Fr.ownf (F : Fr H0 p ns L H) {o o' : HO} {q : Addr} (hq : H q = Option.none) (e : upd (upd H q o) p o' = H2) : Fr H0 p (q :: ns) L H2 ∧ H2 q = some o := by
  have G := F.own hq (o := o) rfl
  refine ⟨G.set (List.mem_cons_of_mem _ F.mem) e, ?_⟩
  have n : q ≠ p := fun z => F.notin hq (by rw [z]; exact F.mem)
  rw [← e, upd_ne n]; exact upd_same
theorem Fr.same (F : Fr H0 p ns L H) (s : Same H H2) : Fr H0 p ns L H2 := F.to (fun b o _ e => s b o e) (fun n hn => let ⟨o, e⟩ := F.live n hn; ⟨o, s _ _ e⟩)
theorem Fr.start {o : HO} (h : H0 p = some o) : Fr H0 p [p] [] H0 where
  kp := fun _ _ _ e => e
  has := fun _ h => nomatch h
  live := fun n hn => by cases List.mem_singleton.mp hn; exact ⟨o, h⟩
  old := fun n hn => .inl (List.mem_singleton.mp hn)
  mem := List.mem_singleton.mpr rfl
  nd := List.nodup_nil
end
def yF (clk : Int) (st fi na nu lm md hn fr rt lr : Addr) : List (Str × V) := [("clock", .int clk), ("stream_texts", .ref st), ("file_rows", .ref fi), ("names_of", .ref na), ("numbers_of", .ref nu), ("bar_level", .int 0), ("logger_map", .ref lm), ("made", .ref md), ("handler_names", .ref hn), ("failure_rows", .ref fr), ("root", .ref rt), ("last_resort", .ref lr)]
/-- where the parts of a yard lie -/
structure YParts where
  (st fi na nu lm md hn fr rt lr rl rh ll : Addr)
def YParts.L (K : PySem.W.Frag) (y : Addr) (q : YParts) (rd ld : Addr) : List (Addr × HO) := [(q.ll, .lst []), (q.lr, .ins (He.ga K "StreamHandler") ld (hF q.ll y ++ ([("stream", .str "stderr")] : List (Str × V)))), (q.rh, .lst []), (q.rl, .lst []), (q.rt, .ins (CL K) rd (lF q.rl y "root" 30 q.rh .non)), (q.fr, .lst []), (q.hn, .dK []), (q.lm, .dK []), (q.nu, .dK (kv_FIRST_NUMBERS.map fun q => (q.1, q.2.v K))), (q.na, .dK (kv_FIRST_NAMES.map fun q => (q.1, q.2.v K))), (q.fi, .dK []), (q.st, .dK [])]
structure YNew (K : PySem.W.Frag) (H0 H : Hp) (y dy : Addr) (clk : Int) (q : YParts) : Prop where
  fr : ∃ rd ld, Fr H0 y [q.md, y] (q.L K y rd ld) H
  y : H y = some (.ins (CY K) dy (yF clk q.st q.fi q.na q.nu q.lm q.md q.hn q.fr q.rt q.lr))
  md : H q.md = some (.lst [])
def spYardInit (K : PySem.W.Frag) : Sp := fun vs H Q _ => ∃ (p dx : Addr) (clk : Int), vs = [.ref p, .int clk] ∧ H p = some (.ins (CY K) dx []) ∧ ∀ (H' : Hp) (q : YParts), YNew K H H' p dx clk q → Q .non H'
theorem body_yard_init {f : Addr} {cdv : Value} {A : Around} {outer : List Env} {s : Shared} {H : Hp} {vs : List V} {Q : VK} {E : XK} (T : Txt P w K mg) (hr : Room 4 (A.deeper (envOfC "Yard.__init__" (defScope s_Yard_init) s.heap.objs.size f cdv))) (h : spYardInit K vs H Q E)
    (c_Logger_init : Callable P w K mg base 2 (He.ma K (He.ga K "Logger") "__init__") ["self", "yard", "name", "level"] [] (spLoggerInit K))
    (c_StreamHandler_init_d1 : Callable P w K mg base 3 (He.ma K (He.ga K "StreamHandler") "__init__") ["self", "yard", "stream"] [.str "stderr"] (spStreamInit K)) :
    ∃ t, PSs (cxOf CX0 P w K mg base nm_Yard_init "Yard.__init__" (defScope s_Yard_init) f cdv A outer s H E).nox (defBody s_Yard_init) t ∧ t { nx := fun _ H' => Q .non H', rt := Q } (L2.start nm_Yard_init vs) H := by
  obtain ⟨p, dx, clk, rfl, hp, hQ⟩ := h
  refine ⟨_, (pss_cons (ps_fld (pv 0) (pv 1) rfl)
      (pss_cons (ps_fld (pv 0) pe_dnewK rfl)
      (pss_cons (ps_fld (pv 0) pe_dnewK rfl)
      (pss_cons (ps_fld (pv 0) (pe_callTy (RB.call_dictK T.t_FIRST_NAMES) (by rfl) T.b_dict (by decide +kernel) (pa_cons (pe_glob (v := .ref _) (by rfl) T.g_FIRST_NAMES rfl) pa_nil)) rfl)
      (pss_cons (ps_fld (pv 0) (pe_callTy (RB.call_dictK T.t_FIRST_NUMBERS) (by rfl) T.b_dict (by decide +kernel) (pa_cons (pe_glob (v := .ref _) (by rfl) T.g_FIRST_NUMBERS rfl) pa_nil)) rfl)
      (pss_cons (ps_fld (pv 0) pe_int rfl)
      (pss_cons (ps_fld (pv 0) pe_dnewK rfl)
      (pss_cons (ps_fld (pv 0) (pe_lst pa_nil) rfl)
      (pss_cons (ps_fld (pv 0) pe_dnewK rfl)
      (pss_cons (ps_fld (pv 0) (pe_lst pa_nil) rfl)
      (pss_cons (ps_fld (pv 0) (pe_mk T.k_Logger T.g_Logger c_Logger_init (hr.mono (by first | decide | exact Nat.le_refl _)) (by rfl) (pa_cons (pv 0) (pa_cons pe_str (pa_cons (pe_gi (by rfl) T.g_WARNING) pa_nil)))) rfl)
      (pss_cons (ps_fld (pv 0) (pe_mk T.k_StreamHandler T.g_StreamHandler c_StreamHandler_init_d1 (hr.mono (by first | decide | exact Nat.le_refl _)) (by rfl) (pa_cons (pv 0) pa_nil)) rfl)
      (pss_one (ps_expr (pe_bm0 PySem.F.plainAttrs_list PySem.F.slot_list_pop PySem.F.type_list_pop mt_pop (pe_fld (pv 0) rfl)))))))))))))))), ?_⟩
  have F0 := Fr.start hp
  refine ⟨_, rfl, _, rfl, p, _, dx, _, rfl, hp, T.c_Yard, T.n_Yard_clock, (by show 0 < 1000; decide), ?_⟩
  generalize e1 : upd H p _ = H1
  have F1 := F0.set List.mem_cons_self e1
  have p1 := congrFun e1.symm p; rw [upd_same] at p1
  clear e1
  intro st h_st
  refine ⟨_, rfl, p, _, dx, _, rfl, same_new h_st _ _ _ p1, T.c_Yard, T.n_Yard_stream_texts, (by show 1 < 1000; decide), ?_⟩
  generalize e : upd (upd H1 st _) p _ = H2
  have F2 := F1.putf h_st e
  have p2 := congrFun e.symm p; rw [upd_same] at p2
  clear e
  intro fi h_fi
  refine ⟨_, rfl, p, _, dx, _, rfl, same_new h_fi _ _ _ p2, T.c_Yard, T.n_Yard_file_rows, (by show 2 < 1000; decide), ?_⟩
  generalize e : upd (upd H2 fi _) p _ = H3
  have F3 := F2.putf h_fi e
  have p3 := congrFun e.symm p; rw [upd_same] at p3
  clear e
  refine ⟨rfl, fun na h_na => ?_⟩
  refine ⟨_, rfl, p, _, dx, _, rfl, same_new h_na _ _ _ p3, T.c_Yard, T.n_Yard_names_of, (by show 3 < 1000; decide), ?_⟩
  generalize e : upd (upd H3 na _) p _ = H4
  have F4 := F3.putf h_na e
  have p4 := congrFun e.symm p; rw [upd_same] at p4
  clear e
  refine ⟨rfl, fun nu h_nu => ?_⟩
  refine ⟨_, rfl, p, _, dx, _, rfl, same_new h_nu _ _ _ p4, T.c_Yard, T.n_Yard_numbers_of, (by show 4 < 1000; decide), ?_⟩
  generalize e : upd (upd H4 nu _) p _ = H5
  have F5 := F4.putf h_nu e
  have p5 := congrFun e.symm p; rw [upd_same] at p5
  clear e
  refine ⟨_, rfl, p, _, dx, _, rfl, p5, T.c_Yard, T.n_Yard_bar_level, (by show 5 < 1000; decide), ?_⟩
  generalize e : upd H5 p _ = H6
  have F6 := F5.set F5.mem e
  have p6 := congrFun e.symm p; rw [upd_same] at p6
  clear e
  intro lm h_lm
  refine ⟨_, rfl, p, _, dx, _, rfl, same_new h_lm _ _ _ p6, T.c_Yard, T.n_Yard_logger_map, (by show 6 < 1000; decide), ?_⟩
  generalize e : upd (upd H6 lm _) p _ = H7
  have F7 := F6.putf h_lm e
  have p7 := congrFun e.symm p; rw [upd_same] at p7
  clear e
  refine ⟨(by show 0 ≤ sizeLine; decide), fun md h_md => ?_⟩
  refine ⟨_, rfl, p, _, dx, _, rfl, same_new h_md _ _ _ p7, T.c_Yard, T.n_Yard_made, (by show 7 < 1000; decide), ?_⟩
  generalize e : upd (upd H7 md _) p _ = H8
  obtain ⟨F8, m8⟩ := F7.ownf h_md e
  have p8 := congrFun e.symm p; rw [upd_same] at p8
  have nmp : md ≠ p := fun z => F7.notin h_md (by rw [z]; exact F7.mem)
  clear e
  intro hn h_hn
  refine ⟨_, rfl, p, _, dx, _, rfl, same_new h_hn _ _ _ p8, T.c_Yard, T.n_Yard_handler_names, (by show 8 < 1000; decide), ?_⟩
  generalize e : upd (upd H8 hn _) p _ = H9
  have F9 := F8.putf h_hn e
  have p9 := congrFun e.symm p; rw [upd_same] at p9
  have m9 : H9 md = some (.lst []) := by rw [← e, upd_ne nmp]; exact same_new h_hn _ _ _ m8
  clear e
  refine ⟨(by show 0 ≤ sizeLine; decide), fun fr h_fr => ?_⟩
  refine ⟨_, rfl, p, _, dx, _, rfl, same_new h_fr _ _ _ p9, T.c_Yard, T.n_Yard_failure_rows, (by show 9 < 1000; decide), ?_⟩
  generalize e : upd (upd H9 fr _) p _ = H10
  have F10 := F9.putf h_fr e
  have p10 := congrFun e.symm p; rw [upd_same] at p10
  have m10 : H10 md = some (.lst []) := by rw [← e, upd_ne nmp]; exact same_new h_fr _ _ _ m9
  clear e
  -- root
  refine ⟨_, rfl, fun rt rd h_rt h_rd hne => ?_⟩
  refine ⟨rt, rd, p, "root", 30, rfl, upd_same, fun Hr rl rh k1 k2 k3 k4 k5 k6 k7 => ⟨rfl, ?_⟩⟩
  have sr : Same H10 Hr := made_same h_rt h_rd k1
  obtain ⟨k2a, k2⟩ := upd_none k2
  obtain ⟨k3a, k3⟩ := upd_none k3
  have k2 := (upd_none k2).2
  have k3 := (upd_none k3).2
  have j1 : rl ≠ rt := fun z => by rw [z, k5] at k6; cases k6
  have j2 : rh ≠ rt := fun z => by rw [z, k5] at k7; cases k7
  have Fr1 := (((F10.same sr).cons (F10.notin h_rt) (F10.none h_rt) k5 (F10.nin h_rt)).cons (F10.notin k2) (F10.none k2) k6 (nin_cons j1 (F10.nin k2))).cons (F10.notin k3) (F10.none k3) k7 (nin_cons (Ne.symm k4) (nin_cons j2 (F10.nin k3)))
  have pr := sr _ _ p10
  have mr := sr _ _ m10
  refine ⟨_, rfl, p, _, dx, _, rfl, pr, T.c_Yard, T.n_Yard_root, (by show 10 < 1000; decide), ?_⟩
  generalize e : upd Hr p _ = H11
  have F11 := Fr1.set Fr1.mem e
  have p11 := congrFun e.symm p; rw [upd_same] at p11
  have m11 : H11 md = some (.lst []) := by rw [← e, upd_ne nmp]; exact mr
  clear e
  -- last_resort
  refine ⟨_, rfl, fun lr ld h_lr h_ld hne2 => ?_⟩
  have npl : lr ≠ p := fun z => by rw [z, p11] at h_lr; cases h_lr
  have nml : lr ≠ md := fun z => by rw [z, m11] at h_lr; cases h_lr
  have t1 : ∀ C fs, Same H11 (upd (upd H11 ld (.own lr)) lr (.ins C ld fs)) := fun C fs => made_same h_lr h_ld (fun _ _ _ e => e)
  refine ⟨lr, ld, p, dx, md, "stderr", _, [], rfl, upd_same, npl, t1 _ _ _ _ p11, rfl, rfl, t1 _ _ _ _ m11, (by decide), fun Hl ll l1 l2 l3 l4 l5 => ⟨rfl, ?_⟩⟩
  have l2b : H11 ll = none := (upd_none (upd_none l2).2).2
  have f12 : ∀ b o, b ∉ [md, p] → H11 b = some o → Hl b = some o := fun b o hb e => l1 b o (ne_of_none e h_lr) (fun z => hb (by rw [z]; exact List.mem_cons_self)) (t1 _ _ _ _ e)
  have p12 := l1 p _ (Ne.symm npl) (Ne.symm nmp) (t1 _ _ _ _ p11)
  have F12 := ((F11.to f12 (fun n hn => by
    rcases List.mem_cons.mp hn with c | c
    · subst c; exact ⟨_, l5⟩
    · cases List.mem_singleton.mp c; exact ⟨_, p12⟩)).cons (F11.notin h_lr) (F11.none h_lr) l3 (F11.nin h_lr)).cons (F11.notin l2b) (F11.none l2b) l4 (nin_cons (fun z => (by rw [z, l3] at l4; cases l4)) (F11.nin l2b))
  refine ⟨_, rfl, p, _, dx, _, rfl, p12, T.c_Yard, T.n_Yard_last_resort, (by show 11 < 1000; decide), ?_⟩
  generalize e : upd Hl p _ = H13
  have F13 := F12.set F12.mem e
  have p13 := congrFun e.symm p; rw [upd_same] at p13
  have m13 : H13 md = some (.lst [.ref lr]) := by rw [← e, upd_ne nmp]; exact l5
  clear e
  refine ⟨_, rfl, p, _, dx, _, _, rfl, p13, T.c_Yard, T.n_Yard_made, rfl, .inl ⟨rfl, _, SqL.of m13⟩, md, _, _, rfl, rfl, m13, rfl, ?_⟩
  have F14 := F13.set (o := .lst []) List.mem_cons_self rfl
  refine hQ _ ⟨st, fi, na, nu, lm, md, hn, fr, rt, lr, rl, rh, ll⟩ ⟨⟨rd, ld, F14⟩, ?_, upd_same⟩
  rw [upd_ne (Ne.symm nmp)]; exact p13
theorem len_yard_init : ∀ vs H Q E, spYardInit K vs H Q E → vs.length = 2 := fun vs H Q E h => by
  obtain ⟨p, dx, clk, rfl, _⟩ := h; rfl
theorem ok_yard_init {f : Addr} (T : Txt P w K mg) (F : Stands K "__init__" "Yard.__init__" s_Yard_init [.int 0] f)
    (c_Logger_init : Callable P w K mg base 2 (He.ma K (He.ga K "Logger") "__init__") ["self", "yard", "name", "level"] [] (spLoggerInit K))
    (c_StreamHandler_init_d1 : Callable P w K mg base 3 (He.ma K (He.ga K "StreamHandler") "__init__") ["self", "yard", "stream"] [.str "stderr"] (spStreamInit K)) : Callable P w K mg base 5 f ["self", "now"] [.int 0] (spYardInit K) :=
  F.call sc_Yard_init 1 0 len_yard_init (fun cdv A outer s H vs Q E hr h => body_yard_init T hr h c_Logger_init c_StreamHandler_init_d1) (fun z => nomatch z) fun _ => ⟨rfl, fun _ _ _ _ _ _ _ us its hl hi => match us, hl, its, hi with | [_], _, [_], _ => ⟨_, rfl, rfl⟩⟩
end
end K17

set_option Elab.async false
set_option linter.all false
set_option maxRecDepth 100000
set_option maxHeartbeats 0
namespace K17
open PySem PySem.Spec PyProof.Rows L2 RC
section
variable {P : Program} {w : World} {K : PySem.W.Frag} {mg : Str → Option Value} {base : Heap}
/-! ### classes -/
abbrev CR (K : PySem.W.Frag) : Addr := He.ga K "LogRecord"
abbrev CRo (K : PySem.W.Frag) : Addr := He.ga K "TimedRotatingFileHandler"
/-- a record of the name rn stands at r -/
def RecName (K : PySem.W.Frag) (H : Hp) (r : Addr) (rn : Str) : Prop := ∃ dx fs, H r = some (.ins (CR K) dx fs) ∧ fs.lookup ("name" : Str) = some (.str rn)
theorem seq_of {a b : TS} {D : Ends} {σ : L2.St} {H : Hp} (Mid : L2.St → Hp → Prop) (hA : ∀ b' : TS, (∀ σ' H', Mid σ' H' → b' D σ' H') → tSeq a b' D σ H) (hB : ∀ σ' H', Mid σ' H' → b D σ' H') : tSeq a b D σ H := hA b hB
end
end K17

set_option Elab.async false
set_option linter.all false
set_option maxRecDepth 100000
set_option maxHeartbeats 4000000
/-! A model M of what stands at the places ad: what is changed at one model leaves the others. -/
namespace RR
open PySem PySem.Spec PyProof.Rows L2 RC
section
variable {R S : Type} {M M' M'' : R → Option HO} {N N' : S → Option HO} {ad ad' ad'' : R → Addr} {bd bd' : S → Addr} {H H' H'' : Hp} {b p s l : Addr} {o o0 o1 : HO}
structure Rep (M : R → Option HO) (ad : R → Addr) (H : Hp) : Prop where
  at_ : ∀ r o, M r = some o → H (ad r) = some o
  inj : ∀ r r' o o', M r = some o → M r' = some o' → ad r = ad r' → r = r'
def Out (M : R → Option HO) (ad : R → Addr) (b : Addr) : Prop := ∀ r u, M r = some u → ad r ≠ b
structure Mv {R S : Type} (M : R → Option HO) (ad : R → Addr) (H : Hp) (M' : S → Option HO) (ad' : S → Addr) (H' : Hp) : Prop where
  keep : ∀ b o, Out M ad b → H b = some o → H' b = some o
  img : ∀ r u, M' r = some u → (∃ r' u', M r' = some u' ∧ ad r' = ad' r) ∨ H (ad' r) = none
theorem Rep.out (h : Rep M ad H) (hp : H p = none) : Out M ad p := fun r u e z => by rw [← z, h.at_ _ _ e] at hp; cases hp
theorem Mv.refl (H : Hp) : Mv M ad H M ad H := ⟨fun _ _ _ e => e, fun r u e => .inl ⟨r, u, e, rfl⟩⟩
theorem Mv.out {R S : Type} {M : R → Option HO} {ad : R → Addr} {M' : S → Option HO} {ad' : S → Addr} (m : Mv M ad H M' ad' H') (h : Out M ad b) (e : H b = some o) : Out M' ad' b := fun r u er z => by
  rcases m.img r u er with ⟨r', u', e', z'⟩ | hn
  · exact h r' u' e' (z'.trans z)
  · rw [z, e] at hn; cases hn
theorem Mv.trans {R S U : Type} {M : R → Option HO} {ad : R → Addr} {M' : S → Option HO} {ad' : S → Addr} {M'' : U → Option HO} {ad'' : U → Addr} (a : Mv M ad H M' ad' H') (c : Mv M' ad' H' M'' ad'' H'') : Mv M ad H M'' ad'' H'' where
  keep := fun b o h e => c.keep b o (a.out h e) (a.keep b o h e)
  img := fun r u e => by
    rcases c.img r u e with ⟨r', u', e', z⟩ | hn
    · rcases a.img r' u' e' with ⟨r2, u2, e2, z2⟩ | h
      · exact .inl ⟨r2, u2, e2, z2.trans z⟩
      · exact .inr (by rw [← z]; exact h)
    · cases hH : H (ad'' r) with
      | none => exact .inr rfl
      | some o =>
        by_cases ho : Out M ad (ad'' r)
        · rw [a.keep _ _ ho hH] at hn; cases hn
        · refine .inl ?_
          apply Classical.byContradiction
          intro z
          exact ho fun r' u' e' q => z ⟨r', u', e', q⟩
theorem Rep.same (h : Rep M ad H) (e : Same H H') : Rep M ad H' := ⟨fun r o q => e _ _ (h.at_ r o q), h.inj⟩
theorem Mv.same (e : Same H H') : Mv M ad H M ad H' := ⟨fun b o _ q => e b o q, fun r u q => .inl ⟨r, u, q, rfl⟩⟩
theorem Mv.sameR {R S : Type} {M : R → Option HO} {ad : R → Addr} {M' : S → Option HO} {ad' : S → Addr} (a : Mv M ad H M' ad' H') (e : Same H' H'') : Mv M ad H M' ad' H'' := a.trans (Mv.same e)
theorem Mv.sameL {R S : Type} {M : R → Option HO} {ad : R → Addr} {M' : S → Option HO} {ad' : S → Addr} (a : Mv M ad H' M' ad' H'') (e : Same H H') : Mv M ad H M' ad' H'' := (Mv.same e).trans a
def Dj (M : R → Option HO) (ad : R → Addr) (N : S → Option HO) (bd : S → Addr) : Prop := ∀ r u, N r = some u → Out M ad (bd r)
theorem Dj.symm (d : Dj M ad N bd) : Dj N bd M ad := fun r u e r' u' e' z => d r' u' e' r u e z.symm
theorem Mv.rep {R S U : Type} {M : R → Option HO} {ad : R → Addr} {M' : S → Option HO} {ad' : S → Addr} {N : U → Option HO} {bd : U → Addr} (a : Mv M ad H M' ad' H') (d : Dj M ad N bd) (n : Rep N bd H) : Rep N bd H' := ⟨fun r o q => a.keep _ _ (d r o q) (n.at_ r o q), n.inj⟩
theorem Mv.dj {R S U : Type} {M : R → Option HO} {ad : R → Addr} {M' : S → Option HO} {ad' : S → Addr} {N : U → Option HO} {bd : U → Addr} (a : Mv M ad H M' ad' H') (d : Dj M ad N bd) (n : Rep N bd H) : Dj M' ad' N bd := fun r u q => a.out (d r u q) (n.at_ r u q)
theorem Rep.set (h : Rep M ad H) (r : R) (h0 : M r = some o0) (h1 : M' r = some o) (h2 : ∀ r', r' ≠ r → M' r' = M r') : Rep M' ad (upd H (ad r) o) ∧ Mv M ad H M' ad (upd H (ad r) o) := by
  have k : ∀ r' u, M' r' = some u → ∃ u', M r' = some u' := fun r' u e => by
    by_cases c : r' = r
    · rw [c]; exact ⟨_, h0⟩
    · rw [h2 r' c] at e; exact ⟨_, e⟩
  refine ⟨⟨fun r' u e => ?_, fun r1 r2 u1 u2 e1 e2 z => ?_⟩, fun b u hb e => ?_, fun r' u e => ?_⟩
  · by_cases c : r' = r
    · rw [c, upd_same]; rw [c, h1] at e; exact e
    · rw [h2 r' c] at e
      rw [upd_ne (fun z => c (h.inj _ _ _ _ e h0 z))]; exact h.at_ _ _ e
  · obtain ⟨v1, q1⟩ := k _ _ e1
    obtain ⟨v2, q2⟩ := k _ _ e2
    exact h.inj _ _ _ _ q1 q2 z
  · rw [upd_ne (fun z => hb r _ h0 z.symm)]; exact e
  · obtain ⟨u', q⟩ := k _ _ e
    exact .inl ⟨r', u', q, rfl⟩
theorem Rep.new (h : Rep M ad H) (hp : H p = none) (r : R) (h1 : M' r = some o) (h2 : ∀ r', r' ≠ r → M' r' = M r') (a1 : ad' r = p) (a2 : ∀ r', r' ≠ r → ad' r' = ad r') : Rep M' ad' (upd H p o) ∧ Mv M ad H M' ad' (upd H p o) := by
  refine ⟨⟨fun r' u e => ?_, fun r1 r2 u1 u2 e1 e2 z => ?_⟩, fun b u hb e => ?_, fun r' u e => ?_⟩
  · by_cases c : r' = r
    · rw [c, a1, upd_same]; rw [c, h1] at e; exact e
    · rw [h2 r' c] at e
      have g := h.at_ _ _ e
      rw [a2 r' c, upd_ne (fun z => by rw [z, hp] at g; cases g)]; exact g
  · by_cases c1 : r1 = r
    · by_cases c2 : r2 = r
      · rw [c1, c2]
      · rw [h2 r2 c2] at e2
        have g := h.at_ _ _ e2
        rw [c1, a1, a2 r2 c2] at z
        rw [← z, hp] at g; cases g
    · by_cases c2 : r2 = r
      · rw [h2 r1 c1] at e1
        have g := h.at_ _ _ e1
        rw [c2, a1, a2 r1 c1] at z
        rw [z, hp] at g; cases g
      · rw [h2 r1 c1] at e1
        rw [h2 r2 c2] at e2
        rw [a2 r1 c1, a2 r2 c2] at z
        exact h.inj _ _ _ _ e1 e2 z
  · rw [upd_ne (fun z => by rw [z, hp] at e; cases e)]; exact e
  · by_cases c : r' = r
    · rw [c, a1]; exact .inr hp
    · rw [h2 r' c] at e
      exact .inl ⟨r', u, e, (a2 r' c).symm⟩
/-- a new thing at one place, and a place that tells of it -/
theorem Rep.newset (h : Rep M ad H) (hp : H p = none) (r r0 : R) (hr : r0 ≠ r) (h0 : M r0 = some o0) (h1 : M' r = some o) (h3 : M' r0 = some o1) (h2 : ∀ r', r' ≠ r → r' ≠ r0 → M' r' = M r') (a1 : ad' r = p) (a2 : ∀ r', r' ≠ r → ad' r' = ad r') :
    Rep M' ad' (upd (upd H p o) (ad r0) o1) ∧ Mv M ad H M' ad' (upd (upd H p o) (ad r0) o1) := by
  classical
  obtain ⟨g1, g2⟩ := h.new (M' := fun r' => if r' = r then some o else M r') hp r (if_pos rfl) (fun r' c => if_neg c) a1 a2
  have e0 : (fun r' => if r' = r then some o else M r') r0 = some o0 := (if_neg hr).trans h0
  obtain ⟨g3, g4⟩ := g1.set (M' := M') r0 e0 h3 (fun r' c => by
    by_cases d : r' = r
    · rw [d, h1]; exact (if_pos rfl).symm
    · rw [h2 r' d c]; exact (if_neg d).symm)
  rw [a2 r0 hr] at g3 g4
  exact ⟨g3, g2.trans g4⟩
theorem Rep.old (h : Rep M ad H) (e : Old s l H H') (hs : Out M ad s) (hl : Out M ad l) : Rep M ad H' := ⟨fun r o q => e _ _ (fun z => hs r o q z) (fun z => hl r o q z) (h.at_ r o q), h.inj⟩
theorem Stm.mv {R S : Type} {M : R → Option HO} {ad : R → Addr} {M' : S → Option HO} {ad' : S → Addr} {n : Nat} (st : Stm H s l n) (a : Mv M ad H M' ad' H') (hs : Out M ad s) (hl : Out M ad l) : Stm H' s l n := by
  obtain ⟨ne, ns, x, c, d, g1, g2, g3⟩ := st
  exact ⟨ne, ns, x, c, d, a.keep _ _ hs g1, a.keep _ _ hl g2, g3⟩
end
end RR

set_option Elab.async false
set_option linter.all false
set_option maxRecDepth 100000
set_option maxHeartbeats 0
namespace K17
open PySem PySem.Spec PyProof.Rows L2 RC
section
variable {P : Program} {w : World} {K : PySem.W.Frag} {mg : Str → Option Value} {base : Heap}
/-! ### the model: two yards, what the law keeps of them -/
def strK (ts : List (Str × Str)) : List (Key × V) := ts.map fun e => ((Sum.inr e.1 : Key), V.str e.2)
def txt (ts : List (Str × Str)) (s : Str) : Str := (ts.lookup s).getD ""
def putS (ts : List (Str × Str)) (s t : Str) : List (Str × Str) := if ts.any (fun e => decide (e.1 = s)) = true then ts.map (fun e => if e.1 = s then (e.1, t) else e) else ts ++ [(s, t)]
theorem valV_strK (s : Str) : ∀ ts : List (Str × Str), valV (strK ts) (Sum.inr s) = (ts.lookup s).map V.str
  | [] => rfl
  | e :: es => by
    by_cases h : e.1 = s
    · have h1 : valV (strK (e :: es)) (Sum.inr s) = some (V.str e.2) := valV_pos (p := ((Sum.inr e.1 : Key), V.str e.2)) (r := strK es) (congrArg Sum.inr h)
      rw [h1, List.lookup_cons, beq_iff_eq.mpr h.symm]; rfl
    · have h1 : valV (strK (e :: es)) (Sum.inr s) = valV (strK es) (Sum.inr s) := by
        show valV (((Sum.inr e.1 : Key), V.str e.2) :: strK es) (Sum.inr s) = _
        unfold valV
        rw [List.find?_cons, show decide ((Sum.inr e.1 : Key) = Sum.inr s) = false from decide_eq_false fun z => h (Sum.inr.inj z)]
      rw [h1, List.lookup_cons, show (s == e.1) = false from by simpa using fun z : s = e.1 => h z.symm, valV_strK s es]
theorem putK_strK (ts : List (Str × Str)) (s t : Str) : putK (strK ts) (Sum.inr s) (.str t) = strK (putS ts s t) := by
  unfold putK putS
  have e : (strK ts).any (fun p => decide (p.1 = (Sum.inr s : Key))) = ts.any (fun e => decide (e.1 = s)) := by
    unfold strK
    rw [List.any_map]
    congr 1
    funext e
    exact decide_eq_decide.mpr ⟨fun z => Sum.inr.inj z, fun z => congrArg Sum.inr z⟩
  rw [e]
  split
  · unfold strK
    rw [List.map_map, List.map_map]
    refine List.map_congr_left fun e _ => ?_
    show (if (Sum.inr e.1 : Key) = Sum.inr s then _ else _) = _
    by_cases c : e.1 = s
    · rw [if_pos (congrArg Sum.inr c)]
      show _ = ((Sum.inr (if e.1 = s then (e.1, t) else e).1 : Key), V.str (if e.1 = s then (e.1, t) else e).2)
      rw [if_pos c]
    · rw [if_neg (fun z => c (Sum.inr.inj z))]
      show _ = ((Sum.inr (if e.1 = s then (e.1, t) else e).1 : Key), V.str (if e.1 = s then (e.1, t) else e).2)
      rw [if_neg c]
  · unfold strK; rw [List.map_append]; rfl
theorem putS_length (ts : List (Str × Str)) (s t : Str) : (putS ts s t).length ≤ ts.length + 1 := by
  unfold putS
  split
  · rw [List.length_map]; omega
  · rw [List.length_append]; exact Nat.le_refl _
/-- no text is longer than n, nor are there more of them -/
def Cap (ts : List (Str × Str)) (n : Nat) : Prop := ts.length ≤ n ∧ ∀ e ∈ ts, e.2.length ≤ n
theorem txt_cap {ts : List (Str × Str)} {n : Nat} (c : Cap ts n) (s : Str) : (txt ts s).length ≤ n := by
  unfold txt
  cases e : ts.lookup s with
  | none => exact Nat.zero_le _
  | some t =>
    have hm : ∃ k, (k, t) ∈ ts := by
      clear c
      induction ts with
      | nil => cases e
      | cons a r ih =>
        rw [List.lookup_cons] at e
        split at e
        · cases e; exact ⟨a.1, List.mem_cons_self⟩
        · obtain ⟨k, hk⟩ := ih e; exact ⟨k, List.mem_cons_of_mem _ hk⟩
    obtain ⟨k, hk⟩ := hm
    exact c.2 _ hk
theorem len_app (x y : Str) : (x ++ y).length = x.length + y.length := by
  rw [TL.len_tl, TL.tl_append, List.length_append, ← TL.len_tl, ← TL.len_tl]
theorem app_assoc (x y z : Str) : x ++ y ++ z = x ++ (y ++ z) := by
  refine TL.ext_tl ?_
  rw [TL.tl_append, TL.tl_append, TL.tl_append, TL.tl_append, List.append_assoc]
theorem putS_cap {ts : List (Str × Str)} {n k : Nat} (c : Cap ts n) (s : Str) {t : Str} (ht : t.length ≤ n + k) (hk : 1 ≤ k) : Cap (putS ts s t) (n + k) := by
  refine ⟨Nat.le_trans (putS_length _ _ _) (by have := c.1; omega), fun e he => ?_⟩
  unfold putS at he
  split at he
  · obtain ⟨e', h1, rfl⟩ := List.mem_map.mp he
    split
    · exact ht
    · exact Nat.le_trans (c.2 _ h1) (by omega)
  · rcases List.mem_append.mp he with h | h
    · exact Nat.le_trans (c.2 _ h) (by omega)
    · cases List.mem_singleton.mp h; exact ht
/-- when, interval, backup_count, rolloverAt of a handler that rolls by time -/
structure TL where
  wi : Nat
  iv : Int
  bk : Nat
  at_ : Int
/-- what a handler of a file has -/
structure Hd where
  fv : V
  tm : Str
  cl : Bool
  fn : Str
  w : Bool
  dl : Bool
  op : Bool
  sh : Bool
  tl : Option TL := none
def mdS (w : Bool) : Str := if w = true then "w" else "a"
def tlF : Option TL → List (Str × V)
  | none => []
  | some t => [("when", .str (whN t.wi)), ("interval", .int t.iv), ("backup_count", .int (t.bk : Int)), ("rolloverAt", .int t.at_)]
def Hd.F (d : Hd) (fl y : Addr) : List (Str × V) := ("filters", .ref fl) :: ("yard", .ref y) :: ("level", .int 0) :: ("formatter", d.fv) :: ("name", .non) :: ("terminator", .str d.tm) :: ("closed", .bl d.cl) :: ("filename", .str d.fn) :: ("mode", .str (mdS d.w)) :: ("delay", .bl d.dl) :: ("is_open", .bl d.op) :: ("shut", .bl d.sh) :: tlF d.tl
/-- a yard with files, handlers of it, what could not be formatted -/
structure FS where
  now : Int
  files : List (Str × Str)
  tim : Str → Int
  md : List V
  hs : List Hd
  fr : List (Str × Str)
inductive Ro
  | y | fi | na | nu | md | fr | st
  | h (i : Nat)
  | hl (i : Nat)
  | ft (i : Nat)
  | row (k : Str)
  | x (j : Nat)
def yFs (s : FS) (ad : Ro → Addr) : List (Str × V) := yF s.now (ad .st) (ad .fi) (ad .na) (ad .nu) (ad (.x 2)) (ad .md) (ad (.x 3)) (ad .fr) (ad (.x 4)) (ad (.x 5))
def filK (fs : List (Str × Str)) (ad : Ro → Addr) : List (Key × V) := fs.map fun e => ((Sum.inr e.1 : Key), V.ref (ad (.row e.1)))
def nms0 (K : PySem.W.Frag) : List (Key × V) := kv_FIRST_NAMES.map fun q => (q.1, q.2.v K)
def nums0 (K : PySem.W.Frag) : List (Key × V) := kv_FIRST_NUMBERS.map fun q => (q.1, q.2.v K)
def frL (n : Nat) (ad : Ro → Addr) : List V := (List.range n).map fun i => V.ref (ad (.ft i))
def Y1 (K : PySem.W.Frag) (s : FS) (ad : Ro → Addr) : Ro → Option HO
  | .y => some (.ins (CY K) (ad (.x 0)) (yFs s ad))
  | .fi => some (.dK (filK s.files ad))
  | .na => some (.dK (nms0 K))
  | .nu => some (.dK (nums0 K))
  | .st => some (.dK [])
  | .md => some (.lst s.md)
  | .fr => some (.lst (frL s.fr.length ad))
  | .h i => (s.hs[i]?).map fun d => .ins (CRo K) (ad (.x (9 + i))) (d.F (ad (.hl i)) (ad .y))
  | .hl i => if i < s.hs.length then some (.lst []) else none
  | .ft i => (s.fr[i]?).map fun f => .tup [.str f.1, .str f.2]
  | .row k => (s.files.lookup k).map fun t => .lst [.str t, .int (s.tim k)]
  | _ => none
abbrev YR (K : PySem.W.Frag) (s : FS) (ad : Ro → Addr) (H : Hp) : Prop := RR.Rep (Y1 K s ad) ad H
abbrev YM (K : PySem.W.Frag) (s : FS) (ad : Ro → Addr) (H : Hp) (s' : FS) (ad' : Ro → Addr) (H' : Hp) : Prop := RR.Mv (Y1 K s ad) ad H (Y1 K s' ad') ad' H'
section
variable {s : FS} {ad : Ro → Addr} {H : Hp}
theorem _root_.RR.Rep.y_ (R : YR K s ad H) : H (ad .y) = some (.ins (CY K) (ad (.x 0)) (yFs s ad)) := R.at_ .y _ rfl
theorem _root_.RR.Rep.fi_ (R : YR K s ad H) : H (ad .fi) = some (.dK (filK s.files ad)) := R.at_ .fi _ rfl
theorem _root_.RR.Rep.na_ (R : YR K s ad H) : H (ad .na) = some (.dK (nms0 K)) := R.at_ .na _ rfl
theorem _root_.RR.Rep.nu_ (R : YR K s ad H) : H (ad .nu) = some (.dK (nums0 K)) := R.at_ .nu _ rfl
theorem _root_.RR.Rep.st_ (R : YR K s ad H) : H (ad .st) = some (.dK []) := R.at_ .st _ rfl
theorem _root_.RR.Rep.md_ (R : YR K s ad H) : H (ad .md) = some (.lst s.md) := R.at_ .md _ rfl
theorem _root_.RR.Rep.fr_ (R : YR K s ad H) : H (ad .fr) = some (.lst (frL s.fr.length ad)) := R.at_ .fr _ rfl
theorem _root_.RR.Rep.h_ (R : YR K s ad H) {i : Nat} {d : Hd} (h : s.hs[i]? = some d) : H (ad (.h i)) = some (.ins (CRo K) (ad (.x (9 + i))) (d.F (ad (.hl i)) (ad .y))) := R.at_ (.h i) _ (by show (s.hs[i]?).map _ = _; rw [h]; rfl)
theorem _root_.RR.Rep.hl_ (R : YR K s ad H) {i : Nat} (h : i < s.hs.length) : H (ad (.hl i)) = some (.lst []) := R.at_ (.hl i) _ (if_pos h)
theorem _root_.RR.Rep.ft_ (R : YR K s ad H) {i : Nat} {f : Str × Str} (h : s.fr[i]? = some f) : H (ad (.ft i)) = some (.tup [.str f.1, .str f.2]) := R.at_ (.ft i) _ (by show (s.fr[i]?).map _ = _; rw [h]; rfl)
theorem _root_.RR.Rep.row_ (R : YR K s ad H) {k t : Str} (h : s.files.lookup k = some t) : H (ad (.row k)) = some (.lst [.str t, .int (s.tim k)]) := R.at_ (.row k) _ (by show (s.files.lookup k).map _ = _; rw [h]; rfl)
end
/-- all places but those of files' rows and of failures -/
def Fx (ad ad' : Ro → Addr) : Prop := ∀ r, (∀ k, r ≠ .row k) → (∀ k, r ≠ .ft k) → ad' r = ad r
theorem Fx.refl (ad : Ro → Addr) : Fx ad ad := fun _ _ _ => rfl
theorem Fx.trans {a b c : Ro → Addr} (h : Fx a b) (k : Fx b c) : Fx a c := fun r hr hf => (k r hr hf).trans (h r hr hf)
def FS.put (s : FS) (k t : Str) : FS := { s with files := putS s.files k t, tim := fun x => if x = k then s.now else s.tim x }
def FS.rem (s : FS) (k : Str) : FS := { s with files := s.files.filter fun e => decide (e.1 ≠ k) }
def FS.ren (s : FS) (a b t : Str) : FS := { s with files := putS (s.files.filter fun e => decide (e.1 ≠ a)) b t, tim := fun x => if x = b then s.tim a else s.tim x }
def FS.setD (s : FS) (i : Nat) (d : Hd) : FS := { s with hs := s.hs.set i d }
def FS.fail (s : FS) (n w : Str) : FS := { s with fr := s.fr ++ [(n, w)] }
theorem lkc (x : Str) (e : Str × Str) (r : List (Str × Str)) : (e :: r).lookup x = if x = e.1 then some e.2 else r.lookup x := by
  rw [List.lookup_cons]
  by_cases d : x = e.1
  · rw [show (x == e.1) = true from beq_iff_eq.mpr d, if_pos d]
  · rw [show (x == e.1) = false from beq_eq_false_iff_ne.mpr d, if_neg d]
theorem lk_map (k t x : Str) : ∀ ts : List (Str × Str), (ts.map fun e => if e.1 = k then (e.1, t) else e).lookup x = if x = k then (ts.lookup x).map (fun _ => t) else ts.lookup x
  | [] => by split <;> rfl
  | e :: r => by
    have ih := lk_map k t x r
    rw [List.map_cons, lkc, lkc, ih]
    by_cases c : e.1 = k
    · rw [if_pos c]
      by_cases d : x = k
      · have d2 : x = e.1 := d.trans c.symm
        rw [if_pos d2, if_pos d, if_pos d2]; rfl
      · have d2 : ¬ x = e.1 := fun z => d (z.trans c)
        rw [if_neg d2, if_neg d, if_neg d, if_neg d2]
    · rw [if_neg c]
      by_cases d : x = k
      · have d2 : ¬ x = e.1 := fun z => c (z.symm.trans d)
        rw [if_neg d2, if_pos d, if_pos d, if_neg d2]
      · rw [if_neg d, if_neg d]
theorem lk_any (k : Str) : ∀ ts : List (Str × Str), ts.any (fun e => decide (e.1 = k)) = (ts.lookup k).isSome
  | [] => rfl
  | e :: r => by
    rw [List.any_cons, lkc, lk_any k r]
    by_cases c : e.1 = k
    · rw [decide_eq_true c, if_pos c.symm]; rfl
    · rw [decide_eq_false c, if_neg (fun z => c z.symm)]; rfl
theorem lk_app (x : Str) (b : Str × Str) : ∀ ts : List (Str × Str), (ts ++ [b]).lookup x = (ts.lookup x).or (if x = b.1 then some b.2 else none)
  | [] => by
    rw [List.nil_append, lkc]; rfl
  | e :: r => by
    rw [List.cons_append, lkc, lkc, lk_app x b r]
    by_cases d : x = e.1
    · rw [if_pos d, if_pos d]; rfl
    · rw [if_neg d, if_neg d]
theorem lookup_putS (ts : List (Str × Str)) (k t x : Str) : (putS ts k t).lookup x = if x = k then some t else ts.lookup x := by
  unfold putS
  rw [lk_any]
  cases e : ts.lookup k with
  | some u =>
    rw [if_pos (show (some u).isSome = true from rfl), lk_map]
    by_cases d : x = k
    · rw [if_pos d, if_pos d, d, e]; rfl
    · rw [if_neg d, if_neg d]
  | none =>
    rw [if_neg (show ¬ (none : Option Str).isSome = true by decide), lk_app]
    by_cases d : x = k
    · rw [if_pos d, if_pos d, d, e]; rfl
    · rw [if_neg d, if_neg d]; cases ts.lookup x <;> rfl
theorem lookup_rem (k x : Str) : ∀ ts : List (Str × Str), (ts.filter fun e => decide (e.1 ≠ k)).lookup x = if x = k then none else ts.lookup x
  | [] => by split <;> rfl
  | e :: r => by
    have ih := lookup_rem k x r
    by_cases c : e.1 = k
    · rw [List.filter_cons_of_neg (by simp [c]), ih, lkc]
      by_cases d : x = k
      · rw [if_pos d, if_pos d]
      · rw [if_neg d, if_neg d, if_neg (fun z => d (z.trans c))]
    · rw [List.filter_cons_of_pos (by simp [c]), lkc, lkc, ih]
      by_cases d : x = k
      · have d2 : ¬ x = e.1 := fun z => c (z.symm.trans d)
        rw [if_neg d2, if_pos d, if_pos d]
      · rw [if_neg d, if_neg d]
/-- a file is put: a new row at p -/
def adR (ad : Ro → Addr) (k : Str) (p : Addr) : Ro → Addr
  | .row x => if x = k then p else ad (.row x)
  | r => ad r
theorem fx_adR (ad : Ro → Addr) (k : Str) (p : Addr) : Fx ad (adR ad k p) := fun r hr _ => by
  cases r with
  | row x => exact absurd rfl (hr x)
  | _ => rfl
section
variable {s : FS} {ad : Ro → Addr} {H : Hp}
theorem filK_put (fs : List (Str × Str)) (ad : Ro → Addr) (k t : Str) (p : Addr) : filK (putS fs k t) (adR ad k p) = putK (filK fs ad) (Sum.inr k) (.ref p) := by
  unfold putK putS
  have e : (filK fs ad).any (fun q => decide (q.1 = (Sum.inr k : Key))) = fs.any (fun e => decide (e.1 = k)) := by
    unfold filK
    rw [List.any_map]
    congr 1
    funext e
    exact decide_eq_decide.mpr ⟨fun z => Sum.inr.inj z, fun z => congrArg Sum.inr z⟩
  rw [e]
  split
  · unfold filK
    rw [List.map_map, List.map_map]
    refine List.map_congr_left fun e _ => ?_
    show ((Sum.inr (if e.1 = k then (e.1, t) else e).1 : Key), V.ref (adR ad k p (.row (if e.1 = k then (e.1, t) else e).1))) = (if (Sum.inr e.1 : Key) = Sum.inr k then _ else _)
    by_cases c : e.1 = k
    · rw [if_pos c, if_pos (congrArg Sum.inr c)]
      show ((Sum.inr e.1 : Key), V.ref (if e.1 = k then p else ad (.row e.1))) = _
      rw [if_pos c]
    · rw [if_neg c, if_neg (fun z => c (Sum.inr.inj z))]
      show ((Sum.inr e.1 : Key), V.ref (if e.1 = k then p else ad (.row e.1))) = _
      rw [if_neg c]
  · rename_i h
    unfold filK
    rw [List.map_append]
    congr 1
    · refine List.map_congr_left fun e he => ?_
      have c : e.1 ≠ k := fun z => h (List.any_eq_true.mpr ⟨e, he, decide_eq_true z⟩)
      show ((Sum.inr e.1 : Key), V.ref (if e.1 = k then p else ad (.row e.1))) = _
      rw [if_neg c]
    · show [((Sum.inr k : Key), V.ref (if k = k then p else ad (.row k)))] = _
      rw [if_pos rfl]
theorem filK_rem (fs : List (Str × Str)) (ad : Ro → Addr) (k : Str) : filK (fs.filter fun e => decide (e.1 ≠ k)) ad = dropK (filK fs ad) (Sum.inr k) := by
  unfold dropK filK
  rw [List.filter_map]
  congr 1
  refine List.filter_congr fun e _ => ?_
  exact decide_eq_decide.mpr ⟨fun h z => h (Sum.inr.inj z), fun h z => h (congrArg Sum.inr z)⟩
theorem strK_rem (fs : List (Str × Str)) (k : Str) : strK (fs.filter fun e => decide (e.1 ≠ k)) = dropK (strK fs) (Sum.inr k) := by
  unfold dropK strK
  rw [List.filter_map]
  congr 1
  refine List.filter_congr fun e _ => ?_
  exact decide_eq_decide.mpr ⟨fun h z => h (Sum.inr.inj z), fun h z => h (congrArg Sum.inr z)⟩
def Ydrop (K : PySem.W.Frag) (s : FS) (ad : Ro → Addr) (k : Str) : Ro → Option HO
  | .row x => ((s.files.filter fun e => decide (e.1 ≠ k)).lookup x).map fun t => .lst [.str t, .int (s.tim x)]
  | r => Y1 K s ad r
theorem rep_sub {R : Type} {M M' : R → Option HO} {ad : R → Addr} {H : Hp} (h : RR.Rep M ad H) (k : ∀ r o, M' r = some o → M r = some o) : RR.Rep M' ad H ∧ RR.Mv M ad H M' ad H :=
  ⟨⟨fun r o e => h.at_ r o (k r o e), fun r r' o o' e e' z => h.inj r r' o o' (k _ _ e) (k _ _ e') z⟩, ⟨fun _ _ _ e => e, fun r u e => .inl ⟨r, u, k r u e, rfl⟩⟩⟩
theorem _root_.RR.Rep.rem {s : FS} {ad : Ro → Addr} {H : Hp} (R : YR K s ad H) (k : Str) : YR K (s.rem k) ad (upd H (ad .fi) (.dK (dropK (filK s.files ad) (Sum.inr k)))) ∧ YM K s ad H (s.rem k) ad (upd H (ad .fi) (.dK (dropK (filK s.files ad) (Sum.inr k)))) := by
  obtain ⟨g1, g2⟩ := rep_sub (M' := Ydrop K s ad k) R fun r o e => by
    cases r with
    | row x =>
      have e : ((s.files.filter fun e => decide (e.1 ≠ k)).lookup x).map (fun t => HO.lst [.str t, .int (s.tim x)]) = some o := e
      rw [lookup_rem] at e
      by_cases c : x = k
      · rw [if_pos c] at e; cases e
      · rw [if_neg c] at e; exact e
    | _ => exact e
  obtain ⟨g3, g4⟩ := RR.Rep.set (M' := Y1 K (s.rem k) ad) (o := .dK (dropK (filK s.files ad) (Sum.inr k))) g1 .fi rfl (congrArg (fun z => some (HO.dK z)) (filK_rem s.files ad k)) (fun r hr => by cases r <;> first | rfl | exact absurd rfl hr)
  exact ⟨g3, g2.trans g4⟩
theorem _root_.RR.Rep.put {s : FS} {ad : Ro → Addr} {H : Hp} {p : Addr} (R : YR K s ad H) (k t : Str) (hp : H p = none) : YR K (s.put k t) (adR ad k p) (upd (upd H p (.lst [.str t, .int s.now])) (ad .fi) (.dK (putK (filK s.files ad) (Sum.inr k) (.ref p)))) ∧
    YM K s ad H (s.put k t) (adR ad k p) (upd (upd H p (.lst [.str t, .int s.now])) (ad .fi) (.dK (putK (filK s.files ad) (Sum.inr k) (.ref p)))) := by
  refine RR.Rep.newset (M' := Y1 K (s.put k t) (adR ad k p)) (ad' := adR ad k p) R hp (.row k) .fi (fun h => nomatch h) rfl ?_ ?_ (fun r h1 h2 => ?_) (if_pos rfl) (fun r hr => ?_)
  · show ((putS s.files k t).lookup k).map (fun u => HO.lst [.str u, .int (if k = k then s.now else s.tim k)]) = _
    rw [lookup_putS, if_pos rfl, if_pos rfl]; rfl
  · exact congrArg (fun z => some (HO.dK z)) (filK_put s.files ad k t p)
  · cases r with
    | row x =>
      have c : x ≠ k := fun z => h1 (by rw [z])
      show ((putS s.files k t).lookup x).map (fun u => HO.lst [.str u, .int (if x = k then s.now else s.tim x)]) = _
      rw [lookup_putS, if_neg c, if_neg c]; rfl
    | fi => exact absurd rfl h2
    | _ => rfl
  · cases r with
    | row x => exact if_neg fun z => hr (by rw [z])
    | _ => rfl
end
section
variable {s : FS} {ad : Ro → Addr} {H : Hp}
theorem _root_.RR.Rep.setD (R : YR K s ad H) {i : Nat} {d0 : Hd} (h : s.hs[i]? = some d0) (d : Hd) : YR K (s.setD i d) ad (upd H (ad (.h i)) (.ins (CRo K) (ad (.x (9 + i))) (d.F (ad (.hl i)) (ad .y)))) ∧ YM K s ad H (s.setD i d) ad (upd H (ad (.h i)) (.ins (CRo K) (ad (.x (9 + i))) (d.F (ad (.hl i)) (ad .y)))) := by
  have hl : i < s.hs.length := (List.getElem?_eq_some_iff.mp h).1
  refine RR.Rep.set R (.h i) (show (s.hs[i]?).map _ = _ by rw [h]; rfl) ?_ fun r hr => ?_
  · show ((s.hs.set i d)[i]?).map _ = _
    rw [List.getElem?_set_self hl]; rfl
  · cases r with
    | h j =>
      have c : j ≠ i := fun z => hr (by rw [z])
      show ((s.hs.set i d)[j]?).map _ = _
      rw [List.getElem?_set_ne (Ne.symm c)]; rfl
    | hl j => show (if j < (s.hs.set i d).length then _ else _) = _; rw [List.length_set]; rfl
    | _ => rfl
/-- a failure is kept: its tuple at p -/
def adT (ad : Ro → Addr) (n : Nat) (p : Addr) : Ro → Addr
  | .ft i => if i = n then p else ad (.ft i)
  | r => ad r
theorem fx_adT (ad : Ro → Addr) (n : Nat) (p : Addr) : Fx ad (adT ad n p) := fun r _ hr => by
  cases r with
  | ft x => exact absurd rfl (hr x)
  | _ => rfl
theorem frL_snoc (n : Nat) (ad : Ro → Addr) (p : Addr) : frL (n + 1) (adT ad n p) = frL n ad ++ [.ref p] := by
  unfold frL
  rw [List.range_succ, List.map_append]
  congr 1
  · refine List.map_congr_left fun i hi => ?_
    have := List.mem_range.mp hi
    show V.ref (if i = n then p else ad (.ft i)) = _
    rw [if_neg (by omega)]
  · show [V.ref (if n = n then p else ad (.ft n))] = _
    rw [if_pos rfl]
theorem _root_.RR.Rep.fail {p : Addr} (R : YR K s ad H) (n w : Str) (hp : H p = none) : YR K (s.fail n w) (adT ad s.fr.length p) (upd (upd H p (.tup [.str n, .str w])) (ad .fr) (.lst (frL s.fr.length ad ++ [.ref p]))) ∧
    YM K s ad H (s.fail n w) (adT ad s.fr.length p) (upd (upd H p (.tup [.str n, .str w])) (ad .fr) (.lst (frL s.fr.length ad ++ [.ref p]))) := by
  refine RR.Rep.newset (M' := Y1 K (s.fail n w) (adT ad s.fr.length p)) (ad' := adT ad s.fr.length p) R hp (.ft s.fr.length) .fr (fun h => nomatch h) rfl ?_ ?_ (fun r h1 h2 => ?_) (if_pos rfl) (fun r hr => ?_)
  · show ((s.fr ++ [(n, w)])[s.fr.length]?).map _ = _
    rw [List.getElem?_append_right (Nat.le_refl _), Nat.sub_self]; rfl
  · show some (HO.lst (frL (s.fr ++ [(n, w)]).length _)) = _
    rw [List.length_append]
    exact congrArg (fun z => some (HO.lst z)) (frL_snoc s.fr.length ad p)
  · cases r with
    | ft x =>
      have c : x ≠ s.fr.length := fun z => h1 (by rw [z])
      show ((s.fr ++ [(n, w)])[x]?).map _ = (s.fr[x]?).map _
      by_cases l : x < s.fr.length
      · rw [List.getElem?_append_left l]
      · rw [List.getElem?_append_right (by omega), List.getElem?_eq_none (l := [(n, w)]) (by show 1 ≤ _; omega), List.getElem?_eq_none (l := s.fr) (by omega)]
    | fr => exact absurd rfl h2
    | _ => rfl
  · cases r with
    | ft x => exact if_neg fun z => hr (by rw [z])
    | _ => rfl
end
theorem yes_if {σ : L2.St} {H : Hp} {A B : Hp → Prop} (h : A H) : tYes σ H (fun b H3 => if b = true then A H3 else B H3) := by
  show if true = true then A H else B H
  rw [if_pos rfl]; exact h
end
end K17

set_option Elab.async false
set_option linter.all false
set_option maxRecDepth 100000
set_option maxHeartbeats 0
set_option pp.maxSteps 1000
local macro_rules | `(tactic| walk_at "cls") => `(tactic| first
  | with_reducible exact K17.Txt.c_LogRecord (by assumption)
  | with_reducible exact K17.Txt.c_Logger (by assumption)
  | with_reducible exact K17.Txt.c_StreamHandler (by assumption)
  | with_reducible exact K17.Txt.c_TimedRotatingFileHandler (by assumption)
  | with_reducible exact K17.Txt.c_Yard (by assumption))
local macro_rules | `(tactic| walk_at "noat") => `(tactic| first
  | with_reducible exact K17.Txt.n_LogRecord_name (by assumption)
  | with_reducible exact K17.Txt.n_LogRecord_levelno (by assumption)
  | with_reducible exact K17.Txt.n_LogRecord_levelname (by assumption)
  | with_reducible exact K17.Txt.n_LogRecord_msg (by assumption)
  | with_reducible exact K17.Txt.n_LogRecord_given (by assumption)
  | with_reducible exact K17.Txt.n_LogRecord_created (by assumption)
  | with_reducible exact K17.Txt.n_LogRecord_extra (by assumption)
  | with_reducible exact K17.Txt.n_Logger_filters (by assumption)
  | with_reducible exact K17.Txt.n_Logger_yard (by assumption)
  | with_reducible exact K17.Txt.n_Logger_name (by assumption)
  | with_reducible exact K17.Txt.n_Logger_level (by assumption)
  | with_reducible exact K17.Txt.n_Logger_propagate (by assumption)
  | with_reducible exact K17.Txt.n_Logger_disabled (by assumption)
  | with_reducible exact K17.Txt.n_Logger_handlers (by assumption)
  | with_reducible exact K17.Txt.n_Logger_parent (by assumption)
  | with_reducible exact K17.Txt.n_StreamHandler_filters (by assumption)
  | with_reducible exact K17.Txt.n_StreamHandler_yard (by assumption)
  | with_reducible exact K17.Txt.n_StreamHandler_level (by assumption)
  | with_reducible exact K17.Txt.n_StreamHandler_formatter (by assumption)
  | with_reducible exact K17.Txt.n_StreamHandler_name (by assumption)
  | with_reducible exact K17.Txt.n_StreamHandler_terminator (by assumption)
  | with_reducible exact K17.Txt.n_StreamHandler_closed (by assumption)
  | with_reducible exact K17.Txt.n_StreamHandler_stream (by assumption)
  | with_reducible exact K17.Txt.n_TimedRotatingFileHandler_filters (by assumption)
  | with_reducible exact K17.Txt.n_TimedRotatingFileHandler_yard (by assumption)
  | with_reducible exact K17.Txt.n_TimedRotatingFileHandler_level (by assumption)
  | with_reducible exact K17.Txt.n_TimedRotatingFileHandler_formatter (by assumption)
  | with_reducible exact K17.Txt.n_TimedRotatingFileHandler_name (by assumption)
  | with_reducible exact K17.Txt.n_TimedRotatingFileHandler_terminator (by assumption)
  | with_reducible exact K17.Txt.n_TimedRotatingFileHandler_closed (by assumption)
  | with_reducible exact K17.Txt.n_TimedRotatingFileHandler_filename (by assumption)
  | with_reducible exact K17.Txt.n_TimedRotatingFileHandler_mode (by assumption)
  | with_reducible exact K17.Txt.n_TimedRotatingFileHandler_delay (by assumption)
  | with_reducible exact K17.Txt.n_TimedRotatingFileHandler_is_open (by assumption)
  | with_reducible exact K17.Txt.n_TimedRotatingFileHandler_shut (by assumption)
  | with_reducible exact K17.Txt.n_TimedRotatingFileHandler_when (by assumption)
  | with_reducible exact K17.Txt.n_TimedRotatingFileHandler_interval (by assumption)
  | with_reducible exact K17.Txt.n_TimedRotatingFileHandler_backup_count (by assumption)
  | with_reducible exact K17.Txt.n_TimedRotatingFileHandler_rolloverAt (by assumption)
  | with_reducible exact K17.Txt.n_Yard_clock (by assumption)
  | with_reducible exact K17.Txt.n_Yard_stream_texts (by assumption)
  | with_reducible exact K17.Txt.n_Yard_file_rows (by assumption)
  | with_reducible exact K17.Txt.n_Yard_names_of (by assumption)
  | with_reducible exact K17.Txt.n_Yard_numbers_of (by assumption)
  | with_reducible exact K17.Txt.n_Yard_bar_level (by assumption)
  | with_reducible exact K17.Txt.n_Yard_logger_map (by assumption)
  | with_reducible exact K17.Txt.n_Yard_made (by assumption)
  | with_reducible exact K17.Txt.n_Yard_handler_names (by assumption)
  | with_reducible exact K17.Txt.n_Yard_failure_rows (by assumption)
  | with_reducible exact K17.Txt.n_Yard_root (by assumption)
  | with_reducible exact K17.Txt.n_Yard_last_resort (by assumption))
local macro_rules | `(tactic| walk_at "hp") => `(tactic| first
  | with_reducible assumption
  | with_reducible exact L2.upd_same
  | ((with_reducible apply RW.at_upd); (focus (walk_at "ne"; done)); (focus (walk_at "hp"; done)))
  | ((with_reducible apply RW.at_same); (focus (with_reducible assumption; done)); (focus (walk_at "hp"; done)))
  | ((with_reducible apply RW.at_old); (focus (with_reducible assumption; done)); (focus (walk_at "ne"; done)); (focus (walk_at "ne"; done)); (focus (walk_at "hp"; done))))
local macro_rules | `(tactic| walk_at "ne") => `(tactic| first
  | with_reducible assumption
  | with_reducible exact Ne.symm (by with_reducible assumption)
  | with_reducible exact RW.ne_upd (by with_reducible assumption)
  | with_reducible exact Ne.symm (RW.ne_upd (by with_reducible assumption))
  | ((with_reducible apply RW.ne_new); (focus (with_reducible assumption; done)); (focus (walk_at "hp"; done)))
  | ((with_reducible apply RW.ne_new'); (focus (with_reducible assumption; done)); (focus (walk_at "hp"; done)))
  | ((with_reducible apply RW.ne_kind); (focus (walk_at "hp"; done)); (focus (walk_at "hp"; done)); (exact fun z => nomatch z)))
local macro_rules | `(tactic| walk_at "no") => `(tactic| first
  | with_reducible assumption
  | ((with_reducible apply RW.no_upd); (focus (walk_at "ne"; done)); (focus (walk_at "no"; done)))
  | ((with_reducible apply RW.free_same); (focus (with_reducible assumption; done)); (focus (with_reducible assumption; done))))
local macro_rules | `(tactic| walk_at "sm") => `(tactic| first
  | with_reducible assumption
  | with_reducible exact L2.Same.refl _
  | ((with_reducible apply RW.same_put_new); (focus (walk_at "sm"; done)); (focus (walk_at "no"; done)))
  | ((with_reducible apply RW.same_put); (focus (walk_at "sm"; done)); (focus (walk_at "no"; done)))
  | ((with_reducible apply RW.same_then); (focus (with_reducible assumption; done)); (focus (walk_at "sm"; done))))
local macro_rules | `(tactic| walk_at "sq") => `(tactic| first
  | with_reducible assumption
  | ((with_reducible apply L2.SqL.of); (focus (walk_at "hp"; done)))
  | ((with_reducible apply L2.SqT.of); (focus (walk_at "hp"; done)))
  | ((with_reducible apply RW.sql_same); (focus (with_reducible assumption; done)); (focus (walk_at "sm"; done)))
  | ((with_reducible apply RW.sqt_same); (focus (with_reducible assumption; done)); (focus (walk_at "sm"; done))))
local macro_rules | `(tactic| walk_at "pr") => `(tactic| first
  | with_reducible exact PySem.Paired.nil
  | ((with_reducible apply PySem.Paired.cons); (focus (first | exact L2.ClsV.ty _ | exact L2.ClsV.own _; done)); (focus (walk_at "pr"; done))))
local macro_rules | `(tactic| walk_at "stm") => `(tactic| first
  | with_reducible assumption
  | ((with_reducible apply RW.stm_upd); (focus (walk_at "ne"; done)); (focus (walk_at "ne"; done)); (focus (walk_at "stm"; done)))
  | ((with_reducible apply RW.stm_same); (focus (with_reducible assumption; done)); (focus (walk_at "sm"; done))))
local macro_rules | `(tactic| walk_at "od") => `(tactic| first
  | with_reducible assumption
  | with_reducible exact RC.Old.refl _
  | ((with_reducible apply RW.old_upd); (focus (walk_at "od"; done)); (focus (walk_at "no"; done)))
  | ((with_reducible apply RW.old_then); (focus (with_reducible assumption; done)); (focus (walk_at "od"; done)))
  | ((with_reducible apply RW.old_same); (focus (walk_at "od"; done)); (focus (with_reducible assumption; done))))
local macro_rules | `(tactic| walk_at "num") => `(tactic| first
  | exact Nat.le_of_ble_eq_true rfl
  | omega
  | (simp only [List.length_cons, List.length_nil, List.length_append, List.length_map, List.length_replicate, List.length_take, PySem.sizeLine_eq]; omega))
local macro_rules | `(tactic| walk_at "ki") => `(tactic| first
  | with_reducible exact RW.k_int_int
  | with_reducible exact RW.k_bool_int
  | with_reducible exact RW.k_str_int
  | with_reducible exact RW.k_NoneType_int
  | with_reducible exact RW.k_list_int
  | with_reducible exact RW.k_tuple_int
  | with_reducible exact RW.k_dict_int)
local macro_rules | `(tactic| walk_at "kb") => `(tactic| first
  | with_reducible exact RW.k_int_bool
  | with_reducible exact RW.k_bool_bool
  | with_reducible exact RW.k_str_bool
  | with_reducible exact RW.k_NoneType_bool
  | with_reducible exact RW.k_list_bool
  | with_reducible exact RW.k_tuple_bool
  | with_reducible exact RW.k_dict_bool)
local macro_rules | `(tactic| walk_at "ks") => `(tactic| first
  | with_reducible exact RW.k_int_str
  | with_reducible exact RW.k_bool_str
  | with_reducible exact RW.k_str_str
  | with_reducible exact RW.k_NoneType_str
  | with_reducible exact RW.k_list_str
  | with_reducible exact RW.k_tuple_str
  | with_reducible exact RW.k_dict_str)
local macro_rules | `(tactic| walk_at "kl") => `(tactic| first
  | with_reducible exact RW.k_int_list
  | with_reducible exact RW.k_bool_list
  | with_reducible exact RW.k_str_list
  | with_reducible exact RW.k_NoneType_list
  | with_reducible exact RW.k_list_list
  | with_reducible exact RW.k_tuple_list
  | with_reducible exact RW.k_dict_list)
local macro_rules | `(tactic| walk_at "kt") => `(tactic| first
  | with_reducible exact RW.k_int_tuple
  | with_reducible exact RW.k_bool_tuple
  | with_reducible exact RW.k_str_tuple
  | with_reducible exact RW.k_NoneType_tuple
  | with_reducible exact RW.k_list_tuple
  | with_reducible exact RW.k_tuple_tuple
  | with_reducible exact RW.k_dict_tuple)
local macro_rules | `(tactic| walk_at "kd") => `(tactic| first
  | with_reducible exact RW.k_int_dict
  | with_reducible exact RW.k_bool_dict
  | with_reducible exact RW.k_str_dict
  | with_reducible exact RW.k_NoneType_dict
  | with_reducible exact RW.k_list_dict
  | with_reducible exact RW.k_tuple_dict
  | with_reducible exact RW.k_dict_dict)
local macro_rules | `(tactic| walk_at "kit") => `(tactic| first
  | ((with_reducible apply RW.gKb); walk_at "kb")
  | ((with_reducible apply RW.gKi); walk_at "ki")
  | ((with_reducible apply RW.gKl); walk_at "kl")
  | ((with_reducible apply RW.gKs); walk_at "ks")
  | ((with_reducible apply RW.gKt); walk_at "kt")
  | ((with_reducible apply RW.gKd); walk_at "kd"))
local macro_rules | `(tactic| walk_at "kita") => `(tactic| first
  | ((with_reducible apply RW.ka2) <;> walk_at "kit")
  | ((with_reducible apply RW.ka3) <;> walk_at "kit")
  | ((with_reducible apply RW.ka4) <;> walk_at "kit")
  | ((with_reducible apply RW.ka5) <;> walk_at "kit"))
local macro_rules | `(tactic| walk_at "ty") => `(tactic| first
  | with_reducible exact L2.TyX.base (.int _)
  | with_reducible exact L2.TyX.base (.str _)
  | with_reducible exact L2.TyX.base (.bl _)
  | with_reducible exact L2.TyX.base .non
  | ((with_reducible apply L2.TyX.base); (with_reducible apply L2.TyOf.lst); (focus (walk_at "hp"; done)))
  | ((with_reducible apply L2.TyX.base); (with_reducible apply L2.TyOf.tup); (focus (walk_at "hp"; done)))
  | ((with_reducible apply L2.TyX.base); (with_reducible apply L2.TyOf.dK); (focus (walk_at "hp"; done)))
  | ((with_reducible apply RC.tyx_lst); (focus (walk_at "sq"; done)))
  | ((with_reducible apply RC.tyx_tup); (focus (walk_at "sq"; done))))
local macro_rules | `(tactic| walk_at "val") => `(tactic| first
  | with_reducible assumption
  | rfl)
local macro_rules | `(tactic| walk_at "dg") => `(tactic| first
  | (apply RW.dget_s; (focus (walk_at "hp"; done)); (focus (walk_at "val"; done)))
  | (apply RW.dget_i; (focus (walk_at "hp"; done)); (focus (walk_at "val"; done)))
  | (apply RW.dget_sF; (focus (walk_at "hp"; done)); (focus (walk_at "val"; done)))
  | (apply RW.dget_sR; (focus (assumption; done)); (focus (walk_at "val"; done)))
  | (apply RW.dput_s; (focus (walk_at "hp"; done)); (focus (walk_at "num"; done)))
  | (apply RW.dput_i; (focus (walk_at "hp"; done)); (focus (walk_at "num"; done)))
  | ((with_reducible apply RW.tyv_l); (focus (walk_at "hp"; done)))
  | ((with_reducible apply RW.tyv_s); (focus (walk_at "sq"; done)))
  | (apply RW.isd; (focus (walk_at "hp"; done)))
  | (apply RW.rd_of; (focus (walk_at "hp"; done)))
  | (apply RW.sql_of; (focus (walk_at "hp"; done)))
  | (apply RW.sqt_of; (focus (walk_at "hp"; done)))
  | (apply RW.len_l; (focus (walk_at "hp"; done)))
  | (apply RW.len_sl; (focus (walk_at "sq"; done)))
  | (apply RW.len_st; (focus (walk_at "sq"; done))))
local macro_rules | `(tactic| walk_at "side") => `(tactic| first
  | with_reducible rfl
  | ((with_reducible apply RW.gHp); walk_at "hp")
  | ((with_reducible apply RW.gSm); walk_at "sm")
  | ((with_reducible apply RW.gNe); walk_at "ne")
  | ((with_reducible apply RW.gStm); walk_at "stm")
  | ((with_reducible apply RW.gOld); walk_at "od")
  | ((with_reducible apply RW.gNo); walk_at "noat")
  | ((with_reducible apply RW.gCls); walk_at "cls")
  | ((with_reducible apply RW.gCv); (first | with_reducible exact L2.ClsV.ty _ | with_reducible exact L2.ClsV.own _))
  | ((with_reducible apply RW.gTy); walk_at "ty")
  | ((with_reducible apply RW.gKit); walk_at "kit")
  | ((with_reducible apply RW.gKita); walk_at "kita")
  | ((with_reducible apply RW.gSl); walk_at "sq")
  | ((with_reducible apply RW.gSt); walk_at "sq")
  | ((with_reducible apply RW.gPr); walk_at "pr")
  | with_reducible assumption
  | with_reducible exact RW.gCp ⟨by decide, by decide, by decide⟩
  | walk_at "dg"
  | rfl
  | walk_at "num")
local macro_rules | `(tactic| walk_at "nu") => `(tactic| (repeat (refine RW.fr ?_)))
local macro_rules | `(tactic| walk_at "tt") => `(tactic| first
  | with_reducible rfl
  | with_reducible assumption
  | rfl
  | with_reducible exact RW.cSsT (by with_reducible assumption)
  | with_reducible exact RW.cSsF (by with_reducible assumption)
  | with_reducible exact RW.cNsT (by with_reducible assumption)
  | with_reducible exact RW.cNsF (by with_reducible assumption)
  | with_reducible exact RW.cSiT (by with_reducible assumption)
  | with_reducible exact RW.cSiF (by with_reducible assumption)
  | with_reducible exact RW.cNiT (by with_reducible assumption)
  | with_reducible exact RW.cNiF (by with_reducible assumption)
  | with_reducible exact RW.someT (by with_reducible assumption)
  | with_reducible exact RW.someF (by with_reducible assumption)
  | with_reducible exact RW.nsomeT (by with_reducible assumption)
  | with_reducible exact RW.nsomeF (by with_reducible assumption))
local macro_rules | `(tactic| walk_at "disp") => `(tactic| first
  | with_reducible refine RW.disp1 ?_
  | with_reducible refine RW.disp2 ?_
  | with_reducible refine RW.disp3 ?_
  | with_reducible refine RW.disp4 ?_
  | with_reducible refine RW.disp5 ?_
  | with_reducible refine RW.disp6 ?_
  | with_reducible refine RW.disp7 ?_
  | with_reducible refine RW.disp8 ?_)
local macro_rules | `(tactic| walk_at "ex") => `(tactic| ((fail_if_success (apply @Exists.intro (Nat → Nat → _))); (fail_if_success (apply @Exists.intro (Nat → L2.St → L2.Hp → Prop))); (fail_if_success (apply @Exists.intro (L2.St → L2.Hp → Prop))); apply Exists.intro))
local macro_rules | `(tactic| walk_at "st") => `(tactic| first
  | ((fail_if_success (with_reducible apply RW.isMut)); (fail_if_success (with_reducible apply RW.isMut2)); (apply And.intro); (focus (walk_at "side"; done)))
  | walk_at "disp"
  | walk_at "ex"
  | refine RC.iteT' (by walk_at "tt") ?_
  | refine RC.iteF' (by walk_at "tt") ?_)
local macro_rules | `(tactic| walk_at "gi") => `(tactic| (repeat (first | walk_at "st" | ((walk_at "nu"); (intro _ h0; have h1 : _ = none := h0; clear h1); intros))))
local macro_rules | `(tactic| walk_at "in") => `(tactic| (try dsimp only [RW.cxK]))
local macro_rules | `(tactic| walk_at "go") => `(tactic| (repeat walk_at "st"))
namespace K17
open PySem PySem.Spec PyProof.Rows L2 RC
section
variable {P : Program} {w : World} {K : PySem.W.Frag} {mg : Str → Option Value} {base : Heap}
/-! ### files of a yard -/
theorem upd_self {H : Hp} {a : Addr} {o : HO} (h : H a = some o) : upd H a o = H := by
  funext b
  by_cases c : b = a
  · rw [c, upd_same]; exact h.symm
  · rw [upd_ne c]
def spPut (K : PySem.W.Frag) : Sp := fun vs H Q _ => ∃ (s : FS) (ad : Ro → Addr) (k t : Str), vs = [.ref (ad .y), .str k, .str t] ∧ YR K s ad H ∧ s.files.length ≤ 1000 ∧ ∀ ad' H', YR K (s.put k t) ad' H' → YM K s ad H (s.put k t) ad' H' → Fx ad ad' → Q .non H'
theorem body_put {f : Addr} {cdv : Value} {A : Around} {outer : List Env} {st0 : Shared} {H : Hp} {vs : List V} {Q : VK} {E : XK} (T : Txt P w K mg) (hr : Room 0 (A.deeper (envOfC "Yard.put_file" (defScope s_Yard_put_file) st0.heap.objs.size f cdv))) (h : spPut K vs H Q E) :
    ∃ t, PSs (cxOf CX0 P w K mg base nm_Yard_put_file "Yard.put_file" (defScope s_Yard_put_file) f cdv A outer st0 H E).nox (defBody s_Yard_put_file) t ∧ t { nx := fun _ H' => Q .non H', rt := Q } (L2.start nm_Yard_put_file vs) H := by
  obtain ⟨s, ad, k, t, rfl, R, hl, hQ⟩ := h
  refine ⟨_, (pss_one (ps_dput (hu_of hr) (pe_fld (pv 0) rfl) (pv 1) (pe_lst (pa_cons (pv 2) (pa_cons (pe_fld (pv 0) rfl) pa_nil))) rfl)), ?_⟩
  walk_at "in"
  have hy := R.y_
  have hf := R.fi_
  have hsz : (filK s.files ad).length < sizeLine := by unfold filK; rw [List.length_map, sizeLine_eq]; omega
  walk_at "go"
  intro p fp
  obtain ⟨R1, M1⟩ := R.put k t fp
  walk_at "go"
  exact hQ _ _ R1 M1 (fx_adR ad k p)
theorem len_put : ∀ vs H Q E, spPut K vs H Q E → vs.length = 3 := fun vs H Q E h => by
  obtain ⟨s, ad, k, t, rfl, _⟩ := h; rfl
theorem ok_put {f : Addr} (T : Txt P w K mg) (F : Stands K "put_file" "Yard.put_file" s_Yard_put_file [] f) : Callable P w K mg base 1 f ["self", "name", "text"] [] (spPut K) :=
  F.call0 sc_Yard_put_file len_put (fun cdv A outer s0 H vs Q E hr h => body_put T hr h) (fun _ _ _ _ _ _ us hl => match us, hl with | [_, _, _], _ => rfl)
theorem valV_filK (k : Str) (ad : Ro → Addr) : ∀ fs : List (Str × Str), valV (filK fs ad) (Sum.inr k) = (fs.lookup k).map fun _ => V.ref (ad (.row k))
  | [] => rfl
  | e :: r => by
    rw [lkc]
    by_cases c : k = e.1
    · rw [if_pos c]
      have h1 : valV (filK (e :: r) ad) (Sum.inr k) = some (V.ref (ad (.row e.1))) := valV_pos (p := ((Sum.inr e.1 : Key), V.ref (ad (.row e.1)))) (congrArg Sum.inr c.symm)
      rw [h1, c]; rfl
    · rw [if_neg c]
      have h1 : valV (filK (e :: r) ad) (Sum.inr k) = valV (filK r ad) (Sum.inr k) := valV_neg (p := ((Sum.inr e.1 : Key), V.ref (ad (.row e.1)))) (fun z => c (Sum.inr.inj z).symm)
      rw [h1]; exact valV_filK k ad r
def spHas (K : PySem.W.Frag) : Sp := fun vs H Q _ => ∃ (s : FS) (ad : Ro → Addr) (k : Str), vs = [.ref (ad .y), .str k] ∧ YR K s ad H ∧ Q (.bl (s.files.lookup k).isSome) H
theorem ok_has {f : Addr} (T : Txt P w K mg) (F : Stands K "has_file" "Yard.has_file" s_Yard_has_file [] f) : Callable P w K mg base 1 f ["self", "name"] [] (spHas K) := by
  refine F.call0 sc_Yard_has_file (fun vs H Q E h => ?_) (fun cdv A outer s0 H vs Q E hr h => ?_) (fun _ _ _ _ _ _ us hl => match us, hl with | [_, _], _ => rfl)
  · obtain ⟨s, ad, k, rfl, _⟩ := h; rfl
  obtain ⟨s, ad, k, rfl, R, hQ⟩ := h
  refine ⟨_, (pss_one (ps_ret (pe_cmp (pc_din (hu_of hr) (pv 1) (pe_fld (pv 0) rfl))))), ?_⟩
  walk_at "in"
  have hy := R.y_
  have hf := R.fi_
  have hv := valV_filK k ad s.files
  cases e : s.files.lookup k with
  | none =>
    rw [e] at hv hQ
    walk_at "go"
    exact hQ
  | some t =>
    rw [e] at hv hQ
    walk_at "go"
    exact hQ
/-- the text of a file; the table may be walked -/
def spFileText (K : PySem.W.Frag) : Sp := fun vs H Q _ => ∃ (y dy fi p : Addr) (fs : List (Str × V)) (kvs : List (Key × V)) (k t : Str) (n : Int), vs = [.ref y, .str k] ∧ H y = some (.ins (CY K) dy fs) ∧ fs.lookup ("file_rows" : Str) = some (.ref fi) ∧ Rd H fi (.dK kvs) ∧ valV kvs (Sum.inr k) = some (.ref p) ∧ H p = some (.lst [.str t, .int n]) ∧ Q (.str t) H
theorem ok_file_text {f : Addr} (T : Txt P w K mg) (F : Stands K "file_text" "Yard.file_text" s_Yard_file_text [] f) : Callable P w K mg base 1 f ["self", "name"] [] (spFileText K) := by
  refine F.call0 sc_Yard_file_text (fun vs H Q E h => ?_) (fun cdv A outer s0 H vs Q E hr h => ?_) (fun _ _ _ _ _ _ us hl => match us, hl with | [_, _], _ => rfl)
  · obtain ⟨y, dy, fi, p, fs, kvs, k, t, n, rfl, _⟩ := h; rfl
  obtain ⟨y, dy, fi, p, fs, kvs, k, t, n, rfl, hy, hl, hf, hv, hp, hQ⟩ := h
  refine ⟨_, (pss_one (ps_ret (pe_ix ix_list (pe_dget (hu_of hr) (pe_fld (pv 0) rfl) (pv 1) (fun _ _ => rfl)) pe_int (fun _ _ => rfl)))), ?_⟩
  walk_at "in"
  have g := RW.dget_sR hf hv
  walk_at "go"
  exact hQ
def spMakeF (K : PySem.W.Frag) : Sp := fun vs H Q _ => ∃ (s : FS) (ad : Ro → Addr) (k : Str), vs = [.ref (ad .y), .str k] ∧ YR K s ad H ∧ s.files.length ≤ 1000 ∧ ∀ ad' H', YR K (s.put k "") ad' H' → YM K s ad H (s.put k "") ad' H' → Fx ad ad' → Q .non H'
theorem ok_makef {f : Addr} (T : Txt P w K mg) (F : Stands K "make_file" "Yard.make_file" s_Yard_make_file [] f) (c_Yard_put_file : Callable P w K mg base 1 (He.ma K (He.ga K "Yard") "put_file") ["self", "name", "text"] [] (spPut K)) : Callable P w K mg base 2 f ["self", "name"] [] (spMakeF K) := by
  refine F.call0 sc_Yard_make_file (fun vs H Q E h => ?_) (fun cdv A outer s0 H vs Q E hr h => ?_) (fun _ _ _ _ _ _ us hl => match us, hl with | [_, _], _ => rfl)
  · obtain ⟨s, ad, k, rfl, _⟩ := h; rfl
  obtain ⟨s, ad, k, rfl, R, hl, hQ⟩ := h
  refine ⟨_, (pss_one (ps_expr (pe_mt T.c_Yard T.m_Yard_put_file c_Yard_put_file (hr.mono (by first | decide | exact Nat.le_refl _)) (pv 0) (pa_cons (pv 1) (pa_cons pe_str pa_nil))))), ?_⟩
  walk_at "in"
  have hy := R.y_
  walk_at "go"
  intro ad' H' R' M' X'
  exact hQ ad' H' R' M' X'
theorem merge_nil : ∀ (more kvs : List (Key × V)), (∀ e ∈ more, ∀ g ∈ kvs, g.1 ≠ e.1) → (more.map (·.1)).Nodup → mergeK kvs more = kvs ++ more
  | [], kvs, _, _ => (List.append_nil _).symm
  | e :: r, kvs, h, nd => by
    have hp : putK kvs e.1 e.2 = kvs ++ [e] := by
      unfold putK
      have : kvs.any (fun p => decide (p.1 = e.1)) = false := by
        rw [List.any_eq_false]
        intro g hg
        rw [decide_eq_false (h e List.mem_cons_self g hg)]
        decide
      rw [this]; rfl
    show mergeK (putK kvs e.1 e.2) r = _
    obtain ⟨n1, n2⟩ := List.nodup_cons.mp nd
    rw [hp, merge_nil r (kvs ++ [e]) (fun g hg f hf => ?_) n2, List.append_assoc]; · rfl
    rcases List.mem_append.mp hf with k | k
    · exact h g (List.mem_cons_of_mem _ hg) f k
    · rw [List.mem_singleton.mp k]
      exact fun z => n1 (by show e.1 ∈ _; rw [z]; exact List.mem_map_of_mem hg)
theorem lk_nd : ∀ {ts : List (Str × Str)}, (ts.map (·.1)).Nodup → ∀ {e : Str × Str}, e ∈ ts → ts.lookup e.1 = some e.2
  | [], _, _, h => by cases h
  | a :: r, nd, e, h => by
    obtain ⟨n1, n2⟩ := List.nodup_cons.mp nd
    rw [lkc]
    rcases List.mem_cons.mp h with rfl | h
    · rw [if_pos rfl]
    · rw [if_neg (fun z => n1 (by show a.1 ∈ _; rw [← z]; exact List.mem_map_of_mem h))]; exact lk_nd n2 h
theorem pr_snoc {α β : Type} {F : α → β → Prop} {a : α} {b : β} (h : F a b) : ∀ {xs : List α} {ys : List β}, Paired F xs ys → Paired F (xs ++ [a]) (ys ++ [b])
  | _, _, .nil => .cons h .nil
  | _, _, .cons r t => .cons r (pr_snoc h t)
theorem strK_keys (ts : List (Str × Str)) (nd : (ts.map (·.1)).Nodup) : ((strK ts).map (·.1)).Nodup := by
  have e : (strK ts).map (·.1) = (ts.map (·.1)).map (Sum.inr : Str → Key) := by unfold strK; rw [List.map_map, List.map_map]; rfl
  rw [e]
  exact List.Pairwise.map _ (fun a b h z => h (Sum.inr.inj z)) nd
def spFiles (K : PySem.W.Frag) : Sp := fun vs H Q _ => ∃ (s : FS) (ad : Ro → Addr), vs = [.ref (ad .y)] ∧ YR K s ad H ∧ s.files.length ≤ 1000 ∧ (s.files.map (·.1)).Nodup ∧ ∀ (p : Addr) (H' : Hp), Same H H' → H p = none → H' p = some (.dK (strK s.files)) → Q (.ref p) H'
theorem ok_files {f : Addr} (T : Txt P w K mg) (F : Stands K "files" "Yard.files" s_Yard_files [] f) (c_Yard_file_text : Callable P w K mg base 1 (He.ma K (He.ga K "Yard") "file_text") ["self", "name"] [] (spFileText K)) : Callable P w K mg base 2 f ["self"] [] (spFiles K) := by
  refine F.call0 sc_Yard_files (fun vs H Q E h => ?_) (fun cdv A outer s0 H vs Q E hr h => ?_) (fun _ _ _ _ _ _ us hl => match us, hl with | [_], _ => rfl)
  · obtain ⟨s, ad, rfl, _⟩ := h; rfl
  obtain ⟨s, ad, rfl, R, hl, nd, hQ⟩ := h
  refine ⟨_, (pss_one (ps_ret (pe_callTy (call_dictP rfl) (by rfl) T.b_dict (by decide +kernel) (pa_cons (pe_lock (pe_lc (own := [("name", 1)]) (by rfl) sc_Yard_files.nd (pi_keys (pe_fld (pv 0) rfl)) (blkOk_by (own := [("name", 1)]) (N := nm_Yard_files) (sc := defScope s_Yard_files) (by decide +kernel)) (fun _ _ _ _ _ => (pg_name (i := 1) sc_Yard_files.nd rfl (by first | exact Or.inl rfl | exact Or.inr rfl))) (fun _ _ _ _ _ => pts_nil) (fun _ _ _ _ _ => (pe_tup (pa_cons (pv 1) (pa_cons (pe_mt T.c_Yard T.m_Yard_file_text c_Yard_file_text (hr.mono (by first | decide | exact Nat.le_refl _)) (pv 0) (pa_cons (pv 1) pa_nil)) pa_nil)))))) pa_nil)))), ?_⟩
  walk_at "in"
  have hy := R.y_
  have hf := R.fi_
  refine ⟨ad .fi, _, hf, trivial, fun od => ?_⟩
  have k0 : upd H (ad .fi) (.frz od (.dK (filK s.files ad))) (ad .fi) = some (.frz od (.dK (filK s.files ad))) := upd_same
  have nys : ad .y ≠ ad .fi := RW.ne_kind hy hf (fun z => nomatch z)
  have hy0 : upd H (ad .fi) (.frz od (.dK (filK s.files ad))) (ad .y) = some (.ins (CY K) (ad (.x 0)) (yFs s ad)) := by rw [upd_ne nys]; exact hy
  have hrow : ∀ k t, s.files.lookup k = some t → upd H (ad .fi) (.frz od (.dK (filK s.files ad))) (ad (.row k)) = some (.lst [.str t, .int (s.tim k)]) := fun k t e => by
    have h1 := R.row_ e
    rw [upd_ne (fun z => by rw [z, hf] at h1; cases h1)]; exact h1
  have fr0 : ∀ b, upd H (ad .fi) (.frz od (.dK (filK s.files ad))) b = none → H b = none := fun b h => (upd_none h).2
  have back : ∀ H', Same (upd H (ad .fi) (.frz od (.dK (filK s.files ad)))) H' → Same H (upd H' (ad .fi) (.dK (filK s.files ad))) := fun H' s2 b o e => by
    by_cases c : b = ad .fi
    · rw [c, upd_same]; rw [c, hf] at e; exact e
    · rw [upd_ne c]; exact s2 _ _ (by rw [upd_ne c]; exact e)
  generalize upd H (ad .fi) (.frz od (.dK (filK s.files ad))) = H0 at k0 hy0 hrow fr0 back ⊢
  walk_at "go"
  refine .inl ⟨_, k0, fun D hD => ?_⟩
  have nDf : D ≠ ad .fi := fun z => by rw [z, k0] at hD; cases hD
  refine lc_it walk_keys (fun i H' => Same H0 H' ∧ ∃ tps : List Addr, H' D = some (.lst (tps.map V.ref)) ∧ tps.length = i ∧ Paired (fun p kv => H' p = some (.tup [kV kv.1, kv.2])) tps (strK (s.files.take i))) ⟨same_new hD _, [], upd_same, rfl, .nil⟩ (fun i H' _ h => h.1 _ _ k0) (fun i x H9 H2 hi hP hx => ?_) (fun H2 hP => ?_)
  · obtain ⟨rfl, kx, vx, hx, rfl⟩ := hx
    obtain ⟨s2, tps, d2, tl, hpr⟩ := hP
    unfold filK at hx
    rw [List.getElem?_map] at hx
    obtain ⟨e, he0, hee⟩ := Option.map_eq_some_iff.mp hx
    cases hee
    have hi2 : i < s.files.length := (List.getElem?_eq_some_iff.mp he0).1
    have lke := lk_nd nd (List.mem_of_getElem? he0)
    have hv := valV_filK e.1 ad s.files
    rw [lke] at hv
    have etk := List.take_add_one (l := s.files) (i := i)
    rw [he0] at etk
    have etk2 : s.files.take (i + 1) = s.files.take i ++ [e] := etk
    have hll : (tps.map V.ref).length < sizeLine := by rw [List.length_map, tl, sizeLine_eq]; omega
    refine ⟨rfl, yes_if ?_⟩
    refine ⟨_, rfl, _, rfl, ad .y, _, _, rfl, s2 _ _ hy0, rfl, _, rfl, ?_⟩
    refine ⟨ad .y, _, ad .fi, _, _, _, e.1, e.2, _, rfl, s2 _ _ hy0, rfl, .inr ⟨od, s2 _ _ k0⟩, hv, s2 _ _ (hrow _ _ lke), ?_⟩
    refine ⟨by show 2 ≤ sizeLine; decide, fun q fq => ?_⟩
    have d3 := same_new fq (.tup [.str e.1, .str e.2]) _ _ d2
    refine ⟨_, d3, hll, ?_, tps ++ [q], ?_, by rw [List.length_append, tl]; rfl, ?_⟩
    · intro b o hb
      rw [upd_ne (ne_of_none hb hD)]; exact same_new fq _ _ _ (s2 _ _ hb)
    · rw [upd_same, List.map_append]; rfl
    · have nqD : q ≠ D := fun z => by rw [z, d2] at fq; cases fq
      rw [etk2]
      unfold strK
      rw [List.map_append]
      refine pr_snoc ?_ (Paired.mapP hpr fun p kv h => ?_)
      · rw [upd_ne nqD]; exact upd_same
      · rw [upd_ne (fun z => by rw [z, d2] at h; cases h)]; exact same_new fq _ _ _ h
  · obtain ⟨s2, tps, d2, tl, hpr⟩ := hP
    refine ⟨s2 _ _ k0, ?_⟩
    have b2 := back _ s2
    rw [show (filK s.files ad).length = s.files.length from List.length_map _, List.take_length] at hpr
    have d3 : upd H2 (ad .fi) (.dK (filK s.files ad)) D = some (.lst (tps.map V.ref)) := by rw [upd_ne nDf]; exact d2
    refine ⟨D, tps, strK s.files, rfl, SqL.of d3, Paired.mapP hpr fun p kv h => SqT.of (by rw [upd_ne (fun z => by rw [z, s2 _ _ k0] at h; cases h)]; exact h), fun p fp => ?_⟩
    rw [merge_nil _ [] (fun _ _ _ h => by cases h) (strK_keys _ nd), List.nil_append]
    exact hQ p _ (b2.trans (same_new fp _)) (b2.free fp) upd_same
end
end K17

set_option Elab.async false
set_option linter.all false
set_option maxRecDepth 100000
set_option maxHeartbeats 0

namespace K17
open PySem PySem.Spec PyProof.Rows L2 RC
section
variable {P : Program} {w : World} {K : PySem.W.Frag} {mg : Str → Option Value} {base : Heap}
/-! ### a file is opened -/
def FS.opn (s : FS) (fn : Str) (w : Bool) : FS := if (w || (s.files.lookup fn).isNone) = true then s.put fn "" else s
theorem opn_hs (s : FS) (fn : Str) (w : Bool) : (s.opn fn w).hs = s.hs := by unfold FS.opn; split <;> rfl
theorem opn_fr (s : FS) (fn : Str) (w : Bool) : (s.opn fn w).fr = s.fr := by unfold FS.opn; split <;> rfl
theorem opn_md (s : FS) (fn : Str) (w : Bool) : (s.opn fn w).md = s.md := by unfold FS.opn; split <;> rfl
theorem opn_len (s : FS) (fn : Str) (w : Bool) : (s.opn fn w).files.length ≤ s.files.length + 1 := by
  unfold FS.opn
  split
  · exact putS_length _ _ _
  · omega
/-- what never changes, apart from a yard -/
structure Ap (K : PySem.W.Frag) (s : FS) (ad : Ro → Addr) (G H : Hp) : Prop where
  sm : Same G H
  out : ∀ b o, G b = some o → RR.Out (Y1 K s ad) ad b
theorem Ap.mv {s s' : FS} {ad ad' : Ro → Addr} {G H H' : Hp} (a : Ap K s ad G H) (M : YM K s ad H s' ad' H') : Ap K s' ad' G H' := ⟨fun b o e => M.keep _ _ (a.out b o e) (a.sm b o e), fun b o e => M.out (a.out b o e) (a.sm b o e)⟩
theorem Ap.same {s : FS} {ad : Ro → Addr} {G H H' : Hp} (a : Ap K s ad G H) (e : Same H H') : Ap K s ad G H' := ⟨a.sm.trans e, a.out⟩
def FS.opD (s : FS) (i : Nat) (d : Hd) : FS := (s.opn d.fn d.w).setD i { d with op := true }
def spOpen (K : PySem.W.Frag) : Sp := fun vs H Q _ => ∃ (s : FS) (ad : Ro → Addr) (i : Nat) (d : Hd), vs = [.ref (ad (.h i))] ∧ YR K s ad H ∧ s.hs[i]? = some d ∧ s.files.length ≤ 1000 ∧
  (∀ ad' H' s', YR K s' ad' H' → YM K s ad H s' ad' H' → Fx ad ad' → s' = s.opD i d → Q .non H')
theorem ok_open {f : Addr} (T : Txt P w K mg) (F : Stands K "open_file" "FileHandler.open_file" s_FileHandler_open_file [] f) (c_Yard_has_file : Callable P w K mg base 1 (He.ma K (He.ga K "Yard") "has_file") ["self", "name"] [] (spHas K))
    (c_Yard_make_file : Callable P w K mg base 2 (He.ma K (He.ga K "Yard") "make_file") ["self", "name"] [] (spMakeF K)) : Callable P w K mg base 3 f ["self"] [] (spOpen K) := by
  refine F.call0 sc_FileHandler_open_file (fun vs H Q E h => ?_) (fun cdv A outer s0 H vs Q E hr h => ?_) (fun _ _ _ _ _ _ us hl => match us, hl with | [_], _ => rfl)
  · obtain ⟨s, ad, i, d, rfl, _⟩ := h; rfl
  obtain ⟨s, ad, i, ⟨fv, tm, cl, fn, w, dl, op, sh, tl⟩, rfl, R, hd, hl, hQ⟩ := h
  refine ⟨_, (pss_cons (ps_if (PW.pt (pw_or (pt_cmpR op_eq (pe_fld (pv 0) rfl) pe_str (nomark _)) (pw_or1 (pt_not (pt_val (pe_mt T.c_Yard T.m_Yard_has_file c_Yard_has_file (hr.mono (by first | decide | exact Nat.le_refl _)) (pe_fld (pv 0) rfl) (pa_cons (pe_fld (pv 0) rfl) pa_nil))))))) (pss_one (ps_expr (pe_mt T.c_Yard T.m_Yard_make_file c_Yard_make_file (hr.mono (by first | decide | exact Nat.le_refl _)) (pe_fld (pv 0) rfl) (pa_cons (pe_fld (pv 0) rfl) pa_nil)))) pss_nil)
      (pss_one (ps_fld (pv 0) pe_bl rfl))), ?_⟩
  walk_at "in"
  rcases tl with _ | t
  · have ha := R.h_ hd
    have hy := R.y_
    refine seq_of (fun σ' H1 => σ' = L2.start nm_FileHandler_open_file [.ref (ad (.h i))] ∧ ∃ ad', YR K (s.opn fn w) ad' H1 ∧ YM K s ad H (s.opn fn w) ad' H1 ∧ Fx ad ad') (fun b' kb => ?_) (fun σ' H1 hm => ?_)
    · have mk : (w || (s.files.lookup fn).isNone) = true → ∀ ad' H', YR K (s.put fn "") ad' H' → YM K s ad H (s.put fn "") ad' H' → Fx ad ad' → b' { nx := fun _ H' => Q .non H', rt := Q } (L2.start nm_FileHandler_open_file [.ref (ad (.h i))]) H' := fun c ad' H' R' M' X' => by
        have e : s.opn fn w = s.put fn "" := by unfold FS.opn; rw [if_pos c]
        exact kb _ _ ⟨rfl, ad', by rw [e]; exact R', by rw [e]; exact M', X'⟩
      cases w with
      | true =>
        have e0 : decide (V.str (mdS true) = V.str (Str.ofString "w")) = true := by decide
        walk_at "go"
        intro ad' H' R' M' X'
        exact mk rfl ad' H' R' M' X'
      | false =>
        have e0 : decide (V.str (mdS false) = V.str (Str.ofString "w")) = false := by decide
        walk_at "go"
        cases e : s.files.lookup fn with
        | some u =>
          refine iteF' rfl ?_
          have e1 : s.opn fn false = s := by unfold FS.opn; rw [e]; rfl
          exact kb _ _ ⟨rfl, ad, by rw [e1]; exact R, by rw [e1]; exact RR.Mv.refl _, Fx.refl _⟩
        | none =>
          refine iteT' rfl ?_
          walk_at "go"
          intro ad' H' R' M' X'
          exact mk (by rw [e]; rfl) ad' H' R' M' X'
    obtain ⟨rfl, ad1, R1, M1, X1⟩ := hm
    have hd1 : (s.opn fn w).hs[i]? = some ⟨fv, tm, cl, fn, w, dl, op, sh, none⟩ := by rw [opn_hs]; exact hd
    have ha1 := R1.h_ hd1
    obtain ⟨R2, M2⟩ := R1.setD hd1 ⟨fv, tm, cl, fn, w, dl, true, sh, none⟩
    have e3 : ad1 (.h i) = ad (.h i) := X1 _ (fun _ h => nomatch h) (fun _ h => nomatch h)
    rw [e3] at ha1 R2 M2
    clear ha
    walk_at "go"
    exact hQ ad1 _ _ R2 (M1.trans M2) X1 rfl
  · have ha := R.h_ hd
    have hy := R.y_
    refine seq_of (fun σ' H1 => σ' = L2.start nm_FileHandler_open_file [.ref (ad (.h i))] ∧ ∃ ad', YR K (s.opn fn w) ad' H1 ∧ YM K s ad H (s.opn fn w) ad' H1 ∧ Fx ad ad') (fun b' kb => ?_) (fun σ' H1 hm => ?_)
    · have mk : (w || (s.files.lookup fn).isNone) = true → ∀ ad' H', YR K (s.put fn "") ad' H' → YM K s ad H (s.put fn "") ad' H' → Fx ad ad' → b' { nx := fun _ H' => Q .non H', rt := Q } (L2.start nm_FileHandler_open_file [.ref (ad (.h i))]) H' := fun c ad' H' R' M' X' => by
        have e : s.opn fn w = s.put fn "" := by unfold FS.opn; rw [if_pos c]
        exact kb _ _ ⟨rfl, ad', by rw [e]; exact R', by rw [e]; exact M', X'⟩
      cases w with
      | true =>
        have e0 : decide (V.str (mdS true) = V.str (Str.ofString "w")) = true := by decide
        walk_at "go"
        intro ad' H' R' M' X'
        exact mk rfl ad' H' R' M' X'
      | false =>
        have e0 : decide (V.str (mdS false) = V.str (Str.ofString "w")) = false := by decide
        walk_at "go"
        cases e : s.files.lookup fn with
        | some u =>
          refine iteF' rfl ?_
          have e1 : s.opn fn false = s := by unfold FS.opn; rw [e]; rfl
          exact kb _ _ ⟨rfl, ad, by rw [e1]; exact R, by rw [e1]; exact RR.Mv.refl _, Fx.refl _⟩
        | none =>
          refine iteT' rfl ?_
          walk_at "go"
          intro ad' H' R' M' X'
          exact mk (by rw [e]; rfl) ad' H' R' M' X'
    obtain ⟨rfl, ad1, R1, M1, X1⟩ := hm
    have hd1 : (s.opn fn w).hs[i]? = some ⟨fv, tm, cl, fn, w, dl, op, sh, some t⟩ := by rw [opn_hs]; exact hd
    have ha1 := R1.h_ hd1
    obtain ⟨R2, M2⟩ := R1.setD hd1 ⟨fv, tm, cl, fn, w, dl, true, sh, some t⟩
    have e3 : ad1 (.h i) = ad (.h i) := X1 _ (fun _ h => nomatch h) (fun _ h => nomatch h)
    rw [e3] at ha1 R2 M2
    clear ha
    walk_at "go"
    exact hQ ad1 _ _ R2 (M1.trans M2) X1 rfl
end
end K17

set_option Elab.async false
set_option linter.all false
set_option maxRecDepth 100000
set_option maxHeartbeats 0
namespace K17
open PySem PySem.Spec PyProof.Rows L2 RC
section
variable {P : Program} {w : World} {K : PySem.W.Frag} {mg : Str → Option Value} {base : Heap}
/-! ### a handler is made -/
def adM (ad : Ro → Addr) (n : Nat) (p l dx : Addr) : Ro → Addr
  | .h i => if i = n then p else ad (.h i)
  | .hl i => if i = n then l else ad (.hl i)
  | .x j => if j = 9 + n then dx else ad (.x j)
  | r => ad r
/-- a handler at p stands -/
def FS.mk1 (s : FS) (p : Addr) (d : Hd) : FS := { s with md := s.md ++ [.ref p], hs := s.hs ++ [d] }
theorem _root_.RR.Rep.mk1 {s : FS} {ad : Ro → Addr} {H0 H1 : Hp} {p dx l : Addr} (R : YR K s ad H0) (hp : H0 p = none) (hdx : H0 dx = none) (npd : p ≠ dx) (d : Hd)
    (k : ∀ b o, b ≠ p → b ≠ ad .md → upd (upd H0 dx (.own p)) p (.ins (CRo K) dx []) b = some o → H1 b = some o) (hl : upd (upd H0 dx (.own p)) p (.ins (CRo K) dx []) l = none) (h4 : H1 l = some (.lst [])) (h5 : H1 (ad .md) = some (.lst (s.md ++ [.ref p]))) :
    YR K (s.mk1 p d) (adM ad s.hs.length p l dx) (upd H1 p (.ins (CRo K) dx (d.F l (ad .y)))) ∧ YM K s ad H0 (s.mk1 p d) (adM ad s.hs.length p l dx) (upd H1 p (.ins (CRo K) dx (d.F l (ad .y)))) := by
  have hl1 := upd_none hl
  have hl2 := upd_none hl1.2
  have Rm : Y1 K s ad .md = some (.lst s.md) := rfl
  have old : ∀ b o, H0 b = some o → b ≠ ad .md → upd H1 p (.ins (CRo K) dx (d.F l (ad .y))) b = some o := fun b o e n => by
    have n1 : b ≠ p := fun z => by rw [z, hp] at e; cases e
    have n2 : b ≠ dx := fun z => by rw [z, hdx] at e; cases e
    rw [upd_ne n1]
    exact k b o n1 n (by rw [upd_ne n1, upd_ne n2]; exact e)
  have nmp : ad .md ≠ p := fun z => by have := R.at_ .md _ Rm; rw [z, hp] at this; cases this
  have x0 : ∀ j, j < 9 → adM ad s.hs.length p l dx (.x j) = ad (.x j) := fun j h => if_neg (by omega)
  have ey : Y1 K (s.mk1 p d) (adM ad s.hs.length p l dx) .y = Y1 K s ad .y := by
    show some (HO.ins (CY K) (adM ad s.hs.length p l dx (.x 0)) (yF s.now (ad .st) (ad .fi) (ad .na) (ad .nu) (adM ad s.hs.length p l dx (.x 2)) (ad .md) (adM ad s.hs.length p l dx (.x 3)) (ad .fr) (adM ad s.hs.length p l dx (.x 4)) (adM ad s.hs.length p l dx (.x 5)))) = _
    rw [x0 0 (by decide), x0 2 (by decide), x0 3 (by decide), x0 4 (by decide), x0 5 (by decide)]
    rfl
  -- the places
  have cs : ∀ r u, Y1 K (s.mk1 p d) (adM ad s.hs.length p l dx) r = some u → (r = .h s.hs.length ∧ u = .ins (CRo K) dx (d.F l (ad .y))) ∨ (r = .hl s.hs.length ∧ u = .lst []) ∨ (r = .md ∧ u = .lst (s.md ++ [.ref p])) ∨ (r ≠ .h s.hs.length ∧ r ≠ .hl s.hs.length ∧ r ≠ .md ∧ adM ad s.hs.length p l dx r = ad r ∧ Y1 K s ad r = some u) := fun r u e => by
    cases r with
    | h i =>
      have e : ((s.hs ++ [d])[i]?).map (fun d => HO.ins (CRo K) (if 9 + i = 9 + s.hs.length then dx else ad (.x (9 + i))) (d.F (if i = s.hs.length then l else ad (.hl i)) (ad .y))) = some u := e
      by_cases c : i = s.hs.length
      · subst c
        rw [List.getElem?_append_right (Nat.le_refl _), Nat.sub_self, if_pos rfl, if_pos rfl] at e
        exact .inl ⟨rfl, (Option.some.inj e).symm⟩
      · rw [if_neg c, if_neg (by omega)] at e
        have hlt : i < s.hs.length := by
          have hh : ∃ v, (s.hs ++ [d])[i]? = some v := by
            cases q : (s.hs ++ [d])[i]? with
            | none => rw [q] at e; cases e
            | some v => exact ⟨v, rfl⟩
          obtain ⟨v, hh⟩ := hh
          have := (List.getElem?_eq_some_iff.mp hh).1
          rw [List.length_append] at this
          have : i < s.hs.length + 1 := this
          omega
        rw [List.getElem?_append_left hlt] at e
        exact .inr (.inr (.inr ⟨(fun z => c (Ro.h.inj z)), (fun z => nomatch z), (fun z => nomatch z), if_neg c, e⟩))
    | hl i =>
      have e : (if i < (s.hs ++ [d]).length then some (HO.lst []) else none) = some u := e
      rw [List.length_append, List.length_singleton] at e
      by_cases c : i = s.hs.length
      · subst c
        rw [if_pos (Nat.lt_succ_self _)] at e
        exact .inr (.inl ⟨rfl, (Option.some.inj e).symm⟩)
      · refine .inr (.inr (.inr ⟨(fun z => nomatch z), (fun z => c (Ro.hl.inj z)), (fun z => nomatch z), if_neg c, ?_⟩))
        show (if i < s.hs.length then some (HO.lst []) else none) = some u
        by_cases l2 : i < s.hs.length
        · rw [if_pos l2]
          rw [if_pos (Nat.lt_succ_of_lt l2)] at e
          exact e
        · rw [if_neg (by show ¬ i < s.hs.length + 1; omega)] at e
          cases e
    | md => exact .inr (.inr (.inl ⟨rfl, (Option.some.inj e).symm⟩))
    | y => exact .inr (.inr (.inr ⟨(fun z => nomatch z), (fun z => nomatch z), (fun z => nomatch z), rfl, ey ▸ e⟩))
    | fi => exact .inr (.inr (.inr ⟨(fun z => nomatch z), (fun z => nomatch z), (fun z => nomatch z), rfl, e⟩))
    | na => exact .inr (.inr (.inr ⟨(fun z => nomatch z), (fun z => nomatch z), (fun z => nomatch z), rfl, e⟩))
    | nu => exact .inr (.inr (.inr ⟨(fun z => nomatch z), (fun z => nomatch z), (fun z => nomatch z), rfl, e⟩))
    | fr => exact .inr (.inr (.inr ⟨(fun z => nomatch z), (fun z => nomatch z), (fun z => nomatch z), rfl, e⟩))
    | st => exact .inr (.inr (.inr ⟨(fun z => nomatch z), (fun z => nomatch z), (fun z => nomatch z), rfl, e⟩))
    | ft x => exact .inr (.inr (.inr ⟨(fun z => nomatch z), (fun z => nomatch z), (fun z => nomatch z), rfl, e⟩))
    | row x => exact .inr (.inr (.inr ⟨(fun z => nomatch z), (fun z => nomatch z), (fun z => nomatch z), rfl, e⟩))
    | x j => cases e
  have aP : adM ad s.hs.length p l dx (.h s.hs.length) = p := if_pos rfl
  have aL : adM ad s.hs.length p l dx (.hl s.hs.length) = l := if_pos rfl
  have lp : l ≠ p := hl1.1
  have om : ∀ r u, Y1 K s ad r = some u → r ≠ .md → ad r ≠ ad .md := fun r u e n z => n (R.inj _ _ _ _ e Rm z)
  have op : ∀ r u, Y1 K s ad r = some u → ad r ≠ p := fun r u e z => by have := R.at_ _ _ e; rw [z, hp] at this; cases this
  have ol : ∀ r u, Y1 K s ad r = some u → ad r ≠ l := fun r u e z => by have := R.at_ _ _ e; rw [z, hl2.2] at this; cases this
  refine ⟨⟨fun r u e => ?_, fun r1 r2 u1 u2 q1 q2 z => ?_⟩, fun b o hb e => old b o e (fun z => hb .md _ Rm z.symm), fun r u e => ?_⟩
  · rcases cs r u e with ⟨rfl, rfl⟩ | ⟨rfl, rfl⟩ | ⟨rfl, rfl⟩ | ⟨_, _, n, ea, e'⟩
    · rw [aP]; exact upd_same
    · rw [aL, upd_ne lp]; exact h4
    · show upd H1 p _ (ad .md) = _
      rw [upd_ne nmp]; exact h5
    · rw [ea]; exact old _ _ (R.at_ _ _ e') (om r u e' n)
  · have om2 : adM ad s.hs.length p l dx .md = ad .md := rfl
    have aM : adM ad s.hs.length p l dx .md = ad .md := rfl
    rcases cs r1 u1 q1 with ⟨rfl, _⟩ | ⟨rfl, _⟩ | ⟨rfl, _⟩ | ⟨_, _, n1, ea1, e1'⟩ <;> rcases cs r2 u2 q2 with ⟨rfl, _⟩ | ⟨rfl, _⟩ | ⟨rfl, _⟩ | ⟨_, _, n2, ea2, e2'⟩
    · rfl
    · rw [aP, aL] at z; exact absurd z.symm lp
    · rw [aP, aM] at z; exact absurd z.symm nmp
    · rw [aP, ea2] at z; exact absurd z.symm (op _ _ e2')
    · rw [aP, aL] at z; exact absurd z lp
    · rfl
    · rw [aL, aM] at z; exact absurd z.symm (ol _ _ Rm)
    · rw [aL, ea2] at z; exact absurd z.symm (ol _ _ e2')
    · rw [aP, aM] at z; exact absurd z nmp
    · rw [aL, aM] at z; exact absurd z (ol _ _ Rm)
    · rfl
    · rw [aM, ea2] at z; exact absurd z.symm (om _ _ e2' n2)
    · rw [aP, ea1] at z; exact absurd z (op _ _ e1')
    · rw [aL, ea1] at z; exact absurd z (ol _ _ e1')
    · rw [aM, ea1] at z; exact absurd z (om _ _ e1' n1)
    · rw [ea1, ea2] at z; exact R.inj _ _ _ _ e1' e2' z
  · rcases cs r u e with ⟨rfl, rfl⟩ | ⟨rfl, rfl⟩ | ⟨rfl, rfl⟩ | ⟨_, _, n, ea, e'⟩
    · rw [aP]; exact .inr hp
    · rw [aL]; exact .inr hl2.2
    · exact .inl ⟨.md, _, Rm, rfl⟩
    · exact .inl ⟨r, u, e', ea.symm⟩
end
end K17

set_option Elab.async false
set_option linter.all false
set_option maxRecDepth 100000
set_option maxHeartbeats 0

namespace K17
open PySem PySem.Spec PyProof.Rows L2 RC
section
variable {P : Program} {w : World} {K : PySem.W.Frag} {mg : Str → Option Value} {base : Heap}
/-! ### the init of a handler of a file -/
abbrev hd0 (fn : Str) (w dl : Bool) : Hd := { fv := .non, tm := "\n", cl := false, fn := fn, w := w, dl := dl, op := false, sh := false }
def FS.mkf (s : FS) (p : Addr) (fn : Str) (w dl : Bool) : FS := if dl = true then s.mk1 p (hd0 fn w dl) else (s.mk1 p (hd0 fn w dl)).opD s.hs.length (hd0 fn w dl)
def spFileInit (K : PySem.W.Frag) : Sp := fun vs H Q _ => ∃ (s : FS) (ad : Ro → Addr) (p dx : Addr) (fn : Str) (w dl : Bool) (H0 : Hp), vs = [.ref p, .ref (ad .y), .str fn, .str (mdS w), .bl dl] ∧ YR K s ad H0 ∧ H0 p = none ∧ H0 dx = none ∧ p ≠ dx ∧ H = upd (upd H0 dx (.own p)) p (.ins (CRo K) dx []) ∧ s.md.length ≤ 1000 ∧ s.files.length ≤ 900 ∧
  (∀ ad' H' s', YR K s' ad' H' → YM K s ad H0 s' ad' H' → ad' (.h s.hs.length) = p → (∀ i, i < s.hs.length → ad' (.h i) = ad (.h i)) → ad' .y = ad .y → s' = s.mkf p fn w dl → Q .non H')
theorem file_init_body (T : Txt P w K mg) {f : Addr} {cdv : Value} {A : Around} {outer : List Env} {st0 : Shared} {E : XK} {vs : List V} {H : Hp} {Q : VK} (hr : Room 3 (A.deeper (envOfC "FileHandler.__init__" (defScope s_FileHandler_init) st0.heap.objs.size f cdv))) (h : spFileInit K vs H Q E)
    (c_Handler_init : Callable P w K mg base 2 (He.ma K (He.ga K "Handler") "__init__") ["self", "yard"] [] (spHandlerInit K))
    (c_TimedRotatingFileHandler_open_file : Callable P w K mg base 3 (He.ma K (He.ga K "TimedRotatingFileHandler") "open_file") ["self"] [] (spOpen K)) :
    ∃ t, PSs (cxOf CX0 P w K mg base nm_FileHandler_init "FileHandler.__init__" (defScope s_FileHandler_init) f cdv A outer st0 H E).nox (defBody s_FileHandler_init) t ∧ t { nx := fun _ H' => Q .non H', rt := Q } (start nm_FileHandler_init vs) H := by
  obtain ⟨s, ad, p, dx, fn, w, dl, H0, rfl, R, hp0, hd0', npd, eH, hml, hfl, hQ⟩ := h
  refine ⟨_, (pss_cons (ps_if (pt_cmpR op_notIn_seq (pv 3) (pe_tup (pa_cons pe_str (pa_cons pe_str pa_nil))) (by rfl)) (pss_one ps_never) pss_nil)
      (pss_cons (ps_expr (pe_cf T.cf_Handler_init c_Handler_init (hr.mono (by first | decide | exact Nat.le_refl _)) (pe_glob (v := .ref _) (by rfl) T.g_Handler rfl) (pa_cons (pv 0) (pa_cons (pv 1) pa_nil))))
      (pss_cons (ps_fld (pv 0) (pv 2) rfl)
      (pss_cons (ps_fld (pv 0) (pv 3) rfl)
      (pss_cons (ps_fld (pv 0) (pv 4) rfl)
      (pss_cons (ps_fld (pv 0) pe_bl rfl)
      (pss_cons (ps_fld (pv 0) pe_bl rfl)
      (pss_one (ps_if (pt_not (pt_val (pv 4))) (pss_one (ps_expr (pe_mt0 T.c_TimedRotatingFileHandler T.m_TimedRotatingFileHandler_open_file c_TimedRotatingFileHandler_open_file (hr.mono (by first | decide | exact Nat.le_refl _)) (pv 0)))) pss_nil))))))))), ?_⟩
  walk_at "in"
  have c : HCls K (CRo K) := ⟨T.c_TimedRotatingFileHandler, T.n_TimedRotatingFileHandler_filters, T.n_TimedRotatingFileHandler_yard, T.n_TimedRotatingFileHandler_level, T.n_TimedRotatingFileHandler_formatter, T.n_TimedRotatingFileHandler_name, T.n_TimedRotatingFileHandler_terminator, T.n_TimedRotatingFileHandler_closed⟩
  have hp : H p = some (.ins (CRo K) dx []) := by rw [eH]; exact upd_same
  have up : ∀ b o, H0 b = some o → H b = some o := fun b o e => by
    rw [eH, upd_ne (fun z => by rw [z, hp0] at e; cases e), upd_ne (fun z => by rw [z, hd0'] at e; cases e)]; exact e
  have hy := up _ _ R.y_
  have hmm := up _ _ R.md_
  have npy : p ≠ ad .y := fun z => by have := R.y_; rw [← z, hp0] at this; cases this
  walk_at "go"
  intro q fq
  have s1 := same_new fq (.tup [.str "a", .str "w"])
  have hq : upd H q (.tup [.str "a", .str "w"]) q = some (.tup [.str "a", .str "w"]) := upd_same
  generalize upd H q (.tup [.str "a", .str "w"]) = H1 at s1 hq ⊢
  have hp1 := s1 _ _ hp
  have hy1 := s1 _ _ hy
  have hm1 := s1 _ _ hmm
  refine ⟨q, _, rfl, .inr (SqT.of hq), (by cases w <;> rfl), rfl, _, rfl, ?_⟩
  refine iteF' (by cases w <;> decide +kernel) ?_
  refine ⟨rfl, _, rfl, _, rfl, p, _, dx, ad .y, _, ad .md, _, s.md, rfl, hp1, c, npy, hy1, rfl, rfl, hm1, hml, fun H2 hM => ?_⟩
  obtain ⟨l, k1, k2, k3, k4, k5⟩ := hM
  obtain ⟨R3, M3⟩ := R.mk1 (H1 := H2) (l := l) hp0 hd0' npd (hd0 fn w dl) (fun b o h1 h2 h3 => k1 b o h1 h2 (s1 _ _ (by rw [eH]; exact h3))) (by rw [← eH]; exact s1.free k2) k4 k5
  unfold FS.mkf at hQ
  have a1 : adM ad s.hs.length p l dx (.h s.hs.length) = p := if_pos rfl
  have a3 : ∀ i, i < s.hs.length → adM ad s.hs.length p l dx (.h i) = ad (.h i) := fun i hi => if_neg (by omega)
  cases dl with
  | true =>
    walk_at "go"
    simp only [upd_upd]
    exact hQ (adM ad s.hs.length p l dx) _ _ R3 M3 a1 a3 rfl rfl
  | false =>
    have hd1 : (s.mk1 p (hd0 fn w false)).hs[s.hs.length]? = some (hd0 fn w false) := by
      show (s.hs ++ [_])[s.hs.length]? = _
      rw [List.getElem?_append_right (Nat.le_refl _), Nat.sub_self]; rfl
    have hl3 : (s.mk1 p (hd0 fn w false)).files.length ≤ 1000 := by show s.files.length ≤ 1000; omega
    walk_at "go"
    simp only [upd_upd]
    refine ⟨?hz, R3, hd1, hl3, fun ad' H' s' R' M' X' e => ?_⟩
    case hz => show [V.ref p] = [V.ref (adM ad s.hs.length p l dx (.h s.hs.length))]; rw [a1]
    have x1 : ad' (.h s.hs.length) = p := (X' (.h s.hs.length) (fun _ h => nomatch h) (fun _ h => nomatch h)).trans a1
    have x2 : ∀ i, i < s.hs.length → ad' (.h i) = ad (.h i) := fun i hi => (X' (.h i) (fun _ h => nomatch h) (fun _ h => nomatch h)).trans (a3 i hi)
    have x3 : ad' .y = ad .y := X' .y (fun _ h => nomatch h) (fun _ h => nomatch h)
    exact hQ ad' H' s' R' (M3.trans M') x1 x2 x3 e
theorem file_init_len : ∀ vs H Q E, spFileInit K vs H Q E → vs.length = 5 := fun vs H Q E h => by
  obtain ⟨s, ad, p, dx, fn, w, dl, H0, rfl, _⟩ := h; rfl
theorem ok_file_init {f : Addr} (T : Txt P w K mg) (F : Stands K "__init__" "FileHandler.__init__" s_FileHandler_init [.str "a", .bl false] f) (c_Handler_init : Callable P w K mg base 2 (He.ma K (He.ga K "Handler") "__init__") ["self", "yard"] [] (spHandlerInit K))
    (c_TimedRotatingFileHandler_open_file : Callable P w K mg base 3 (He.ma K (He.ga K "TimedRotatingFileHandler") "open_file") ["self"] [] (spOpen K)) :
    Callable P w K mg base 4 f ["self", "yard", "filename", "mode", "delay"] [] (spFileInit K) :=
  F.call sc_FileHandler_init 5 2 file_init_len (fun cdv A outer s0 H vs Q E hr h => file_init_body T hr h c_Handler_init c_TimedRotatingFileHandler_open_file) (fun z => nomatch z) fun _ => ⟨rfl, fun _ _ _ _ _ _ _ us its hl hi => match us, hl, its, hi with | [_, _, _, _, _], _, [_, _], _ => ⟨_, rfl, rfl⟩⟩
theorem ok_file_init2 {f : Addr} (T : Txt P w K mg) (F : Stands K "__init__" "FileHandler.__init__" s_FileHandler_init [.str "a", .bl false] f) (c_Handler_init : Callable P w K mg base 2 (He.ma K (He.ga K "Handler") "__init__") ["self", "yard"] [] (spHandlerInit K))
    (c_TimedRotatingFileHandler_open_file : Callable P w K mg base 3 (He.ma K (He.ga K "TimedRotatingFileHandler") "open_file") ["self"] [] (spOpen K)) :
    Callable P w K mg base 4 f ["self", "yard", "filename", "mode", "delay"] [.str "a", .bl false] (spFileInit K) :=
  F.call sc_FileHandler_init 3 0 file_init_len (fun cdv A outer s0 H vs Q E hr h => file_init_body T hr h c_Handler_init c_TimedRotatingFileHandler_open_file) (fun z => nomatch z) fun _ => ⟨rfl, fun _ _ _ _ _ _ _ us its hl hi => match us, hl, its, hi with | [_, _, _], _, [_, _], _ => ⟨_, rfl, rfl⟩⟩
end
end K17

set_option Elab.async false
set_option linter.all false
set_option maxRecDepth 100000
set_option maxHeartbeats 4000000
/-! A token is out: str.replace in a for; list(text); a list's item in an op=; a dict of the top asked. -/
namespace RT
open PySem PySem.Spec PyProof.Rows L2 RC
section
variable {X : Cx} {st : Stmt} {rest body : List Stmt} {t u : TS} {e f : Expr} {te : TE} {pos : Pos}
/-- x = e -/
theorem pst_set {i : Nat} {x : Str} {px : Pos} (hN : X.N.Nodup) (hi : X.N[i]? = some x) (hx : Loc X.env.scope x) (he : PET X e te) (hs : swapsWith e (some (.Name x px)) pos.line X.env = pure false := by rfl)
    (hf : X.fn x = true ∨ X.env.scope.names.lookup x = some .local := by first | exact .inl rfl | exact .inr rfl | assumption) : PST X (.Assign [.Name x px] e pos) (tAsg te (gName i)) := by
  intro pins s σ H D h0 I h
  refine wpAny_Assign_Name (thn (he pins s σ H _ h0 I h) fun v sA ⟨y, HA, IA, rA, qA⟩ => ?_) hs
  exact store_ok IA hN hi hx rA (fun sB IB => ⟨_, HA, IB, qA⟩) hf
/-- x, y = 'a', 'b': a token is out behind it -/
theorem pss_parS {i j k1 k2 : Nat} {x y c d : Str} {px py pt pc pd pu : Pos} {kt kt2} (hc : X.calm = true) (hN : X.N.Nodup) (hi : X.N[i]? = some x) (hj : X.N[j]? = some y) (hij : i ≠ j)
    (hx : X.env.scope.names.lookup x = some .local) (hy : X.env.scope.names.lookup y = some .local) (hr : PSsT X rest u)
    (hw : swappedStores [.Tuple [.Name x px, .Name y py] kt pt] (.Tuple [.Constant (.str c) k1 pc, .Constant (.str d) k2 pd] kt2 pu) X.env = pure (some [x, y]))
    (hs : swapsWithSole [.Tuple [.Name x px, .Name y py] kt pt] (.Tuple [.Constant (.str c) k1 pc, .Constant (.str d) k2 pd] kt2 pu) pos.line X.env = pure false := by rfl) :
    PSs X (.Assign [.Tuple [.Name x px, .Name y py] kt pt] (.Tuple [.Constant (.str c) k1 pc, .Constant (.str d) k2 pd] kt2 pu) pos :: rest) (tSeq (tPar i j (tCons (tC (.str c)) (tCons (tC (.str d)) tNil))) u) := by
  refine ⟨fun pins s σ H D I h => ?_⟩
  have h : u D ((σ.set i (some (.str c))).set j (some (.str d))) H := by
    obtain ⟨v, w, e1, q⟩ := h
    cases e1
    exact q
  refine wpAny_execs_cons ?_
  rw [exec_Assign_arm]
  refine wpAny_bind (wpAny_standAt ?_)
  rw [hs]
  refine wpAny_bind (wpAny_pure ?_)
  rw [if_neg (by decide)]
  refine wpAny_bind (Tuple_ (Calls.spliced_cons (Calls.Constant_str (k := k1) (pos := pc) (Calls.spliced_cons (Calls.Constant_str (k := k2) (pos := pd) (Calls.spliced_nil ?_))))))
  have tA : 1 ≤ ({ s with toks := s.toks + 1 + 1 } : Shared).toks := by show 1 ≤ s.toks + 1 + 1; omega
  have I1 : Inv X pins σ H { s with toks := s.toks + 1 + 1 } := I.tok _
  refine wpAny_newObj_type ?_ (by show 2 ≤ sizeLine; decide)
  generalize hsA : ({ s with toks := s.toks + 1 + 1 } : Shared) = sA at I1 tA ⊢
  have I2 := I1.kept (t' := sA.toks) (h' := sA.heap.push { cls := .type "tuple", data := .seq [Value.str c s.toks, Value.str d (s.toks + 1)].toArray }) fun b o q => Heap.get?_push_of_some _ q
  rw [hw]
  refine wpAny_bind (wpAny_pure ?_)
  show wpAny (model X.prog X.w) X.A (do rule "assign.swapped-stores"; let its ← unpackItems (.ref sA.heap.objs.size) 2 none; assignInOrder [fun v => bindName X.env y v, fun v => bindName X.env x v] its.reverse; pure Flow.next) _ _ _
  refine wpAny_with_toks (n := 1) tA ?_
  refine wpAny_bind (wpAny_rule (wpAny_bind (unpackItems_tuple (items := #[Value.str c s.toks, Value.str d (s.toks + 1)]) (I.ok.hd hc) (IsTup.new sA.heap _) fun hB kB => ?_)))
  have I3 := I2.kept (h' := hB) (t' := sA.toks) fun b o q => kB b o (Nat.ne_of_lt (Heap.lt_size q)) q
  refine wpAny_bind (assignInOrder_cons (wpAny_bindName (store_ok I3 hN hj (.inl hy) (v := .str d) ⟨_, rfl⟩ (fun s2 I4 => ?_) (.inr hy))))
  refine assignInOrder_cons (wpAny_bindName (store_ok I4 hN hi (.inl hx) (v := .str c) ⟨_, rfl⟩ (fun s3 I5 => assignInOrder_nil (wpAny_pure ?_)) (.inr hx)))
  rw [List.set_comm _ _ (Ne.symm hij)] at I5
  intro h1
  exact hr pins s3 _ H D h1 I5 h
/-- x, y = 'a', 'b', a folded pair: a token is out behind it -/
theorem pss_parC {c d : Str} {k1 k2 kt2 : Nat} {pc pd pu : Pos} {tg : Expr} {g : TG} (hg : PG X tg g) (hr : PSsT X rest u)
    (hw : swappedStores [tg] (.Tuple [.Constant (.str c) k1 pc, .Constant (.str d) k2 pd] kt2 pu) X.env = pure none := by rfl)
    (hs : swapsWithSole [tg] (.Tuple [.Constant (.str c) k1 pc, .Constant (.str d) k2 pd] kt2 pu) pos.line X.env = pure false := by rfl)
    (he : (assignEach [tg] X.env).map (·.2) = [assign tg X.env] := by rfl) :
    PSs X (.Assign [tg] (.Tuple [.Constant (.str c) k1 pc, .Constant (.str d) k2 pd] kt2 pu) pos :: rest) (tSeq (tAsg (tTup (tCons (tC (.str c)) (tCons (tC (.str d)) tNil))) g) u) := by
  refine ⟨fun pins s σ H D I h => ?_⟩
  refine wpAny_execs_cons ?_
  refine wpAny_Assign_stores ?_ hs hw
  refine Tuple_ (Calls.spliced_cons (Calls.Constant_str (k := k1) (pos := pc) (Calls.spliced_cons (Calls.Constant_str (k := k2) (pos := pd) (Calls.spliced_nil ?_)))))
  have tA : 1 ≤ ({ s with toks := s.toks + 1 + 1 } : Shared).toks := by show 1 ≤ s.toks + 1 + 1; omega
  have I1 : Inv X pins σ H { s with toks := s.toks + 1 + 1 } := I.tok _
  refine wpAny_newObj_type ?_ (by show 2 ≤ sizeLine; decide)
  generalize hsA : ({ s with toks := s.toks + 1 + 1 } : Shared) = sA at I1 tA ⊢
  have h : 2 ≤ sizeLine ∧ ∀ a, H a = none → g (.ref a) σ (upd H a (.tup [.str c, .str d])) (u D) := h
  have hf : H sA.heap.objs.size = none := I1.hok.fresh (Nat.le_refl _)
  have I2 := I1.laid (t' := sA.toks) (h' := sA.heap.push { cls := .type "tuple", data := .seq [Value.str c s.toks, Value.str d (s.toks + 1)].toArray }) (a := sA.heap.objs.size) (o := .tup [.str c, .str d]) (fun b u e => Heap.get?_push_of_some _ e) (Nat.le_refl _)
    ⟨by show 2 ≤ sizeLine; decide, [Value.str c s.toks, Value.str d (s.toks + 1)], .cons ⟨_, rfl⟩ (.cons ⟨_, rfl⟩ .nil), ⟨_, Heap.get?_push_size _ rfl, rfl, _, rfl⟩⟩
  rw [he]
  refine wpAny_mono (wpAny_toks_of tA (hg.run pins _ σ _ (.ref sA.heap.objs.size) (.ref sA.heap.objs.size) _ I2 rfl (h.2 _ hf))) (fun _ s2 ⟨t2, σ2, H2, I3, q3⟩ => ?_) (fun _ _ z => z.2)
  exact hr pins s2 σ2 H2 D t2 I3 q3
/-- for, the body where a token is out -/
theorem pst_forT {tg iter : Expr} {wi : TI} {g : TG} {tb : TS} (hp : PassesOwn (model X.prog X.w) X.A X.env X.xe) (hc : X.calm = true) (hi : PI X tg iter wi) (hg : PG X tg g) (hb : PSsT X body tb)
    (hs : ∀ x, foldedSetIterable iter X.env x = pure x := by intro _; rfl) : PST X (.For tg iter body [] pos) (tFor wi g tb) := by
  intro pins s σ H D h0 I h
  refine wpAny_For (wpAny_mono (wpAny_toks_of h0 (hi.run pins s σ H _ I h)) (fun v s1 ⟨t1, h1⟩ => wpAny_mono (wpAny_toks_of t1 h1) (fun itv s2 ⟨t2, h2⟩ => ?_) fun _ _ z => z.2) fun _ _ z => z.2) hs
  obtain ⟨it, fp, tn, J, H2, e, I2, T, st2, f2, W, ⟨m0, w0⟩, turn⟩ := h2
  subst e
  have stat : ∀ {HA : Hp}, (∀ b ∈ fp, HA b = none) → ∀ b ∈ fp, FpOk X pins HA b := fun hn b hb => ⟨hn b hb, (f2 b hb).2⟩
  refine codeAny_forLoop_any (fun n sA => 1 ≤ sA.toks ∧ ∃ i σA HA, Inv X pins σA HA sA ∧ tn i sA.heap ∧ (∀ b ∈ fp, HA b = none) ∧ W i n σA HA) ?_ m0 ⟨t2, 0, σ, H2, I2, st2, fun b hb => (f2 b hb).1, w0⟩
  rintro n s3 ⟨t3, i, σ3, H3, I3, st3, fr3, w3⟩
  rcases turn i n σ3 H3 w3 with ⟨stop, qn⟩ | ⟨go, N, hN, step⟩
  · refine wpAny_passesOwn hp (thn (T.done X rfl rfl rfl hc i pins s3 σ3 H3 X.xe I3 (stat fr3) st3 stop) fun r s4 ⟨hr, I4⟩ => ?_)
    subst hr
    exact wpAny_execs_nil ⟨σ3, H3, I4, qn⟩
  · refine wpAny_passesOwn hp (wpAny_mono (wpAny_toks_of t3 (T.item X rfl rfl rfl hc i pins s3 σ3 H3 X.xe I3 (stat fr3) st3 go)) (fun r s4 ⟨t4, u4, hr, h4⟩ => ?_) fun _ _ z => z.2)
    subst hr
    refine wpAny_passesOwn hp (wpAny_mono (wpAny_toks_of t4 h4) (fun _ s5 ⟨t5, x5, H5, I5, r5, y5, st5, fr5⟩ => ?_) fun _ _ z => z.2)
    have IP := I5.pinned (stat fr5) (T.obj _ _ st5)
    refine wpAny_passesOwn hp (wpAny_mono (wpAny_toks_of t5 (hg.run _ s5 σ3 H5 x5 u4 _ IP r5 (step x5 H5 y5))) (fun _ s6 ⟨t6, σ6, H6, I6, q6⟩ => ?_) fun _ _ z => z.2)
    refine wpAny_passesOwn hp (wpAny_mono (wpAny_toks_of t6 (hb _ s6 σ6 H6 _ t6 I6 q6)) (fun fl s7 ⟨t7, q7⟩ => ?_) fun _ _ z => z.2)
    have again : ∀ {σ7 : L2.St} {H7 : Hp}, Inv X (pins ++ pinsAt fp s5.heap) σ7 H7 s7 → N σ7 H7 → ∃ m, m < n ∧ 1 ≤ s7.toks ∧ ∃ i σA HA, Inv X pins σA HA s7 ∧ tn i s7.heap ∧ (∀ b ∈ fp, HA b = none) ∧ W i m σA HA := fun {σ7 H7} I7 n7 => by
      obtain ⟨m7, lt7, w7⟩ := hN σ7 H7 n7
      refine ⟨m7, lt7, t7, i + 1, σ7, H7, I7.unpinned, T.keep _ _ _ st5 fun b hb o eb => (I7.pin (b, o) (List.mem_append_right _ (List.mem_append_right _ (mem_pinsAt hb eb)))).1, fun b hb => ?_, w7⟩
      obtain ⟨o, eb, _⟩ := T.obj _ _ st5 b hb
      exact (I7.pin (b, o) (List.mem_append_right _ (List.mem_append_right _ (mem_pinsAt hb eb)))).2.1
    cases fl with
    | ret v =>
      obtain ⟨x7, σ7, H7, I7, r7, q8⟩ := q7
      exact ⟨x7, σ7, H7, I7.unpinned, r7, q8⟩
    | next =>
      obtain ⟨σ7, H7, I7, n7⟩ := q7
      exact again I7 n7
    | cont =>
      obtain ⟨σ7, H7, I7, n7⟩ := q7
      exact again I7 n7
    | brk =>
      obtain ⟨σ7, H7, I7, q8⟩ := q7
      exact ⟨σ7, H7, I7.unpinned, q8⟩
end
section
variable {X : Cx}
/-- z not in D, D a dict of the top, z a text -/
theorem op_notInKD {D : Addr} {kvs : List (Key × V)} (k : RB.KD X.prog X.w X.K D kvs) : OpR X (compareOp .NotIn) (fun x y H Q => ∃ z : Str, x = .str z ∧ y = .ref D ∧ Q (.bl (!(valV kvs (Sum.inr z)).isSome)) H) := by
  intro pins s σ H x y v u Q I rx ry h
  obtain ⟨z, rfl, rfl, q⟩ := h
  cases ry
  obtain ⟨vs, rel, dd⟩ := k.at_
  refine wpAny_notIn_of (kV_is (k := Sum.inr z) rx) k.low (dd _ I.kIn).mapOf ?_
  rw [← (rel.val (Sum.inr z)).isSome_eq]
  exact ⟨.bl _, H, I.tok _, rfl, q⟩
theorem op_inKD {D : Addr} {kvs : List (Key × V)} (k : RB.KD X.prog X.w X.K D kvs) : OpR X (compareOp .In) (fun x y H Q => ∃ z : Str, x = .str z ∧ y = .ref D ∧ Q (.bl (valV kvs (Sum.inr z)).isSome) H) := by
  intro pins s σ H x y v u Q I rx ry h
  obtain ⟨z, rfl, rfl, q⟩ := h
  cases ry
  obtain ⟨vs, rel, dd⟩ := k.at_
  refine wpAny_in_of (kV_is (k := Sum.inr z) rx) k.low (dd _ I.kIn).mapOf ?_
  rw [← (rel.val (Sum.inr z)).isSome_eq]
  exact ⟨.bl _, H, I.tok _, rfl, q⟩
/-- list(text) -/
theorem call_listS (hc : X.calm = true) : CallR X (.type "list") (fun xs H Q => ∃ z : Str, xs = [.str z] ∧ z.length ≤ 1000000 ∧ ∀ p, H p = none → Q (.ref p) (upd H p (.lst (z.cps.toList.map fun c => .str ⟨#[c]⟩)))) := by
  intro pins s σ H xs us Q I r q
  obtain ⟨z, ez, hz, q⟩ := q
  subst ez
  obtain ⟨u, eu, rx⟩ := vals1 r
  subst eu
  obtain ⟨t, et⟩ := rx
  subst et
  have z1 : z.cps.size ≤ sizeLine := by rw [sizeLine_eq]; exact Nat.le_trans hz (by decide)
  refine call_list_str (I.ok.hd hc) z t (fun h' tk acc c keep new items => ?_) z1
  have rel : Vals (z.cps.toList.map fun c => V.str ⟨#[c]⟩) acc.toList := by
    obtain ⟨hsz, hat⟩ := items
    refine vals_of_at (by rw [List.length_map, Array.length_toList, Array.length_toList]; exact hsz.symm) fun i v u hv hu => ?_
    rw [List.getElem?_map] at hv
    obtain ⟨c', hc', rfl⟩ := Option.map_eq_some_iff.mp hv
    obtain ⟨c2, u2, hc2, rfl⟩ := hat i u (by rw [← Array.getElem?_toList]; exact hu)
    rw [← Array.getElem?_toList, hc'] at hc2
    cases hc2
    exact ⟨u2, rfl⟩
  refine ⟨.ref s.heap.objs.size, _, I.laid (t' := tk) (o := .lst (z.cps.toList.map fun c => .str ⟨#[c]⟩)) keep (Nat.le_refl _) ?_, rfl, q _ (I.hok.fresh (Nat.le_refl _))⟩
  exact ⟨by rw [List.length_map, Array.length_toList]; exact z1, acc.toList, c, rel, by rw [Array.toArray_toList]; exact new⟩
/-- l[i], by values -/
theorem get_list : PGet X (rIxL X.K) := by
  intro pins s σ H o i ov iv Q I ro ri h
  obtain ⟨p, xs, n, z, rfl, rfl, hq, he, q⟩ := h
  cases ro
  obtain ⟨t, rfl⟩ := ri
  obtain ⟨its, r, pl, hz⟩ := I.list hq
  obtain ⟨j, h1, h2, h3, h4, h5⟩ := atI_get he
  obtain ⟨w, ew, rw'⟩ := r.get h2
  have hl := r.length
  have hn := line63
  by_cases h0 : 0 ≤ n
  · have hj : n.toNat = j := by
      rw [seqIndex_of h0 h5] at h1
      exact Option.some.inj h1
    exact wpAny_getItem_list pl.isList h0 (by omega) (by rw [hj]; simpa using ew) ⟨z, H, I, rw', q⟩
  · have hj : (n + (its.toArray.size : Int)).toNat = j := by
      rw [seqIndex_neg (by omega) h4] at h1
      rw [List.size_toArray, ← hl]
      exact Option.some.inj h1
    exact wpAny_getItem_list_neg pl.isList (by omega) (by rw [List.size_toArray] <;> omega) (by omega) (by rw [hj]; simpa using ew) ⟨z, H, I, rw', q⟩
end
section
variable {P : Program} {w : World} {K : PySem.W.Frag} {mg : Str → Option Value} {base : Heap} {x qual : Str} {f : Addr} {k : Nat} {N ps : List Str} {sp : Sp}
/-- a def with parameters and no cells: a token is out when its body begins -/
theorem call0T {st : Stmt} (F : Stands K x qual st [] f) (S : FnScope N ps (defScope st)) (hnc : ∀ y ∈ (defScope st).names, y.2 ≠ .cell) (hps : 1 ≤ ps.length) (len : ∀ vs H Q E, sp vs H Q E → vs.length = ps.length)
    (hbody : ∀ (cdv : Value) (A : Around) (outer : List Env) (s : Shared) (H : Hp) (vs : List V) (Q : VK) (E : XK), Room k (A.deeper (envOfC qual (defScope st) s.heap.objs.size f cdv)) → sp vs H Q E →
      ∃ t, PSsT (cxOf CX0 P w K mg base N qual (defScope st) f cdv A outer s H E) (defBody st) t ∧ t { nx := fun _ H' => Q .non H', rt := Q } (L2.start N vs) H)
    (h0 : ∀ (kV doc pm : Value) (an : Option Addr) (cdv ct : Value) (us : List Value), us.length = ps.length → bindArgs (PySem.W.fnOf x qual (defArgs st) (defBody st) (defScope st) .none kV doc pm an cdv ct) ⟨us, []⟩ = pure (ps.zip us)) :
    Callable P w K mg base (k + 1) f ps [] sp := by
  obtain ⟨fd, F⟩ := F
  have ok : FnOk P w K mg base CX0 (k + 1) f fd ps sp := by
    obtain ⟨oc, od, dV, kV, doc, pm, an, cdv, ct, osl, rfl, lk, hcd, _, _⟩ := F.ex
    exact fn_ofT lk hcd S hnc hps len fun A outer s H vs Q E hr hsp => hbody cdv A outer s H vs Q E hr hsp
  exact ⟨fd, [], ok, .nil, F.bindsN h0, F.kp⟩
end
end RT

set_option Elab.async false
set_option linter.all false
set_option maxRecDepth 100000
set_option maxHeartbeats 4000000
/-! A dict of the top, subscripted by a text. -/
namespace RKd
open PySem PySem.Spec PyProof.Rows L2 RC
section
variable {X : Cx}
def rKd (D : Addr) (kvs : List (Key × V)) : R2 := fun x y H Q => ∃ (z : Str) (v : V), x = .ref D ∧ y = .str z ∧ valV kvs (Sum.inr z) = some v ∧ Q v H
/-- D[z] -/
theorem pe_kd {o i : Expr} {pos : Pos} {td ty : TE} {D : Addr} {kvs : List (Key × V)} (k : RB.KD X.prog X.w X.K D kvs) (ho : PE X o td) (hi : PE X i ty) (hs : NoSl i) : PE X (.Subscript o i pos) (tOp (rKd D kvs) td ty) := by
  refine ⟨fun pins s σ H Q I h => ?_⟩
  refine subD_of PySem.F.slot_dict_getitem.lookup hs (thn (ho.run pins s σ H _ I h) fun u s1 ⟨x, H1, I1, rx, q1⟩ => thn (hi.run pins s1 σ H1 _ I1 q1) fun iv s2 ⟨y, H2, I2, ry, z, v, ex, ey, e, q2⟩ => ?_)
  subst ex
  subst ey
  obtain rfl : u = Value.ref D := rx
  obtain ⟨vs, rel, dd⟩ := k.at_
  have d2 := dd _ I2.kIn
  refine ⟨d2.typeIs, ?_⟩
  obtain ⟨w', hw, rw'⟩ := RelO.some_of (v := v) (o := valueAt vs (Sum.inr z)) (by rw [← e]; exact rel.val (Sum.inr z))
  exact wpAny_getItem_of (kV_is (k := Sum.inr z) ry) d2.mapOf hw ⟨v, H2, I2.tok _, rw', q2⟩
end
end RKd

set_option Elab.async false
set_option linter.all false
set_option maxRecDepth 100000
set_option maxHeartbeats 0

namespace K17
open PySem PySem.Spec PyProof.Rows L2 RC
section
variable {P : Program} {w : World} {K : PySem.W.Frag} {mg : Str → Option Value} {base : Heap}
/-! ### a handler that rolls by time: its span, the next time, the stamp -/
open DT
def unitI (wi : Nat) : Int := match wi with | 0 => 1 | 1 => 60 | 2 => 3600 | 3 => 86400 | 4 => 86400 | _ => 604800
def TL.span (t : TL) : Int := t.iv * unitI t.wi
def TL.next (t : TL) (s : Int) : Int := if t.wi < 4 then s + t.span else if t.wi = 4 then (s / 86400 + 1) * 86400 + t.span - 86400 else (s / 86400 + ((((t.wi - 5 : Nat) : Int) - s / 86400 - 3) % 7) + 1) * 86400 + t.span - 604800
structure TL.Ok (t : TL) : Prop where
  wi : t.wi < 12
  iv0 : 0 ≤ t.iv
  iv1 : t.iv ≤ 100000
def spSpan (K : PySem.W.Frag) : Sp := fun vs H Q _ => ∃ (p dx : Addr) (fs : List (Str × V)) (t : TL), vs = [.ref p] ∧ H p = some (.ins (CRo K) dx fs) ∧ fs.lookup ("when" : Str) = some (.str (whN t.wi)) ∧ fs.lookup ("interval" : Str) = some (.int t.iv) ∧ t.Ok ∧ Q (.int t.span) H
abbrev wkL : List V := (["W0", "W1", "W2", "W3", "W4", "W5", "W6"] : List Str).map V.str
theorem in_week : ∀ wi : Nat, wi < 12 → inV (V.str (whN wi)) wkL = decide (5 ≤ wi) := by decide +kernel
theorem unit_val (K : PySem.W.Frag) : ∀ wi : Nat, wi < 5 → valV (kv_SPANS.map fun q => (q.1, q.2.v K)) (Sum.inr (whN wi)) = some (.int (unitI wi)) := fun wi h =>
  match wi, h with
  | 0, _ => rfl
  | 1, _ => rfl
  | 2, _ => rfl
  | 3, _ => rfl
  | 4, _ => rfl
theorem ok_span {f : Addr} (T : Txt P w K mg) (F : Stands K "span" "TimedRotatingFileHandler.span" s_TimedRotatingFileHandler_span [] f) : Callable P w K mg base 1 f ["self"] [] (spSpan K) := by
  refine F.call0 sc_TimedRotatingFileHandler_span (fun vs H Q E h => ?_) (fun cdv A outer s0 H vs Q E hr h => ?_) (fun _ _ _ _ _ _ us hl => match us, hl with | [_], _ => rfl)
  · obtain ⟨p, dx, fs, t, rfl, _⟩ := h; rfl
  obtain ⟨p, dx, fs, t, rfl, ha, hfw, hfi, ⟨hw, iv0, iv1⟩, hQ⟩ := h
  refine ⟨_, (pss_one (ps_ret (pe_op op_mul (pe_fld (pv 0) rfl) (pe_ifExp (pt_cmpR op_in_seq (pe_fld (pv 0) rfl) (pe_glob (v := .ref _) (by rfl) T.g_WEEKDAYS rfl) (by rfl)) (pe_op op_mul pe_int (pe_gi (by rfl) T.g_DAY_timed)) (RKd.pe_kd T.t_SPANS (pe_glob (v := .ref _) (by rfl) T.g_SPANS rfl) (pe_fld (pv 0) rfl) (fun _ _ => rfl)))))), ?_⟩
  walk_at "in"
  walk_at "go"
  refine ⟨.inr (T.kt_WEEKDAYS _), rfl, rfl, ?_⟩
  have e0 := in_week t.wi hw
  by_cases c : 5 ≤ t.wi
  · rw [decide_eq_true c] at e0
    have e1 : unitI t.wi = 604800 := by
      generalize t.wi = wi at hw c
      match wi, hw, c with
      | 5, _, _ => rfl
      | 6, _, _ => rfl
      | 7, _, _ => rfl
      | 8, _, _ => rfl
      | 9, _, _ => rfl
      | 10, _, _ => rfl
      | 11, _, _ => rfl
    refine ⟨_, rfl, iteT' e0 ?_⟩
    walk_at "go"
    refine ⟨.inl ⟨by decide, by decide⟩, ?_⟩
    walk_at "go"
    refine ⟨.inr ⟨by decide, by decide⟩, ?_⟩
    unfold TL.span at hQ
    rw [e1] at hQ
    exact hQ
  · rw [decide_eq_false c] at e0
    refine ⟨_, rfl, iteF' e0 ?_⟩
    have u := unit_val K t.wi (by omega)
    walk_at "go"
    refine ⟨.inl ⟨by omega, by omega⟩, ?_⟩
    exact hQ
theorem not_mid : ∀ wi : Nat, wi < 12 → decide (V.str (whN wi) = V.str ("MIDNIGHT" : Str)) = decide (wi = 4) := by decide +kernel
def spNext (K : PySem.W.Frag) : Sp := fun vs H Q _ => ∃ (p dx : Addr) (fs : List (Str × V)) (t : TL) (n : Int), vs = [.ref p, .int n] ∧ H p = some (.ins (CRo K) dx fs) ∧ fs.lookup ("when" : Str) = some (.str (whN t.wi)) ∧ fs.lookup ("interval" : Str) = some (.int t.iv) ∧ fs.lookup ("span" : Str) = none ∧ t.Ok ∧ Q (.int (t.next n)) H
theorem week_at : ∀ wi : Nat, 5 ≤ wi → wi < 12 → (["W0", "W1", "W2", "W3", "W4", "W5", "W6"] : List Str)[wi - 5]? = some (whN wi) := fun wi h h2 =>
  match wi, h, h2 with
  | 5, _, _ => rfl
  | 6, _, _ => rfl
  | 7, _, _ => rfl
  | 8, _, _ => rfl
  | 9, _, _ => rfl
  | 10, _, _ => rfl
  | 11, _, _ => rfl
theorem week_first : ∀ j : Nat, j < 7 → ∀ m : Nat, m < j → (["W0", "W1", "W2", "W3", "W4", "W5", "W6"] : List Str)[m]? ≠ (["W0", "W1", "W2", "W3", "W4", "W5", "W6"] : List Str)[j]? := by decide +kernel
theorem ok_next_of {f : Addr} (T : Txt P w K mg) (F : Stands K "next_of" "TimedRotatingFileHandler.next_of" s_TimedRotatingFileHandler_next_of [] f) (c_TimedRotatingFileHandler_span : Callable P w K mg base 1 (He.ma K (He.ga K "TimedRotatingFileHandler") "span") ["self"] [] (spSpan K)) : Callable P w K mg base 2 f ["self", "seconds"] [] (spNext K) := by
  refine F.call0 sc_TimedRotatingFileHandler_next_of (fun vs H Q E h => ?_) (fun cdv A outer s0 H vs Q E hr h => ?_) (fun _ _ _ _ _ _ us hl => match us, hl with | [_, _], _ => rfl)
  · obtain ⟨p, dx, fs, t, n, rfl, _⟩ := h; rfl
  obtain ⟨p, dx, fs, t, n, rfl, ha, hfw, hfi, hfs, hT, hQ⟩ := h
  have hw := hT.wi
  refine ⟨_, (pss_cons (ps_if (PW.pt (pw_and (pt_cmpR op_ne (pe_fld (pv 0) rfl) pe_str (nomark _)) (pw_and1 (pt_cmpR op_notIn_seq (pe_fld (pv 0) rfl) (pe_glob (v := .ref _) (by rfl) T.g_WEEKDAYS rfl) (by rfl))))) (pss_one (ps_ret (pe_op op_add (pv 1) (pe_mt0 T.c_TimedRotatingFileHandler T.m_TimedRotatingFileHandler_span c_TimedRotatingFileHandler_span (hr.mono (by first | decide | exact Nat.le_refl _)) (pv 0))))) pss_nil)
      (pss_cons (ps_set (i := 2) sc_TimedRotatingFileHandler_next_of.nd rfl (by first | exact Or.inl rfl | exact Or.inr rfl) (pe_op op_fdiv (pv 1) (pe_gi (by rfl) T.g_DAY_timed)))
      (pss_cons (ps_if (pt_cmpR op_in_seq (pe_fld (pv 0) rfl) (pe_glob (v := .ref _) (by rfl) T.g_WEEKDAYS rfl) (by rfl)) (pss_cons (ps_set (i := 2) sc_TimedRotatingFileHandler_next_of.nd rfl (by first | exact Or.inl rfl | exact Or.inr rfl) (pe_op op_add (pv 2) (pe_op op_mod (pe_op op_sub (pe_op op_sub (pe_bm PySem.F.plainAttrs_tuple PySem.F.slot_tuple_index PySem.F.type_tuple_index mt_tup_index (pe_glob (v := .ref _) (by rfl) T.g_WEEKDAYS rfl) (pa_cons (pe_fld (pv 0) rfl) pa_nil)) (pv 2)) (pe_gi (by rfl) T.g_FIRST_WEEKDAY)) pe_int)))
      (pss_one (ps_ret (pe_op op_sub (pe_op op_add (pe_op op_mul (pe_op op_add (pv 2) pe_int) (pe_gi (by rfl) T.g_DAY_timed)) (pe_mt0 T.c_TimedRotatingFileHandler T.m_TimedRotatingFileHandler_span c_TimedRotatingFileHandler_span (hr.mono (by first | decide | exact Nat.le_refl _)) (pv 0))) (pe_op op_mul pe_int (pe_gi (by rfl) T.g_DAY_timed)))))) pss_nil)
      (pss_one (ps_ret (pe_op op_sub (pe_op op_add (pe_op op_mul (pe_op op_add (pv 2) pe_int) (pe_gi (by rfl) T.g_DAY_timed)) (pe_mt0 T.c_TimedRotatingFileHandler T.m_TimedRotatingFileHandler_span c_TimedRotatingFileHandler_span (hr.mono (by first | decide | exact Nat.le_refl _)) (pv 0))) (pe_gi (by rfl) T.g_DAY_timed))))))), ?_⟩
  walk_at "in"
  have e0 := in_week t.wi hw
  have e4 := not_mid t.wi hw
  unfold TL.next at hQ
  generalize e1 : spSpan K = S1 at c_TimedRotatingFileHandler_span
  have sp : ∀ (Q : VK), Q (.int t.span) H → S1 [.ref p] H Q E0 := fun Q q => by
    rw [← e1]; exact ⟨p, dx, fs, t, rfl, ha, hfw, hfi, hT, q⟩
  by_cases c4 : t.wi = 4
  · have e5 : (!decide (V.str (whN t.wi) = V.str ("MIDNIGHT" : Str))) = false := by rw [e4, decide_eq_true c4]; rfl
    rw [if_neg (by omega), if_pos c4] at hQ
    rw [decide_eq_false (by omega)] at e0
    walk_at "go"
    refine ⟨⟨by decide, by decide⟩, ?_⟩
    walk_at "go"
    refine ⟨.inr (T.kt_WEEKDAYS _), rfl, rfl, ?_⟩
    refine ⟨_, rfl, iteF' e0 ?_⟩
    walk_at "go"
    refine ⟨.inr ⟨by decide, by decide⟩, ?_⟩
    walk_at "go"
    refine sp _ ?_
    walk_at "go"
    exact hQ
  · have e5 : (!decide (V.str (whN t.wi) = V.str ("MIDNIGHT" : Str))) = true := by rw [e4, decide_eq_false c4]; rfl
    by_cases c5 : 5 ≤ t.wi
    · rw [if_neg (by omega), if_neg c4] at hQ
      rw [decide_eq_true c5] at e0
      have en : (!inV (V.str (whN t.wi)) wkL) = false := by rw [e0]; rfl
      walk_at "go"
      refine ⟨.inr (T.kt_WEEKDAYS _), rfl, rfl, ?_⟩
      refine ⟨_, rfl, iteF' en ?_⟩
      walk_at "go"
      refine ⟨⟨by decide, by decide⟩, ?_⟩
      walk_at "go"
      refine ⟨.inr (T.kt_WEEKDAYS _), rfl, rfl, ?_⟩
      refine ⟨_, rfl, iteT' e0 ?_⟩
      refine ⟨_, rfl, .inr (.inl ⟨rfl, T.ktn_WEEKDAYS⟩), ?_⟩
      walk_at "go"
      refine ⟨T.kt_WEEKDAYS _, week_at t.wi c5 hw, fun m hm => by rw [← week_at t.wi c5 hw]; exact week_first (t.wi - 5) (by omega) m hm, ?_⟩
      walk_at "go"
      refine ⟨.inr ⟨by decide, by decide⟩, ?_⟩
      walk_at "go"
      refine sp _ ?_
      walk_at "go"
      refine ⟨.inr ⟨by decide, by decide⟩, ?_⟩
      walk_at "go"
      exact hQ
    · rw [if_pos (by omega)] at hQ
      rw [decide_eq_false c5] at e0
      have en : (!inV (V.str (whN t.wi)) wkL) = true := by rw [e0]; rfl
      walk_at "go"
      refine ⟨.inr (T.kt_WEEKDAYS _), rfl, rfl, ?_⟩
      refine ⟨_, rfl, iteT' en ?_⟩
      walk_at "go"
      refine sp _ ?_
      walk_at "go"
      exact hQ
end
end K17

set_option Elab.async false
set_option linter.all false
set_option maxRecDepth 100000
set_option maxHeartbeats 0

namespace K17
open PySem PySem.Spec PyProof.Rows L2 RC
section
variable {P : Program} {w : World} {K : PySem.W.Frag} {mg : Str → Option Value} {base : Heap}
/-! ### words that are right -/
/-- a word that is right, in any case of its letters -/
structure Word (z : Str) (wi : Nat) : Prop where
  lt : wi < 12
  len : z.length ≤ 100
  ok : ∀ c ∈ z.cps.toList, c ∈ (Str.cps (("abcdefghijklmnopqrstuvwxyzABCDEFGHIJKLMNOPQRSTUVWXYZ" : Str) ++ ("0123456789" : Str))).toList
  up : Txt.upper z = whN wi
def spChecked : Sp := fun vs H Q _ => ∃ (z : Str) (wi : Nat), vs = [.str z] ∧ Word z wi ∧ ∀ H', Same H H' → Q (.str (whN wi)) H'
theorem not_week : ∀ wi : Nat, wi < 12 → 5 ≤ wi → (!inV (V.str (whN wi)) wkL) = false := fun wi h h5 => by rw [in_week wi h, decide_eq_true h5]; rfl
theorem in_spans (K : PySem.W.Frag) : ∀ wi : Nat, wi < 12 → (!(valV (kv_SPANS.map fun q => (q.1, q.2.v K)) (Sum.inr (whN wi))).isSome) = decide (5 ≤ wi) := fun wi h =>
  match wi, h with
  | 0, _ => rfl
  | 1, _ => rfl
  | 2, _ => rfl
  | 3, _ => rfl
  | 4, _ => rfl
  | 5, _ => rfl
  | 6, _ => rfl
  | 7, _ => rfl
  | 8, _ => rfl
  | 9, _ => rfl
  | 10, _ => rfl
  | 11, _ => rfl
theorem ok_checked {f : Addr} (T : Txt P w K mg) (F : Stands K "checked_when" "checked_when" s_checked_when [] f) : Callable P w K mg base 1 f ["when"] [] spChecked := by
  refine F.call0 sc_checked_when (fun vs H Q E h => ?_) (fun cdv A outer s0 H vs Q E hr h => ?_) (fun _ _ _ _ _ _ us hl => match us, hl with | [_], _ => rfl)
  · obtain ⟨z, wi, rfl, _⟩ := h; rfl
  obtain ⟨z, wi, rfl, ⟨hw, hl, hok, hup⟩, hQ⟩ := h
  refine ⟨_, (pss_cons (ps_set (i := 1) sc_checked_when.nd rfl (by first | exact Or.inl rfl | exact Or.inr rfl) (pe_and (pe_callB call_isi (by rfl) T.b_isinstance (by decide +kernel) (pa_cons (pv 0) (pa_cons (pe_bltn (v := .ty "str") (u := .type "str") (by rfl) T.b_str (by decide +kernel) rfl) pa_nil))) (pe_one (pe_callB (cr_all rfl) (by rfl) T.b_all (by decide +kernel) (pa_cons (pe_lc (own := [("sign", 2)]) (by rfl) sc_checked_when.nd (pi_str (pv 0)) (blkOk_by (own := [("sign", 2)]) (N := nm_checked_when) (sc := defScope s_checked_when) (by decide +kernel)) (fun _ _ _ _ _ => (pg_name (i := 2) sc_checked_when.nd rfl (by first | exact Or.inl rfl | exact Or.inr rfl))) (fun _ _ _ _ _ => pts_nil) (fun _ _ _ _ _ => (pe_cmpR op_inS (pv 2) (pe_op op_add_str (pe_gs (by rfl) T.g_LETTERS) (pe_gs (by rfl) T.g_DIGITS)) (by rfl)))) pa_nil)))))
      (pss_cons (ps_set (i := 3) sc_checked_when.nd rfl (by first | exact Or.inl rfl | exact Or.inr rfl) (pe_ifExp (pt_val (pv 1)) (pe_upper (pv 0)) pe_str))
      (pss_cons (ps_if (PW.pt (pw_and (pt_cmpR (RT.op_notInKD T.t_SPANS) (pv 3) (pe_glob (v := .ref _) (by rfl) T.g_SPANS rfl) (by rfl)) (pw_and1 (pt_cmpR op_notIn_seq (pv 3) (pe_glob (v := .ref _) (by rfl) T.g_WEEKDAYS rfl) (by rfl))))) (pss_one ps_never) pss_nil)
      (pss_one (ps_ret (pv 3)))))), ?_⟩
  walk_at "in"
  refine seq_of (fun σ' H' => Same H H' ∧ σ' = [some (.str z), some (.bl true), none, none]) (fun b' kb => ?_) (fun σ' H1 hm => ?_)
  · walk_at "go"
    intro D fD
    refine lc_it (walk_str (z := z)) (fun i H' => Same H H' ∧ H' D = some (.lst ((List.replicate i true).map V.bl))) ⟨same_new fD _, upd_same⟩ (fun i H' _ h => trivial) (fun i v HA HB hi hP hv => ?_) (fun HA hP => ?_)
    · obtain ⟨sA, hD⟩ := hP
      obtain ⟨rfl, c, hc, rfl⟩ := hv
      have hc2 : z.cps.toList[i]? = some c := by rw [Array.getElem?_toList]; exact hc
      have lan : ((List.replicate i true).map V.bl).length < PySem.sizeLine := by
        rw [List.length_map, List.length_replicate, sizeLine_eq]
        have : i < z.cps.size := hi
        have : z.cps.size ≤ 100 := hl
        omega
      have e0 : decide (c ∈ (Str.cps (("abcdefghijklmnopqrstuvwxyzABCDEFGHIJKLMNOPQRSTUVWXYZ" : Str) ++ ("0123456789" : Str))).toList) = true := decide_eq_true (hok c (List.mem_of_getElem? hc2))
      have ll : (Str.length "abcdefghijklmnopqrstuvwxyzABCDEFGHIJKLMNOPQRSTUVWXYZ") + Str.length "0123456789" ≤ sizeLine := by decide
      walk_at "go"
      rw [upd_same, e0, List.replicate_succ', List.map_append]
      rfl
    · obtain ⟨sA, hD⟩ := hP
      refine ⟨D, _, rfl, SqL.of hD, ?_⟩
      have ea : (List.replicate z.cps.size true).all id = true := by simp
      rw [ea]
      exact kb _ _ ⟨sA, rfl⟩
  obtain ⟨s1, rfl⟩ := hm
  walk_at "go"
  refine ⟨⟨_, rfl⟩, z, rfl, rfl, by omega, ?_⟩
  rw [hup]
  have e1 := in_spans K wi hw
  by_cases c5 : 5 ≤ wi
  · rw [decide_eq_true c5] at e1
    have e2 := not_week wi hw c5
    walk_at "go"
    refine ⟨.inr (T.kt_WEEKDAYS _), rfl, rfl, ?_⟩
    refine ⟨_, rfl, iteF' e2 ?_⟩
    walk_at "go"
    exact hQ _ s1
  · rw [decide_eq_false c5] at e1
    walk_at "go"
    exact hQ _ s1
end
end K17

set_option Elab.async false
set_option linter.all false
set_option maxRecDepth 100000
set_option maxHeartbeats 0

namespace K17
open PySem PySem.Spec PyProof.Rows L2 RC
section
variable {P : Program} {w : World} {K : PySem.W.Frag} {mg : Str → Option Value} {base : Heap}
/-! ### the clock -/
def spNow (K : PySem.W.Frag) : Sp := fun vs H Q _ => ∃ (s : FS) (ad : Ro → Addr), vs = [.ref (ad .y)] ∧ YR K s ad H ∧ Q (.int s.now) H
theorem ok_now {f : Addr} (T : Txt P w K mg) (F : Stands K "now" "Yard.now" s_Yard_now [] f) : Callable P w K mg base 1 f ["self"] [] (spNow K) := by
  refine F.call0 sc_Yard_now (fun vs H Q E h => ?_) (fun cdv A outer s0 H vs Q E hr h => ?_) (fun _ _ _ _ _ _ us hl => match us, hl with | [_], _ => rfl)
  · obtain ⟨s, ad, rfl, _⟩ := h; rfl
  obtain ⟨s, ad, rfl, R, hQ⟩ := h
  refine ⟨_, (pss_one (ps_ret (pe_fld (pv 0) rfl))), ?_⟩
  walk_at "in"
  have hy := R.y_
  walk_at "go"
  exact hQ
theorem ym_same {s : FS} {ad : Ro → Addr} {H H' : Hp} (sm : Same H H') : YM K s ad H s ad H' := ⟨fun b o _ e => sm b o e, fun r u e => .inl ⟨r, u, e, rfl⟩⟩
end
end K17

set_option Elab.async false
set_option linter.all false
set_option maxRecDepth 100000
set_option maxHeartbeats 0

namespace K17
open PySem PySem.Spec PyProof.Rows L2 RC
section
variable {P : Program} {w : World} {K : PySem.W.Frag} {mg : Str → Option Value} {base : Heap}
/-! ### the init of a handler that rolls by time -/
open DT
theorem mkf_hs (s : FS) (p : Addr) (fn : Str) (w dl : Bool) : (s.mkf p fn w dl).hs = s.hs ++ [{ hd0 fn w dl with op := !dl }] ∧ (s.mkf p fn w dl).fr = s.fr ∧ (s.mkf p fn w dl).now = s.now ∧ (s.mkf p fn w dl).files = (if dl = true then s else s.opn fn w).files := by
  unfold FS.mkf
  cases dl with
  | true => exact ⟨rfl, rfl, rfl, rfl⟩
  | false =>
    rw [if_neg (fun z => nomatch z), if_neg (fun z => nomatch z)]
    refine ⟨?_, ?_, ?_, ?_⟩
    · show ((s.mk1 p _).opn fn w).hs.set s.hs.length _ = _
      rw [opn_hs]
      show (s.hs ++ [_]).set s.hs.length _ = _
      rw [List.set_append_right _ _ (Nat.le_refl _), Nat.sub_self]; rfl
    · show ((s.mk1 p _).opn fn w).fr = _
      rw [opn_fr]; rfl
    · show ((s.mk1 p _).opn fn w).now = _
      unfold FS.opn; split <;> rfl
    · show ((s.mk1 p _).opn fn w).files = (s.opn fn w).files
      unfold FS.opn
      show (if (w || (s.files.lookup fn).isNone) = true then _ else _ : FS).files = _
      split <;> rfl
def spFTime (K : PySem.W.Frag) : Sp := fun vs H Q _ => ∃ (s : FS) (ad : Ro → Addr) (k t : Str), vs = [.ref (ad .y), .str k] ∧ YR K s ad H ∧ s.files.lookup k = some t ∧ Q (.int (s.tim k)) H
theorem ok_ftime {f : Addr} (T : Txt P w K mg) (F : Stands K "file_time" "Yard.file_time" s_Yard_file_time [] f) : Callable P w K mg base 1 f ["self", "name"] [] (spFTime K) := by
  refine F.call0 sc_Yard_file_time (fun vs H Q E h => ?_) (fun cdv A outer s0 H vs Q E hr h => ?_) (fun _ _ _ _ _ _ us hl => match us, hl with | [_, _], _ => rfl)
  · obtain ⟨s, ad, k, t, rfl, _⟩ := h; rfl
  obtain ⟨s, ad, k, t, rfl, R, e, hQ⟩ := h
  refine ⟨_, (pss_one (ps_ret (pe_ix ix_list (pe_dget (hu_of hr) (pe_fld (pv 0) rfl) (pv 1) (fun _ _ => rfl)) pe_int (fun _ _ => rfl)))), ?_⟩
  walk_at "in"
  have hy := R.y_
  have hf := R.fi_
  have hrow := R.row_ e
  have hv : valV (filK s.files ad) (Sum.inr k) = some (.ref (ad (.row k))) := by rw [valV_filK, e]; rfl
  have g := RW.dget_s hf hv
  walk_at "go"
  exact hQ
/-- the time that counts when a handler is made -/
def FS.beg (s : FS) (fn : Str) : Int := if (s.files.lookup fn).isSome = true then s.tim fn else s.now
abbrev hdT (s : FS) (fn : Str) (wi : Nat) (iv : Int) (bk : Nat) (dl : Bool) : Hd := { hd0 fn false dl with op := !dl, tl := some ⟨wi, iv, bk, TL.next ⟨wi, iv, bk, 0⟩ (s.beg fn / 1000)⟩ }
def FS.mkT (s : FS) (p : Addr) (fn : Str) (wi : Nat) (iv : Int) (bk : Nat) (dl : Bool) : FS := (s.mkf p fn false dl).setD s.hs.length (hdT s fn wi iv bk dl)
def spTimInit (K : PySem.W.Frag) : Sp := fun vs H Q _ => ∃ (s : FS) (ad : Ro → Addr) (p dx : Addr) (fn z : Str) (wi : Nat) (iv : Int) (bk : Nat) (dl : Bool) (H0 : Hp), vs = [.ref p, .ref (ad .y), .str fn, .str z, .int iv, .int (bk : Int), .bl dl] ∧ Word z wi ∧ 0 ≤ iv ∧ iv ≤ 100000 ∧ YR K s ad H0 ∧ H0 p = none ∧ H0 dx = none ∧ p ≠ dx ∧ H = upd (upd H0 dx (.own p)) p (.ins (CRo K) dx []) ∧ s.md.length ≤ 1000 ∧ s.files.length ≤ 900 ∧
  (∀ ad' H' s', YR K s' ad' H' → YM K s ad H0 s' ad' H' → ad' (.h s.hs.length) = p → (∀ i, i < s.hs.length → ad' (.h i) = ad (.h i)) → ad' .y = ad .y → s' = s.mkT p fn wi iv bk dl → Q .non H')
theorem split_new {H0 H' : Hp} {p dx : Addr} {o1 o2 : HO} (hp : H0 p = none) (hd : H0 dx = none) (ne : p ≠ dx) (e : Same (upd (upd H0 dx o1) p o2) H') : ∃ G, Same H0 G ∧ G p = none ∧ G dx = none ∧ H' = upd (upd G dx o1) p o2 := by
  have x1 : H' p = some o2 := e _ _ upd_same
  have x2 : H' dx = some o1 := e _ _ (by rw [upd_ne (Ne.symm ne)]; exact upd_same)
  refine ⟨fun b => if b = p ∨ b = dx then none else H' b, fun b o hb => ?_, if_pos (.inl rfl), if_pos (.inr rfl), ?_⟩
  · have n1 : b ≠ p := fun z => by rw [z, hp] at hb; cases hb
    have n2 : b ≠ dx := fun z => by rw [z, hd] at hb; cases hb
    show (if b = p ∨ b = dx then none else H' b) = some o
    rw [if_neg (by simp [n1, n2])]
    exact e _ _ (by rw [upd_ne n1, upd_ne n2]; exact hb)
  · funext b
    by_cases c : b = p
    · rw [c, upd_same]; exact x1
    · rw [upd_ne c]
      by_cases d : b = dx
      · rw [d, upd_same]; exact x2
      · rw [upd_ne d]
        show _ = if b = p ∨ b = dx then none else H' b
        rw [if_neg (by simp [c, d])]
theorem tim_body (T : Txt P w K mg) {f : Addr} {cdv : Value} {A : Around} {outer : List Env} {st0 : Shared} {E : XK} {vs : List V} {H : Hp} {Q : VK} (hr : Room 4 (A.deeper (envOfC "TimedRotatingFileHandler.__init__" (defScope s_TimedRotatingFileHandler_init) st0.heap.objs.size f cdv))) (h : spTimInit K vs H Q E)
    (c_FileHandler_init : Callable P w K mg base 4 (He.ma K (He.ga K "FileHandler") "__init__") ["self", "yard", "filename", "mode", "delay"] [] (spFileInit K)) (c_checked_when : Callable P w K mg base 1 (He.ga K "checked_when") ["when"] [] spChecked)
    (c_Yard_has_file : Callable P w K mg base 1 (He.ma K (He.ga K "Yard") "has_file") ["self", "name"] [] (spHas K)) (c_Yard_file_time : Callable P w K mg base 1 (He.ma K (He.ga K "Yard") "file_time") ["self", "name"] [] (spFTime K)) (c_Yard_now : Callable P w K mg base 1 (He.ma K (He.ga K "Yard") "now") ["self"] [] (spNow K))
    (c_TimedRotatingFileHandler_next_of : Callable P w K mg base 2 (He.ma K (He.ga K "TimedRotatingFileHandler") "next_of") ["self", "seconds"] [] (spNext K)) :
    ∃ t, PSs (cxOf CX0 P w K mg base nm_TimedRotatingFileHandler_init "TimedRotatingFileHandler.__init__" (defScope s_TimedRotatingFileHandler_init) f cdv A outer st0 H E).nox (defBody s_TimedRotatingFileHandler_init) t ∧ t { nx := fun _ H' => Q .non H', rt := Q } (start nm_TimedRotatingFileHandler_init vs) H := by
  obtain ⟨s, ad, p, dx, fn, z, wi, iv, bk, dl, H0, rfl, hz, iv0, iv1, R, hp0, hd0', npd, eH, hml, hfl, hQ⟩ := h
  generalize e1 : spFileInit K = S1 at c_FileHandler_init
  generalize e2 : spChecked = S2 at c_checked_when
  generalize e3 : spFTime K = S3 at c_Yard_file_time
  generalize e4 : spNext K = S4 at c_TimedRotatingFileHandler_next_of
  have hw := hz.lt
  refine ⟨_, (pss_cons (ps_set (i := 7) sc_TimedRotatingFileHandler_init.nd rfl (by first | exact Or.inl rfl | exact Or.inr rfl) (pe_fn T.g_checked_when c_checked_when (hr.mono (by first | decide | exact Nat.le_refl _)) (by rfl) (pa_cons (pv 3) pa_nil)))
      (pss_cons (ps_set (i := 8) sc_TimedRotatingFileHandler_init.nd rfl (by first | exact Or.inl rfl | exact Or.inr rfl) (pe_ifExp (pt_val (pe_mt T.c_Yard T.m_Yard_has_file c_Yard_has_file (hr.mono (by first | decide | exact Nat.le_refl _)) (pv 1) (pa_cons (pv 2) pa_nil))) (pe_mt T.c_Yard T.m_Yard_file_time c_Yard_file_time (hr.mono (by first | decide | exact Nat.le_refl _)) (pv 1) (pa_cons (pv 2) pa_nil)) (pe_mt0 T.c_Yard T.m_Yard_now c_Yard_now (hr.mono (by first | decide | exact Nat.le_refl _)) (pv 1))))
      (pss_cons (ps_expr (pe_cf T.cf_FileHandler_init c_FileHandler_init (hr.mono (by first | decide | exact Nat.le_refl _)) (pe_glob (v := .ref _) (by rfl) T.g_FileHandler rfl) (pa_cons (pv 0) (pa_cons (pv 1) (pa_cons (pv 2) (pa_cons pe_str (pa_cons (pv 6) pa_nil)))))))
      (pss_cons (ps_fld (pv 0) (pv 7) rfl)
      (pss_cons (ps_fld (pv 0) (pv 4) rfl)
      (pss_cons (ps_fld (pv 0) (pv 5) rfl)
      (pss_one (ps_fld (pv 0) (pe_mt T.c_TimedRotatingFileHandler T.m_TimedRotatingFileHandler_next_of c_TimedRotatingFileHandler_next_of (hr.mono (by first | decide | exact Nat.le_refl _)) (pv 0) (pa_cons (pe_op op_fdiv (pv 8) pe_int) pa_nil)) rfl)))))))), ?_⟩
  walk_at "in"
  refine seq_of (fun σ' H1 => ∃ G, Same H0 G ∧ G p = none ∧ G dx = none ∧ H1 = upd (upd G dx (.own p)) p (.ins (CRo K) dx []) ∧ σ' = (L2.start nm_TimedRotatingFileHandler_init [.ref p, .ref (ad .y), .str fn, .str z, .int iv, .int (bk : Int), .bl dl]).set 7 (some (.str (whN wi)))) (fun b' kb => ?_) (fun σ' H1 hm => ?_)
  · walk_at "go"
    refine (?_ : S2 [V.str z] H _ E0)
    rw [← e2]
    refine ⟨z, wi, rfl, hz, fun H1 s1 => ?_⟩
    rw [eH] at s1
    obtain ⟨G, g1, g2, g3, g4⟩ := split_new hp0 hd0' npd s1
    exact kb _ _ ⟨G, g1, g2, g3, g4, rfl⟩
  obtain ⟨G, sG, gp, gd, eH1, rfl⟩ := hm
  have RG := R.same sG
  have sG1 : Same G H1 := by
    rw [eH1]
    exact (same_new gd _).trans (same_new (by rw [upd_ne npd]; exact gp) _)
  have R1 := RG.same sG1
  have hy1 := R1.y_
  refine seq_of (fun σ' H' => H' = H1 ∧ σ' = ((L2.start nm_TimedRotatingFileHandler_init [.ref p, .ref (ad .y), .str fn, .str z, .int iv, .int (bk : Int), .bl dl]).set 7 (some (.str (whN wi)))).set 8 (some (.int (s.beg fn)))) (fun b' kb => ?_) (fun σ' H' hm => ?_)
  · unfold FS.beg at kb
    walk_at "go"
    cases e : s.files.lookup fn with
    | none =>
      rw [e] at kb
      refine iteF' rfl ?_
      walk_at "go"
      exact kb _ _ ⟨rfl, rfl⟩
    | some u =>
      rw [e] at kb
      refine iteT' rfl ?_
      walk_at "go"
      refine (?_ : S3 [V.ref (ad .y), V.str fn] H1 _ E0)
      rw [← e3]
      refine ⟨s, ad, fn, u, rfl, R1, e, ?_⟩
      exact kb _ _ ⟨rfl, rfl⟩
  obtain ⟨rfl, rfl⟩ := hm
  refine seq_of (fun σ' H2 => ∃ ad', YR K (s.mkf p fn false dl) ad' H2 ∧ YM K s ad H0 (s.mkf p fn false dl) ad' H2 ∧ ad' (.h s.hs.length) = p ∧ (∀ i, i < s.hs.length → ad' (.h i) = ad (.h i)) ∧ ad' .y = ad .y ∧ σ' = ((L2.start nm_TimedRotatingFileHandler_init [.ref p, .ref (ad .y), .str fn, .str z, .int iv, .int (bk : Int), .bl dl]).set 7 (some (.str (whN wi)))).set 8 (some (.int (s.beg fn)))) (fun b' kb => ?_) (fun σ' H2 hm => ?_)
  · walk_at "go"
    refine (?_ : S1 [V.ref p, V.ref (ad .y), V.str fn, V.str "a", V.bl dl] H' _ E0)
    rw [← e1]
    refine ⟨s, ad, p, dx, fn, false, dl, G, rfl, RG, gp, gd, npd, eH1, hml, hfl, fun ad' H2 s' R' M' a1 a2 a3 e => ?_⟩
    subst e
    exact kb _ _ ⟨ad', R', (ym_same (s := s) (ad := ad) sG).trans M', a1, a2, a3, rfl⟩
  obtain ⟨ad1, R2, M2, x1, x2, x3, rfl⟩ := hm
  have hd1 : (s.mkf p fn false dl).hs[s.hs.length]? = some { hd0 fn false dl with op := !dl } := by
    rw [(mkf_hs s p fn false dl).1, List.getElem?_append_right (Nat.le_refl _), Nat.sub_self]; rfl
  have ha := R2.h_ hd1
  obtain ⟨R3, M3⟩ := R2.setD hd1 (hdT s fn wi iv bk dl)
  have hQ1 := hQ ad1 _ _ R3 (M2.trans M3) x1 x2 x3 rfl
  rw [x1] at ha hQ1
  clear hy1 R1
  walk_at "go"
  refine ⟨⟨by decide, by decide⟩, ?_⟩
  refine (?_ : S4 [V.ref p, V.int (s.beg fn / 1000)] _ _ E0)
  rw [← e4]
  refine ⟨p, _, _, ⟨wi, iv, bk, 0⟩, _, rfl, upd_same, rfl, rfl, rfl, ⟨hw, iv0, iv1⟩, ?_⟩
  walk_at "go"
  simp only [upd_upd]
  exact hQ1
theorem tim_len : ∀ vs H Q E, spTimInit K vs H Q E → vs.length = 7 := fun vs H Q E h => by
  obtain ⟨s, ad, p, dx, fn, z, wi, iv, bk, dl, H0, rfl, _⟩ := h; rfl
section
variable {f : Addr} (T : Txt P w K mg) (F : Stands K "__init__" "TimedRotatingFileHandler.__init__" s_TimedRotatingFileHandler_init [.str "H", .int 1, .int 0, .bl false] f) (c_FileHandler_init : Callable P w K mg base 4 (He.ma K (He.ga K "FileHandler") "__init__") ["self", "yard", "filename", "mode", "delay"] [] (spFileInit K)) (c_checked_when : Callable P w K mg base 1 (He.ga K "checked_when") ["when"] [] spChecked)
    (c_Yard_has_file : Callable P w K mg base 1 (He.ma K (He.ga K "Yard") "has_file") ["self", "name"] [] (spHas K)) (c_Yard_file_time : Callable P w K mg base 1 (He.ma K (He.ga K "Yard") "file_time") ["self", "name"] [] (spFTime K)) (c_Yard_now : Callable P w K mg base 1 (He.ma K (He.ga K "Yard") "now") ["self"] [] (spNow K))
    (c_TimedRotatingFileHandler_next_of : Callable P w K mg base 2 (He.ma K (He.ga K "TimedRotatingFileHandler") "next_of") ["self", "seconds"] [] (spNext K))
include T F c_FileHandler_init c_checked_when c_Yard_has_file c_Yard_file_time c_Yard_now c_TimedRotatingFileHandler_next_of
theorem ok_tim_init : Callable P w K mg base 5 f ["self", "yard", "filename", "when", "interval", "backupCount", "delay"] [] (spTimInit K) :=
  F.call sc_TimedRotatingFileHandler_init 7 4 tim_len (fun cdv A outer s H vs Q E hr h => tim_body T hr h c_FileHandler_init c_checked_when c_Yard_has_file c_Yard_file_time c_Yard_now c_TimedRotatingFileHandler_next_of) (fun z => nomatch z) fun _ => ⟨rfl, fun _ _ _ _ _ _ _ us its hl hi => match us, hl, its, hi with | [_, _, _, _, _, _, _], _, [_, _, _, _], _ => ⟨_, rfl, rfl⟩⟩
theorem ok_tim_init4 : Callable P w K mg base 5 f ["self", "yard", "filename", "when", "interval", "backupCount", "delay"] [.str "H", .int 1, .int 0, .bl false] (spTimInit K) :=
  F.call sc_TimedRotatingFileHandler_init 3 0 tim_len (fun cdv A outer s H vs Q E hr h => tim_body T hr h c_FileHandler_init c_checked_when c_Yard_has_file c_Yard_file_time c_Yard_now c_TimedRotatingFileHandler_next_of) (fun z => nomatch z) fun _ => ⟨rfl, fun _ _ _ _ _ _ _ us its hl hi => match us, hl, its, hi with | [_, _, _], _, [_, _, _, _], _ => ⟨_, rfl, rfl⟩⟩
end
end
end K17

set_option Elab.async false
set_option linter.all false
set_option maxRecDepth 100000
set_option maxHeartbeats 4000000
/-! A world: a stream of draws and several models apart from one another; what is done at one leaves the others. -/
namespace RS
open PySem PySem.Spec PyProof.Rows L2 RC RR
structure Comp where
  R : Type
  M : R → Option HO
  ad : R → Addr
def cell (p : Addr) (o : HO) : Comp := ⟨Unit, fun _ => some o, fun _ => p⟩
abbrev Comp.rep (c : Comp) (H : Hp) : Prop := Rep c.M c.ad H
abbrev Comp.out (c : Comp) (b : Addr) : Prop := Out c.M c.ad b
abbrev Comp.dj (a b : Comp) : Prop := Dj a.M a.ad b.M b.ad
abbrev CMv (c : Comp) (H : Hp) (c' : Comp) (H' : Hp) : Prop := Mv c.M c.ad H c'.M c'.ad H'
structure Wd (H : Hp) (s l : Addr) (n : Nat) (cs : List Comp) : Prop where
  stm : Stm H s l n
  rep : ∀ c ∈ cs, c.rep H
  pw : cs.Pairwise Comp.dj
  os : ∀ c ∈ cs, c.out s ∧ c.out l
section
variable {H H' : Hp} {s l p b : Addr} {n k : Nat} {cs ds : List Comp} {c c' d e f g : Comp} {o o' : HO}
theorem Wd.same (W : Wd H s l n cs) (e : Same H H') : Wd H' s l n cs := ⟨W.stm.same e, fun c h => (W.rep c h).same e, W.pw, W.os⟩
theorem Wd.old (W : Wd H s l n cs) (e : Old s l H H') (st : Stm H' s l k) : Wd H' s l k cs := ⟨st, fun c h => (W.rep c h).old e (W.os c h).1 (W.os c h).2, W.pw, W.os⟩
theorem Wd.mono (W : Wd H s l n cs) (h : n ≤ k) : Wd H s l k cs := ⟨W.stm.mono h, W.rep, W.pw, W.os⟩
theorem Wd.perm (W : Wd H s l n cs) (h : ds.Perm cs) : Wd H s l n ds :=
  ⟨W.stm, fun c hc => W.rep c (h.mem_iff.mp hc), (h.pairwise_iff (fun {a b} hab => Dj.symm hab)).mpr W.pw, fun c hc => W.os c (h.mem_iff.mp hc)⟩
theorem Wd.hd (W : Wd H s l n (c :: cs)) : c.rep H := W.rep c List.mem_cons_self
theorem Wd.tl (W : Wd H s l n (c :: cs)) : Wd H s l n cs := ⟨W.stm, fun d h => W.rep d (List.mem_cons_of_mem _ h), (List.pairwise_cons.mp W.pw).2, fun d h => W.os d (List.mem_cons_of_mem _ h)⟩
theorem Wd.mv (W : Wd H s l n (c :: cs)) (R : c'.rep H') (m : CMv c H c' H') : Wd H' s l n (c' :: cs) := by
  have hp := List.pairwise_cons.mp W.pw
  have hs := W.os c List.mem_cons_self
  obtain ⟨ne, ns, x, cc, dd, g1, g2, g3⟩ := id W.stm
  refine ⟨Stm.mv W.stm m hs.1 hs.2, fun d hd => ?_, List.pairwise_cons.mpr ⟨fun d hd => ?_, hp.2⟩, fun d hd => ?_⟩
  · rcases List.mem_cons.mp hd with rfl | hd
    · exact R
    · exact m.rep (hp.1 d hd) (W.rep d (List.mem_cons_of_mem _ hd))
  · exact m.dj (hp.1 d hd) (W.rep d (List.mem_cons_of_mem _ hd))
  · rcases List.mem_cons.mp hd with rfl | hd
    · exact ⟨m.out hs.1 g1, m.out hs.2 g2⟩
    · exact W.os d (List.mem_cons_of_mem _ hd)
theorem cell_rep (h : H p = some o) : (cell p o).rep H := ⟨fun _ u e => by cases e; exact h, fun _ _ _ _ _ _ _ => rfl⟩
theorem cell_out (h : b ≠ p) : (cell p o).out b := fun _ _ _ z => h z.symm
theorem Wd.new (W : Wd H s l n cs) (hp : H p = none) : Wd (upd H p o) s l n (cell p o :: cs) := by
  have W' := W.same (same_new hp o)
  obtain ⟨ne, ns, x, cc, dd, g1, g2, g3⟩ := W.stm
  refine ⟨W'.stm, fun d hd => ?_, List.pairwise_cons.mpr ⟨fun d hd => ?_, W'.pw⟩, fun d hd => ?_⟩
  · rcases List.mem_cons.mp hd with rfl | hd
    · exact cell_rep upd_same
    · exact W'.rep d hd
  · intro r u er _ _ _ z
    have z : p = d.ad r := z
    exact (W.rep d hd).out hp r u er z.symm
  · rcases List.mem_cons.mp hd with rfl | hd
    · exact ⟨cell_out (fun z => (by rw [← z, g1] at hp; cases hp)), cell_out (fun z => (by rw [← z, g2] at hp; cases hp))⟩
    · exact W'.os d hd
/-- what was laid since -/
theorem Wd.fresh (W : Wd H s l n cs) (e : Same H H') (hp : H p = none) (h : H' p = some o) : Wd H' s l n (cell p o :: cs) := by
  have W' := W.same e
  obtain ⟨ne, ns, x, cc, dd, g1, g2, g3⟩ := W.stm
  refine ⟨W'.stm, fun d hd => ?_, List.pairwise_cons.mpr ⟨fun d hd => ?_, W'.pw⟩, fun d hd => ?_⟩
  · rcases List.mem_cons.mp hd with rfl | hd
    · exact cell_rep h
    · exact W'.rep d hd
  · intro r u er _ _ _ z
    have z : p = d.ad r := z
    exact (W.rep d hd).out hp r u er z.symm
  · rcases List.mem_cons.mp hd with rfl | hd
    · exact ⟨cell_out (fun z => (by rw [← z, g1] at hp; cases hp)), cell_out (fun z => (by rw [← z, g2] at hp; cases hp))⟩
    · exact W'.os d hd
/-- a model was laid since, at places that were free -/
theorem Wd.add (W : Wd H s l n cs) (e : Same H H') (R : c.rep H') (hf : ∀ r u, c.M r = some u → H (c.ad r) = none) : Wd H' s l n (c :: cs) := by
  have W' := W.same e
  obtain ⟨ne, ns, x, cc, dd, g1, g2, g3⟩ := W.stm
  refine ⟨W'.stm, fun d hd => ?_, List.pairwise_cons.mpr ⟨fun d hd => ?_, W'.pw⟩, fun d hd => ?_⟩
  · rcases List.mem_cons.mp hd with rfl | hd
    · exact R
    · exact W'.rep d hd
  · intro r u er r' u' er' z
    have h := (W.rep d hd).at_ r u er
    rw [← z, hf r' u' er'] at h; cases h
  · rcases List.mem_cons.mp hd with rfl | hd
    · exact ⟨fun r u er z => (by rw [← z, hf r u er] at g1; cases g1), fun r u er z => (by rw [← z, hf r u er] at g2; cases g2)⟩
    · exact W'.os d hd
theorem Wd.c0 (W : Wd H s l n (cell p o :: cs)) : H p = some o := W.hd.at_ () o rfl
theorem cell_mv : CMv (cell p o) H (cell p o') (upd H p o') := ⟨fun b u hb e => (upd_ne (show b ≠ p from fun z => hb () o rfl z.symm)).trans e, fun _ _ _ => .inl ⟨(), _, rfl, rfl⟩⟩
theorem Wd.set (W : Wd H s l n (cell p o :: cs)) : Wd (upd H p o') s l n (cell p o' :: cs) := W.mv (cell_rep upd_same) cell_mv
theorem Wd.up1 (W : Wd H s l n (c :: d :: cs)) : Wd H s l n (d :: c :: cs) := W.perm (.swap _ _ _)
theorem Wd.up2 (W : Wd H s l n (c :: d :: e :: cs)) : Wd H s l n (e :: c :: d :: cs) := W.perm ((List.Perm.swap _ _ _).trans (.cons _ (.swap _ _ _)))
theorem Wd.dn2 (W : Wd H s l n (e :: c :: d :: cs)) : Wd H s l n (c :: d :: e :: cs) := W.perm (((List.Perm.swap _ _ _).trans (.cons _ (.swap _ _ _))).symm)
theorem Wd.up3 (W : Wd H s l n (c :: d :: e :: f :: cs)) : Wd H s l n (f :: c :: d :: e :: cs) := W.perm ((List.Perm.swap _ _ _).trans (.cons _ ((List.Perm.swap _ _ _).trans (.cons _ (.swap _ _ _)))))
theorem Wd.dn3 (W : Wd H s l n (f :: c :: d :: e :: cs)) : Wd H s l n (c :: d :: e :: f :: cs) := W.perm (((List.Perm.swap _ _ _).trans (.cons _ ((List.Perm.swap _ _ _).trans (.cons _ (.swap _ _ _))))).symm)
theorem Wd.up4 (W : Wd H s l n (c :: d :: e :: f :: g :: cs)) : Wd H s l n (g :: c :: d :: e :: f :: cs) := W.perm ((List.Perm.swap _ _ _).trans (.cons _ ((List.Perm.swap _ _ _).trans (.cons _ ((List.Perm.swap _ _ _).trans (.cons _ (.swap _ _ _)))))))
theorem Wd.dn4 (W : Wd H s l n (g :: c :: d :: e :: f :: cs)) : Wd H s l n (c :: d :: e :: f :: g :: cs) := W.perm (((List.Perm.swap _ _ _).trans (.cons _ ((List.Perm.swap _ _ _).trans (.cons _ ((List.Perm.swap _ _ _).trans (.cons _ (.swap _ _ _))))))).symm)
theorem Wd.sw1 (W : Wd H s l n (c :: d :: e :: cs)) : Wd H s l n (c :: e :: d :: cs) := W.perm (.cons _ (.swap _ _ _))
theorem Wd.dj (W : Wd H s l n (c :: d :: cs)) : c.dj d := (List.pairwise_cons.mp W.pw).1 d List.mem_cons_self
theorem Wd.stmNe (W : Wd H s l n (cell p o :: cs)) : p ≠ s ∧ p ≠ l := ⟨fun z => (W.os _ List.mem_cons_self).1 () o rfl z, fun z => (W.os _ List.mem_cons_self).2 () o rfl z⟩
/-- a place outside of a model -/
theorem rep_out {R : Type} {M : R → Option HO} {ad : R → Addr} (h : Rep M ad H) (ho : Out M ad b) : Rep M ad (upd H b o) := ⟨fun r u e => by rw [upd_ne (ho r u e)]; exact h.at_ r u e, h.inj⟩
end
theorem mv_put {R S : Type} {M : R → Option HO} {M' : S → Option HO} {ad : R → Addr} {ad' : S → Addr} {H H' : Hp} {p : Addr} {o : HO} (a : Mv M ad H M' ad' H') (hp : H p = none) : Mv M ad H M' ad' (upd H' p o) :=
  ⟨fun b u hb e => by rw [upd_ne (ne_of_none e hp)]; exact a.keep b u hb e, a.img⟩
/-- a model becomes another one: what is new lies at places that were free -/
theorem rep_extS {R S : Type} {M : R → Option HO} {M' : S → Option HO} {ad : R → Addr} {ad' : S → Addr} {H H' : Hp} (φ : S → R) (φi : ∀ r r', φ r = φ r' → r = r') (N : List S) (h : Rep M ad H) (at' : ∀ r o, M' r = some o → H' (ad' r) = some o)
    (cls : ∀ r o, M' r = some o → ((∃ o', M (φ r) = some o') ∧ ad' r = ad (φ r)) ∨ (r ∈ N ∧ H (ad' r) = none)) (nj : ∀ r ∈ N, ∀ r' ∈ N, ad' r = ad' r' → r = r') (keep : ∀ b o, Out M ad b → H b = some o → H' b = some o) : Rep M' ad' H' ∧ Mv M ad H M' ad' H' := by
  refine ⟨⟨at', fun r r' o o' e e' z => ?_⟩, keep, fun r u e => ?_⟩
  · rcases cls r o e with ⟨⟨u, g⟩, a⟩ | ⟨n, a⟩
    · rcases cls r' o' e' with ⟨⟨u', g'⟩, a'⟩ | ⟨n', a'⟩
      · rw [a, a'] at z; exact φi _ _ (h.inj _ _ _ _ g g' z)
      · rw [← z, a, h.at_ _ _ g] at a'; cases a'
    · rcases cls r' o' e' with ⟨⟨u', g'⟩, a'⟩ | ⟨n', a'⟩
      · rw [z, a', h.at_ _ _ g'] at a; cases a
      · exact nj r n r' n' z
  · rcases cls r u e with ⟨⟨u', g⟩, a⟩ | ⟨n, a⟩
    · exact .inl ⟨φ r, u', g, a.symm⟩
    · exact .inr a
theorem rep_ext {R : Type} {M M' : R → Option HO} {ad ad' : R → Addr} {H H' : Hp} (N : List R) (h : Rep M ad H) (at' : ∀ r o, M' r = some o → H' (ad' r) = some o)
    (cls : ∀ r o, M' r = some o → ((∃ o', M r = some o') ∧ ad' r = ad r) ∨ (r ∈ N ∧ H (ad' r) = none)) (nj : ∀ r ∈ N, ∀ r' ∈ N, ad' r = ad' r' → r = r') (keep : ∀ b o, Out M ad b → H b = some o → H' b = some o) : Rep M' ad' H' ∧ Mv M ad H M' ad' H' :=
  rep_extS id (fun _ _ z => z) N h at' cls nj keep
/-- two models as one -/
def Comp.sum (c d : Comp) : Comp := ⟨Sum c.R d.R, Sum.elim c.M d.M, Sum.elim c.ad d.ad⟩
theorem rep_sum {c d : Comp} {H : Hp} (hc : c.rep H) (hd : d.rep H) (dj : c.dj d) : (c.sum d).rep H := by
  refine ⟨fun r o e => ?_, fun r r' o o' e e' z => ?_⟩
  · cases r with
    | inl r => exact hc.at_ r o e
    | inr r => exact hd.at_ r o e
  · cases r with
    | inl r =>
      cases r' with
      | inl r' => exact congrArg Sum.inl (hc.inj _ _ _ _ e e' z)
      | inr r' => exact absurd z (dj r' o' e' r o e)
    | inr r =>
      cases r' with
      | inl r' => exact absurd z.symm (dj r o e r' o' e')
      | inr r' => exact congrArg Sum.inr (hd.inj _ _ _ _ e e' z)
theorem sum_out {c d : Comp} {b : Addr} (h : c.out b) (k : d.out b) : (c.sum d).out b := fun r u e => by
  cases r with
  | inl r => exact h r u e
  | inr r => exact k r u e
theorem Wd.join {H : Hp} {s l : Addr} {n : Nat} {c d : Comp} {cs : List Comp} (W : Wd H s l n (c :: d :: cs)) : Wd H s l n (c.sum d :: cs) := by
  have h1 := List.pairwise_cons.mp W.pw
  have h2 := List.pairwise_cons.mp h1.2
  refine ⟨W.stm, fun e he => ?_, List.pairwise_cons.mpr ⟨fun e he => ?_, h2.2⟩, fun e he => ?_⟩
  · rcases List.mem_cons.mp he with rfl | he
    · exact rep_sum W.hd W.tl.hd W.dj
    · exact W.rep e (List.mem_cons_of_mem _ (List.mem_cons_of_mem _ he))
  · intro r u er
    exact sum_out (h1.1 e (List.mem_cons_of_mem _ he) r u er) (h2.1 e he r u er)
  · rcases List.mem_cons.mp he with rfl | he
    · have a := W.os c List.mem_cons_self
      have b := W.os d (List.mem_cons_of_mem _ List.mem_cons_self)
      exact ⟨sum_out a.1 b.1, sum_out a.2 b.2⟩
    · exact W.os e (List.mem_cons_of_mem _ (List.mem_cons_of_mem _ he))
/-- a model out of a list of what lies where -/
theorem rep_list {R : Type} {M : R → Option HO} {ad : R → Addr} {H0 H : Hp} (L : List (R × Addr × HO)) (hM : ∀ r o, M r = some o → (r, ad r, o) ∈ L) (nd : (L.map (·.2.1)).Nodup) (hh : ∀ x ∈ L, H0 x.2.1 = none ∧ H x.2.1 = some x.2.2) :
    Rep M ad H ∧ ∀ r u, M r = some u → H0 (ad r) = none := by
  refine ⟨⟨fun r o e => (hh _ (hM r o e)).2, fun r r' o o' e e' z => ?_⟩, fun r u e => (hh _ (hM r u e)).1⟩
  obtain ⟨i, hi⟩ := List.getElem?_of_mem (hM r o e)
  obtain ⟨j, hj⟩ := List.getElem?_of_mem (hM r' o' e')
  have n1 : (L.map (·.2.1))[i]? = some (ad r) := by rw [List.getElem?_map, hi]; rfl
  have n2 : (L.map (·.2.1))[j]? = some (ad r) := by rw [List.getElem?_map, hj, z]; rfl
  have l := (List.getElem?_eq_some_iff.mp n1).1
  have ij := (List.getElem?_inj l nd).mp (n1.trans n2.symm)
  rw [ij, hj] at hi
  exact (congrArg Prod.fst (Option.some.inj hi)).symm
end RS

set_option Elab.async false
set_option linter.all false
set_option maxRecDepth 100000
set_option linter.all false
set_option maxRecDepth 100000
set_option maxHeartbeats 4000000
/-! Worlds of single cells: cells laid, cells set, a model gathered out of cells. -/
namespace RS
open PySem PySem.Spec PyProof.Rows L2 RC RR
section
variable {H H' : Hp} {s l p m q b : Addr} {n k : Nat} {cs xs ys : List Comp} {c : Comp} {o o' o1 o1' o2 : HO}
abbrev cl (x : Addr × HO) : Comp := cell x.1 x.2
theorem cell_dj (h : p ≠ q) : (cell p o).dj (cell q o1) := fun _ _ _ _ _ _ z => h z
theorem Wd.addL (W : Wd H s l n cs) (e : Same H H') : ∀ L : List (Addr × HO), (L.map (·.1)).Nodup → (∀ x ∈ L, H x.1 = none ∧ H' x.1 = some x.2) → Wd H' s l n (L.map cl ++ cs)
  | [], _, _ => W.same e
  | x :: L, nd, h => by
    obtain ⟨n1, n2⟩ := List.nodup_cons.mp nd
    have W' := Wd.addL W e L n2 fun y hy => h y (List.mem_cons_of_mem _ hy)
    obtain ⟨h1, h2⟩ := h x List.mem_cons_self
    obtain ⟨ne, ns, y, cc, dd, g1, g2, g3⟩ := W.stm
    refine ⟨W'.stm, fun d hd => ?_, List.pairwise_cons.mpr ⟨fun d hd => ?_, W'.pw⟩, fun d hd => ?_⟩
    · rcases List.mem_cons.mp hd with rfl | hd
      · exact cell_rep h2
      · exact W'.rep d hd
    · rcases List.mem_append.mp hd with hd | hd
      · obtain ⟨y, hy, rfl⟩ := List.mem_map.mp hd
        exact cell_dj fun z => n1 (by show x.1 ∈ _; rw [z]; exact List.mem_map_of_mem hy)
      · intro r u er _ _ _ z
        have z : x.1 = d.ad r := z
        exact (W.rep d hd).out h1 r u er z.symm
    · rcases List.mem_cons.mp hd with rfl | hd
      · exact ⟨cell_out (fun z => (by rw [← z, g1] at h1; cases h1)), cell_out (fun z => (by rw [← z, g2] at h1; cases h1))⟩
      · exact W'.os d hd
theorem Wd.mid (W : Wd H s l n (xs ++ c :: ys)) : Wd H s l n (c :: (xs ++ ys)) := W.perm List.perm_middle.symm
theorem Wd.unmid (W : Wd H s l n (c :: (xs ++ ys))) : Wd H s l n (xs ++ c :: ys) := W.perm List.perm_middle
theorem Wd.at_ (W : Wd H s l n (xs ++ cell p o :: ys)) : H p = some o := W.mid.c0
theorem Wd.setM (W : Wd H s l n (xs ++ cell p o :: ys)) : Wd (upd H p o') s l n (xs ++ cell p o' :: ys) := Wd.unmid (Wd.set W.mid)
theorem Wd.neM (W : Wd H s l n (cell p o :: (xs ++ cell m o1 :: ys))) : p ≠ m := fun z => by
  have h := (List.pairwise_cons.mp W.pw).1 (cell m o1) (by simp)
  exact h () o1 rfl () o rfl z
/-- a call that writes the cells p and m and lays q -/
theorem Wd.hand (W : Wd H s l n (cell p o :: (xs ++ cell m o1 :: ys))) (kp : ∀ b u, b ≠ p → b ≠ m → H b = some u → H' b = some u) (hq : H q = none) (hp : H' p = some o') (hm : H' m = some o1') (hq' : H' q = some o2) : Wd H' s l n (cell q o2 :: cell p o' :: (xs ++ cell m o1' :: ys)) := by
  have npm : p ≠ m := W.neM
  have W1 : Wd (upd H p o') s l n (cell p o' :: (xs ++ cell m o1 :: ys)) := W.set
  have W2 : Wd (upd (upd H p o') m o1') s l n ((cell p o' :: xs) ++ cell m o1' :: ys) := Wd.setM (xs := cell p o' :: xs) W1
  have hp0 : H p = some o := W.c0
  have hm0 : H m = some o1 := Wd.at_ (xs := cell p o :: xs) W
  have nqp : q ≠ p := fun z => by rw [z, hp0] at hq; cases hq
  have nqm : q ≠ m := fun z => by rw [z, hm0] at hq; cases hq
  refine Wd.fresh W2 (fun b u e => ?_) (by rw [upd_ne nqm, upd_ne nqp]; exact hq) hq'
  by_cases c1 : b = m
  · subst c1; rw [upd_same] at e; cases e; exact hm
  · rw [upd_ne c1] at e
    by_cases c2 : b = p
    · subst c2; rw [upd_same] at e; cases e; exact hp
    · rw [upd_ne c2] at e; exact kp b u c2 c1 e
/-- a model out of cells -/
theorem Wd.gather {R : Type} {M : R → Option HO} {ad : R → Addr} (L : List (R × Addr × HO)) (W : Wd H s l n (L.map (fun x => cell x.2.1 x.2.2) ++ cs)) (hM : ∀ r o, M r = some o → (r, ad r, o) ∈ L) : Wd H s l n (⟨R, M, ad⟩ :: cs) := by
  have mem : ∀ x ∈ L, cell x.2.1 x.2.2 ∈ L.map (fun x => cell x.2.1 x.2.2) ++ cs := fun x hx => List.mem_append_left _ (List.mem_map_of_mem hx)
  have pw := List.pairwise_append.mp W.pw
  have nd : (L.map (·.2.1)).Nodup := by
    have h1 := List.pairwise_map.mp pw.1
    refine List.pairwise_map.mpr (h1.imp fun {a b} h z => ?_)
    exact h () b.2.2 rfl () a.2.2 rfl z
  have hh : ∀ x ∈ L, (fun _ : Addr => (none : Option HO)) x.2.1 = none ∧ H x.2.1 = some x.2.2 := fun x hx => ⟨rfl, (W.rep _ (mem x hx)).at_ () _ rfl⟩
  have rp := (RS.rep_list (H0 := fun _ => none) L hM nd hh).1
  refine ⟨W.stm, fun d hd => ?_, List.pairwise_cons.mpr ⟨fun d hd => ?_, pw.2.1⟩, fun d hd => ?_⟩
  · rcases List.mem_cons.mp hd with rfl | hd
    · exact rp
    · exact W.rep d (List.mem_append_right _ hd)
  · intro r u er r' u' er' z
    exact pw.2.2 _ (List.mem_map_of_mem (hM r' u' er')) d hd r u er () u' rfl z
  · rcases List.mem_cons.mp hd with rfl | hd
    · exact ⟨fun r u er z => (W.os _ (mem _ (hM r u er))).1 () u rfl z, fun r u er z => (W.os _ (mem _ (hM r u er))).2 () u rfl z⟩
    · exact W.os d (List.mem_append_right _ hd)
theorem pw_at {ds : List Comp} (pw : ds.Pairwise Comp.dj) {i j : Nat} {a b : Comp} (hij : i ≠ j) (ha : ds[i]? = some a) (hb : ds[j]? = some b) : a.dj b := by
  obtain ⟨li, rfl⟩ := List.getElem?_eq_some_iff.mp ha
  obtain ⟨lj, rfl⟩ := List.getElem?_eq_some_iff.mp hb
  rcases Nat.lt_or_ge i j with h | h
  · exact List.pairwise_iff_getElem.mp pw i j li lj h
  · exact Dj.symm (List.pairwise_iff_getElem.mp pw j i lj li (by omega))
/-- some of the models, in another order -/
theorem Wd.pickL (is : List Nat) {ds : List Comp} (W : Wd H s l n (ds ++ cs)) (nd : is.Nodup) : Wd H s l n (is.filterMap (fun i => ds[i]?) ++ cs) := by
  have pw := List.pairwise_append.mp W.pw
  have mem : ∀ c ∈ is.filterMap (fun i => ds[i]?), c ∈ ds := fun c hc => by
    obtain ⟨i, _, hi⟩ := List.mem_filterMap.mp hc
    exact List.mem_of_getElem? hi
  have mm : ∀ c ∈ is.filterMap (fun i => ds[i]?) ++ cs, c ∈ ds ++ cs := fun c hc => by
    rcases List.mem_append.mp hc with h | h
    · exact List.mem_append_left _ (mem c h)
    · exact List.mem_append_right _ h
  refine ⟨W.stm, fun c hc => W.rep c (mm c hc), List.pairwise_append.mpr ⟨?_, pw.2.1, fun a ha b hb => pw.2.2 a (mem a ha) b hb⟩, fun c hc => W.os c (mm c hc)⟩
  refine List.pairwise_filterMap.mpr (nd.imp fun {i j} hij a ha b hb => ?_)
  exact pw_at pw.1 hij ha hb
end
end RS

set_option Elab.async false
set_option linter.all false
set_option maxRecDepth 100000
set_option maxHeartbeats 4000000
/-! What never changes, as one component of a world. -/
namespace RS
open PySem PySem.Spec PyProof.Rows L2 RC RR
def cG (G : Hp) : Comp := ⟨Addr, G, id⟩
section
variable {G H H' : Hp} {s l p : Addr} {n k : Nat} {cs ds : List Comp} {c d : Comp} {o u : HO}
theorem Wd.st (W : Wd H s l n cs) (m : cG G ∈ cs) : Same G H := fun b u e => (W.rep _ m).at_ b u e
theorem Wd.g0 (W : Wd H s l n (cG G :: cs)) : Same G H := W.st List.mem_cons_self
theorem Wd.g1 (W : Wd H s l n (c :: cG G :: cs)) : Same G H := W.st (by simp)
theorem Wd.g2 (W : Wd H s l n (c :: d :: cG G :: cs)) : Same G H := W.st (by simp)
/-- a cell that will not change any more -/
theorem Wd.take (W : Wd H s l n (cG G :: cell p o :: cs)) : Wd H s l n (cG (upd G p o) :: cs) ∧ G p = none := by
  have h1 := List.pairwise_cons.mp W.pw
  have h2 := List.pairwise_cons.mp h1.2
  have key : ∀ (r : Addr) (u : HO), upd G p o r = some u → (r = p ∧ u = o) ∨ (r ≠ p ∧ G r = some u) := fun r u e => by
    by_cases z : r = p
    · subst z; rw [upd_same] at e; exact .inl ⟨rfl, (Option.some.inj e).symm⟩
    · rw [upd_ne z] at e; exact .inr ⟨z, e⟩
  refine ⟨⟨W.stm, fun e he => ?_, List.pairwise_cons.mpr ⟨fun e he => ?_, h2.2⟩, fun e he => ?_⟩, ?_⟩
  · rcases List.mem_cons.mp he with he | he
    · rw [he]
      refine ⟨fun r u e => ?_, fun _ _ _ _ _ _ z => z⟩
      rcases key r u e with ⟨e1, e2⟩ | ⟨_, e⟩
      · rw [e2]
        show H r = _
        rw [e1]; exact W.tl.c0
      · exact W.g0 r u e
    · exact W.rep e (List.mem_cons_of_mem _ (List.mem_cons_of_mem _ he))
  · intro r u er r' u' er' z
    rcases key r' u' er' with ⟨e1, e2⟩ | ⟨_, e'⟩
    · exact h2.1 e he r u er () _ rfl (e1.symm.trans z)
    · exact h1.1 e (List.mem_cons_of_mem _ he) r u er r' u' e' z
  · rcases List.mem_cons.mp he with he | he
    · rw [he]
      have a := W.os _ List.mem_cons_self
      have b := W.os _ (List.mem_cons_of_mem _ List.mem_cons_self)
      refine ⟨fun r u e z => ?_, fun r u e z => ?_⟩
      · rcases key r u e with ⟨e1, e2⟩ | ⟨_, e⟩
        · exact b.1 () _ rfl (e1.symm.trans z)
        · exact a.1 r u e z
      · rcases key r u e with ⟨e1, e2⟩ | ⟨_, e⟩
        · exact b.2 () _ rfl (e1.symm.trans z)
        · exact a.2 r u e z
    · exact W.os e (List.mem_cons_of_mem _ (List.mem_cons_of_mem _ he))
  · cases e : G p with
    | none => rfl
    | some u => exact absurd rfl (h1.1 (cell p o) List.mem_cons_self () o rfl p u e)
/-- a new thing that will not change -/
theorem Wd.lay (W : Wd H s l n (cG G :: cs)) (hp : H p = none) : Wd (upd H p o) s l n (cG (upd G p o) :: cs) ∧ Same G (upd G p o) := by
  have h := (Wd.up1 (W.new (o := o) hp)).take
  exact ⟨h.1, RC.same_new h.2 o⟩
/-- .. what was laid since -/
theorem Wd.layS (W : Wd H s l n (cG G :: cs)) (e : Same H H') (hp : H p = none) (h : H' p = some o) : Wd H' s l n (cG (upd G p o) :: cs) ∧ Same G (upd G p o) := by
  have h := (Wd.up1 (W.fresh e hp h)).take
  exact ⟨h.1, RC.same_new h.2 o⟩
theorem Wd.g0' (W : Wd H s l n cs) : Wd H s l n (cG (fun _ => none) :: cs) :=
  ⟨W.stm, fun e he => by
    rcases List.mem_cons.mp he with rfl | he
    · exact ⟨fun r u e => (nomatch e), fun _ _ _ _ e => (nomatch e)⟩
    · exact W.rep e he, List.pairwise_cons.mpr ⟨fun e he r u er r' u' er' => (nomatch er'), W.pw⟩, fun e he => by
    rcases List.mem_cons.mp he with rfl | he
    · exact ⟨fun r u e => (nomatch e), fun r u e => (nomatch e)⟩
    · exact W.os e he⟩
end
end RS

set_option Elab.async false
set_option linter.all false
set_option maxRecDepth 100000
set_option maxHeartbeats 4000000
/-! sorted(d.items()) of a dict whose keys and values are texts; d.items() of such a dict. -/
namespace RSi
open PySem PySem.Spec PyProof.Rows L2 RC
/-- a text-to-text dict's rows -/
def rowsK (ts : List (Str × Str)) : List (Key × V) := ts.map fun e => ((Sum.inr e.1 : Key), V.str e.2)
/-- e stands not behind f -/
def Le1 (e f : Str × Str) : Prop := decide (f.1.cps.toList < e.1.cps.toList) = false
theorem str_of_list {x y : Str} (h : x.cps.toList = y.cps.toList) : x = y := by
  obtain ⟨⟨a⟩⟩ := x
  obtain ⟨⟨b⟩⟩ := y
  have h : a = b := h
  rw [h]
/-- one order alone -/
theorem uniq {xs ys ts : List (Str × Str)} (nd : (ts.map (·.1)).Nodup) (p : xs.Perm ts) (q : ys.Perm ts) (sx : xs.Pairwise Le1) (sy : ys.Pairwise Le1) : xs = ys := by
  refine List.Perm.eq_of_pairwise (le := Le1) (fun e f he hf h1 h2 => ?_) sx sy (p.trans q.symm)
  have e1 : e.1 = f.1 := str_of_list (List.le_antisymm (of_decide_eq_false h1) (of_decide_eq_false h2))
  have me := p.mem_iff.mp he
  have mf := q.mem_iff.mp hf
  clear p q sx sy
  induction ts with
  | nil => cases me
  | cons a r ih =>
    obtain ⟨n1, n2⟩ := List.nodup_cons.mp nd
    rcases List.mem_cons.mp me with rfl | ke <;> rcases List.mem_cons.mp mf with rfl | kf
    · rfl
    · have m := List.mem_map_of_mem (f := fun x : Str × Str => x.1) kf
      rw [← e1] at m
      exact absurd m n1
    · have m := List.mem_map_of_mem (f := fun x : Str × Str => x.1) ke
      rw [e1] at m
      exact absurd m n1
    · exact ih n2 ke kf
section
variable {prog : Program} {w : World} {A : Around} {E : Value → Shared → Prop} {s : Shared}
/-- v is a pair of the texts y and z -/
def Pr (h : Heap) (v : Value) (y z : Str) : Prop := ∃ (a : Addr) (t u : Tok) (o : Obj) (n : Nat), v = .ref a ∧ h.get? a = some o ∧ o.cls = .type "tuple" ∧ o.data = .seq #[.str y t, .str z u] n
/-- the first text -/
def ky (h : Heap) (v : Value) : Str := DT.txOf (DT.seqAt0 h (DT.refOf (some v)))
theorem Pr.ky {h : Heap} {v : Value} {y z : Str} (x : Pr h v y z) : ky h v = y := by
  obtain ⟨a, t, u, o, n, rfl, ho, hc, hd⟩ := x
  show DT.txOf (DT.seqAt0 h a) = y
  rw [DT.seqAt0_of (items := #[.str y t, .str z u]) ⟨o, ho, hc, n, hd⟩]
  rfl
theorem Pr.mv {h h2 : Heap} {v : Value} {y z : Str} (x : Pr h v y z) (k : ∀ b o, h.get? b = some o → o.cls = .type "tuple" → h2.get? b = some o) : Pr h2 v y z := by
  obtain ⟨a, t, u, o, n, e, ho, hc, hd⟩ := x
  exact ⟨a, t, u, o, n, e, k _ _ ho hc, hc, hd⟩
/-- the order of the pairs, as the heap h tells their first texts -/
def lt1 (h : Heap) (v u : Value) : Bool := decide ((ky h v).cps.toList < (ky h u).cps.toList)
theorem lt1_swo (h : Heap) : SrtO.Swo (lt1 h) where
  asym := fun x y q => decide_eq_false (List.lt_asymm (of_decide_eq_true q))
  tr := fun x y z q1 q2 => decide_eq_false fun q => (List.le_trans (show (ky h x).cps.toList ≤ (ky h y).cps.toList from of_decide_eq_false q1) (show (ky h y).cps.toList ≤ (ky h z).cps.toList from of_decide_eq_false q2)) q
theorem heads {h : Heap} : ∀ vs : List Value, (∀ v ∈ vs, ∃ y z, Pr h v y z) → ∃ gs : List Value, PySem.W.KatTups h vs gs ∧ gs.length = vs.length ∧ ∀ g ∈ gs, ∃ (y : Str) (t : Tok), g = Value.str y t
  | [], _ => ⟨[], PySem.W.KatTups.nil, rfl, fun g hg => nomatch hg⟩
  | v :: vs, x => by
    obtain ⟨gs, k, hl, hi⟩ := heads vs fun u hu => x u (List.mem_cons_of_mem _ hu)
    obtain ⟨y, z, a, t, u, o, n, rfl, ho, hc, hd⟩ := x v List.mem_cons_self
    refine ⟨.str y t :: gs, PySem.W.KatTups.cons ho hc hd rfl k, by rw [List.length_cons, List.length_cons, hl], fun g hg => ?_⟩
    rcases List.mem_cons.mp hg with rfl | hg
    · exact ⟨y, t, rfl⟩
    · exact hi g hg
theorem cmp1 {h0 : Heap} {vs : List Value} (hp : ∀ v ∈ vs, ∃ y z, Pr s.heap v y z ∧ Pr h0 v y z) (one : ∀ v ∈ vs, ∀ u ∈ vs, ∀ y z z2, Pr s.heap v y z → Pr s.heap u y z2 → z = z2) :
    SrtO.Cmp prog w A s (tuples' true) (fun p => p.1 ∈ vs) (SrtO.lt2 (lt1 h0)) := by
  intro p q hpm hqm
  obtain ⟨y, z, g1, g2⟩ := hp _ hpm
  obtain ⟨y', z', g1', g2'⟩ := hp _ hqm
  have eo : SrtO.lt2 (lt1 h0) p q = decide (y.cps.toList < y'.cps.toList) := by
    show decide ((ky h0 p.1).cps.toList < (ky h0 q.1).cps.toList) = _
    rw [g2.ky, g2'.ky]
  rw [eo]
  have oz := fun e : y = y' => one _ hpm _ hqm y z z' g1 (by rw [e]; exact g1')
  obtain ⟨a, t, u, o, n, e, ho, hc, hd⟩ := g1
  obtain ⟨a', t', u', o', n', e', ho', hc', hd'⟩ := g1'
  rw [e, e']
  refine PySem.W.kat_lt ho hd ho' hd' ?_
  show PySem.W.KatLex prog w A true (decide (2 < 2)) _ [(.str y t, .str y' t'), (.str z u, .str z' u')] 0 s
  refine PySem.W.kat_cons (wpAny_eqBool_str ?_)
  refine PySem.W.kat_go (fun c => ?_) (fun c => ?_)
  · have ey : y = y' := of_decide_eq_true c
    refine PySem.W.kat_yes (PySem.W.kat_cons (wpAny_eqBool_str ?_))
    refine PySem.W.kat_go (fun c2 => ?_) (fun c2 => absurd (oz ey) (of_decide_eq_false c2))
    have e3 : decide (y.cps.toList < y'.cps.toList) = false := by rw [ey]; exact decide_eq_false (List.lt_irrefl _)
    exact PySem.W.kat_yes (PySem.W.kat_nil ⟨rfl, e3.symm⟩)
  · exact PySem.W.kat_no (oneLt_any_str ⟨rfl, rfl⟩)
end
section
variable {X : Cx}
def rItemsK : V → List V → Hp → VK → Prop := fun x xs H Q => ∃ (a : Addr) (kvs : List (Key × V)), x = .ref a ∧ xs = [] ∧ H a = some (.dK kvs) ∧ ∀ p, H p = none → Q (.ref p) (upd H p (L2.DX.itemsO p a))
theorem mt_itemsK : MtR X "dict.items" rItemsK := by
  intro pins s σ H x xs v us Q I rx rxs h
  obtain ⟨a, kvs, rfl, rfl, ha, q⟩ := h
  cases rx
  cases rxs
  obtain ⟨z, lo, ws, rel, o, es, ep, ho, hx, hdat, _⟩ := dk_of I.hok ha
  refine DT.callItems (es := es) (ep := ep) lo ⟨o, ho, hx, hdat⟩ ?_
  have hf : H s.heap.objs.size = none := I.hok.fresh (Nat.le_refl _)
  refine ⟨.ref s.heap.objs.size, upd H s.heap.objs.size (L2.DX.itemsO s.heap.objs.size a), ?_, rfl, q _ hf⟩
  exact I.laid (t' := s.toks) (fun b u e => Heap.get?_push_of_some _ e) (Nat.le_refl _) (L2.DX.itemsO_ok (Heap.get?_push_size _ rfl))
theorem ents : ∀ {ts : List (Str × Str)} {ws : List (Key × Value)} {es : List DictEntry}, KV (rowsK ts) ws → Pairs (mixKind X.prog X.w) es ws → es.length = ts.length ∧ ∀ (j : Nat) (e : DictEntry), es[j]? = some e → ∃ k, ts[j]? = some k ∧ ∃ t u, e.key = .str k.1 t ∧ e.val = .str k.2 u
  | [], _, _, .nil, .nil => ⟨rfl, fun j e h => by cases j <;> cases h⟩
  | k :: ts, _, _, .cons (b := q) r rs, .cons (e := en) h1 h2 hs => by
    obtain ⟨l, g⟩ := ents rs hs
    refine ⟨by rw [List.length_cons, List.length_cons, l], fun j e h => ?_⟩
    cases j with
    | zero =>
      cases h
      obtain ⟨r1, r2⟩ := r
      obtain ⟨u, r2⟩ : ∃ u, q.2 = .str k.2 u := r2
      refine ⟨k, rfl, ?_⟩
      have h1 : keyIs q.1 en.key = true := h1
      rcases keyIs_shape h1 with ⟨i, t, e1, e2⟩ | ⟨x, t, e1, e2⟩
      · rw [← r1] at e1; cases e1
      · rw [← r1] at e1; cases e1
        exact ⟨t, u, e2, h2.trans r2⟩
    | succ j =>
      rw [List.getElem?_cons_succ] at h ⊢
      exact g j e h
def rSortKT : List V → Hp → VK → Prop := fun vs H Q => ∃ (p a : Addr) (ts : List (Str × Str)), vs = [.ref p] ∧ H p = some (L2.DX.itemsO p a) ∧ H a = some (.dK (rowsK ts)) ∧ (ts.map (·.1)).Nodup ∧
  ∀ (H2 : Hp) (l : Addr) (ps : List (Addr × Str × Str)), Same H H2 → (ps.map (·.2)).Perm ts → (ps.map (·.2)).Pairwise Le1 → H2 l = some (.lst (ps.map fun z => V.ref z.1)) → (∀ z ∈ ps, H2 z.1 = some (.tup [.str z.2.1, .str z.2.2])) → Q (.ref l) H2
theorem cr_sortedKT (hc : X.calm = true) : CallR X (.builtin "sorted") rSortKT := by
  intro pins s σ H xs us Q I r h
  obtain ⟨p, a, ts, rfl, hp, ha, nd, q⟩ := h
  obtain rfl := Vals.ref1 r
  have view : s.heap.IsItemsView p a := (show ObjOk X.prog X.w H s.heap p (L2.DX.itemsO p a) from I.hok p _ hp).1
  obtain ⟨z, lo, ws, rel, o, es, ep, ho, hx, hdat, hko, hpr, hn⟩ := dk_of I.hok ha
  obtain ⟨l1, ent⟩ := ents rel hpr
  rw [Array.length_toList] at l1
  have l0 : (rowsK ts).length = ts.length := List.length_map ..
  refine DT.sortedI (es := es) (ep := ep) (I.ok.hd hc) view ⟨o, ho, hx, hdat⟩ (by omega) fun hB tk as hk hlt hl hG => ?_
  have lak : as.length = ts.length := by omega
  have nda : as.Nodup := List.Pairwise.imp (fun h => Nat.ne_of_lt h) hG.rise
  have prs : ∀ (j : Nat) (b : Addr), as[j]? = some b → ∃ (e : Str × Str) (t u : Tok), ts[j]? = some e ∧ hB.get? b = some { cls := .type "tuple", data := .seq #[Value.str e.1 t, Value.str e.2 u] } := by
    intro j b hj
    obtain ⟨en, he, hg⟩ := hG.pairs j b hj
    obtain ⟨k, hkj, t, u, e1, e2⟩ := ent j en (by rw [Array.getElem?_toList]; exact he)
    rw [e1, e2] at hg
    exact ⟨k, t, u, hkj, hg⟩
  have hob : (hB.push { cls := .type "list", data := .seq (as.map Value.ref).toArray }).get? hB.objs.size = some (seqObj "list" (as.map Value.ref).toArray 0) := Heap.get?_push_size _ rfl
  have ne0 : ∀ b o, hB.get? b = some o → b ≠ hB.objs.size := fun b o e => Nat.ne_of_lt (Heap.lt_size e)
  generalize hC : hB.push { cls := .type "list", data := .seq (as.map Value.ref).toArray } = h2 at hob ⊢
  have ka : ∀ b o, hB.get? b = some o → h2.get? b = some o := fun b o e => by rw [← hC]; exact Heap.get?_push_of_some _ e
  have pin : ∀ v ∈ as.map Value.ref, ∃ (j : Nat) (b : Addr) (e : Str × Str), v = .ref b ∧ as[j]? = some b ∧ ts[j]? = some e ∧ Pr h2 v e.1 e.2 := by
    intro v hv
    obtain ⟨b, hb, rfl⟩ := List.mem_map.mp hv
    obtain ⟨j, hj⟩ := List.mem_iff_getElem?.mp hb
    obtain ⟨e, t, u, he, hg⟩ := prs j b hj
    exact ⟨j, b, e, rfl, hj, he, b, t, u, _, 0, rfl, ka _ _ hg, rfl, rfl⟩
  refine wpAny_call_entry PyProof.Rows.slot_list_sort ⟨_, hob, rfl⟩ PyProof.Rows.entry_list_sort
    (SrtO.list_sort_ord (s := { s with heap := h2, toks := tk }) (lt1_swo h2) hob (by rw [List.length_map]; omega) (fun g2 hD kp => ?_) fun out o1 o2 => ⟨.none, rfl, ?_⟩) (PyProof.Rows.args_list_sort _)
  · have mvs : ∀ {v : Value} {y z : Str}, v ∈ as.map Value.ref → Pr h2 v y z → Pr hD v y z := fun {v y z} hv x => by
      refine x.mv fun b o e c => kp b o (fun zz => ?_) e
      rw [zz, hob] at e
      cases e
      exact absurd (Value.type.inj c) (by decide)
    obtain ⟨gs, g3, g4, g5⟩ := heads (h := hD) (as.map Value.ref) fun v hv => by
      obtain ⟨j, b, e, _, _, _, x⟩ := pin v hv
      exact ⟨e.1, e.2, mvs hv x⟩
    refine ⟨tuples' true, fun QQ EE hq => ?_, cmp1 (s := { s with heap := hD, toks := tk }) (fun v hv => ?_) fun v hv u hu y z z2 x1 x2 => ?_⟩
    · refine PySem.W.kat_kind (T := .type "str") g3 (by omega) (fun g hg => ?_) (by rfl) ?_
      · obtain ⟨y, t, rfl⟩ := g5 g hg
        exact PySem.W.Looks.of_pure rfl
      · have e : (Value.type "str" != Value.type "tuple") = true := by first | decide +kernel | rfl | decide
        rw [e]
        exact hq
    · obtain ⟨j, b, e, _, _, _, x⟩ := pin v hv
      exact ⟨e.1, e.2, mvs hv x, x⟩
    · obtain ⟨j, b, e, rfl, hj, he, x⟩ := pin v hv
      obtain ⟨j', b', e', rfl, hj', he', x'⟩ := pin u hu
      have uq : ∀ {h : Heap} {v : Value} {y z y' z' : Str}, Pr h v y z → Pr h v y' z' → y = y' ∧ z = z' := fun {h v y z y' z'} p q => by
        obtain ⟨a1, t1, u1, o1, n1, c1, c2, _, c3⟩ := p
        obtain ⟨a2, t2, u2, o2, n2, d1, d2, _, d3⟩ := q
        rw [c1] at d1; cases d1
        rw [c2] at d2; cases d2
        rw [c3] at d3
        cases d3
        exact ⟨rfl, rfl⟩
      obtain ⟨e1, e2⟩ := uq (mvs hv x) x1
      obtain ⟨e3, e4⟩ := uq (mvs hu x') x2
      have ej : e.1 = e'.1 := e1.trans e3.symm
      have jj : j = j' := by
        have a1 : (ts.map (·.1))[j]? = some e.1 := by rw [List.getElem?_map, he]; rfl
        have a2 : (ts.map (·.1))[j']? = some e.1 := by rw [List.getElem?_map, he', ej]; rfl
        exact (List.getElem?_inj (List.getElem?_eq_some_iff.mp a1).1 nd).mp (a1.trans a2.symm)
      subst jj
      rw [he] at he'
      cases he'
      exact e2.symm.trans e4
  · show EP X pins σ Q (.ref hB.objs.size) { s with heap := sortedHeap h2 hB.objs.size (as.map Value.ref) out.toArray, toks := tk }
    obtain ⟨zs, pz, ez⟩ := perm_lift (fun z : Addr × Str × Str => Value.ref z.1) o2.perm (as.zip ts) (by
      have e := List.map_fst_zip (l₁ := as) (l₂ := ts) (by omega)
      conv => rhs; rw [← e]
      rw [List.map_map]; rfl)
    have idx : ∀ z ∈ zs, ∃ j : Nat, as[j]? = some z.1 ∧ ts[j]? = some z.2 := by
      intro zz hz
      obtain ⟨j, hj⟩ := List.mem_iff_getElem?.mp (pz.mem_iff.mp hz)
      exact ⟨j, List.getElem?_zip_eq_some.mp hj⟩
    have kys : ∀ z ∈ zs, ky h2 (.ref z.1) = z.2.1 := by
      intro zz hz
      obtain ⟨j, j1, j2⟩ := idx zz hz
      obtain ⟨e, t, u, he, hg⟩ := prs j _ j1
      rw [j2] at he
      cases he
      exact Pr.ky (z := zz.2.2) ⟨_, t, u, _, 0, rfl, ka _ _ hg, rfl, rfl⟩
    have hperm : (zs.map (·.2)).Perm ts := by
      have e := pz.map (·.2)
      rw [List.map_snd_zip (by omega)] at e
      exact e
    have hsort : (zs.map (·.2)).Pairwise Le1 := by
      have o1 : out.Pairwise (fun v u => lt1 h2 u v = false) := o1
      rw [← ez, List.pairwise_map] at o1
      rw [List.pairwise_map]
      refine List.Pairwise.imp_of_mem (fun {x y} hx hy h => ?_) o1
      have h : decide ((ky h2 (.ref y.1)).cps.toList < (ky h2 (.ref x.1)).cps.toList) = false := h
      rw [kys x hx, kys y hy] at h
      exact h
    have kF : ∀ b o, b ≠ hB.objs.size → h2.get? b = some o → (sortedHeap h2 hB.objs.size (as.map Value.ref) out.toArray).get? b = some o := fun b o hb e => (PyProof.Rows.sortedHeap_old hb (Heap.lt_size e)).trans e
    have kS : ∀ b o, s.heap.get? b = some o → (sortedHeap h2 hB.objs.size (as.map Value.ref) out.toArray).get? b = some o := fun b o e => kF b o (ne0 _ _ (hk b o e)) (ka b o (hk b o e))
    obtain ⟨eF, heF⟩ := PyProof.Rows.sortedHeap_at (vs := as.map Value.ref) (out := out.toArray) hob
    have I1 : Inv X pins σ H { s with heap := sortedHeap h2 hB.objs.size (as.map Value.ref) out.toArray, toks := tk } := I.kept (t' := tk) kS
    have hn0 : H hB.objs.size = none := I.hok.fresh (Nat.le_of_lt hlt)
    have hlen : (zs.map fun z => V.ref z.1).length ≤ sizeLine := by
      have e := hperm.length_eq
      rw [List.length_map] at e
      rw [List.length_map]
      omega
    have rv : Vals (zs.map fun z => V.ref z.1) out := by
      rw [← ez]
      exact vals_maps (fun z : Addr × Str × Str => V.ref z.1) (fun z => Value.ref z.1) zs fun _ _ => rfl
    have I2 : Inv X pins σ (upd H hB.objs.size (.lst (zs.map fun z => V.ref z.1))) { s with heap := sortedHeap h2 hB.objs.size (as.map Value.ref) out.toArray, toks := tk } :=
      I1.take (h' := sortedHeap h2 hB.objs.size (as.map Value.ref) out.toArray) (t' := tk) (fun b ob _ e => e) (I.fpOk (Nat.le_of_lt hlt) hn0) ⟨hlen, out, eF, rv, heF⟩
    obtain ⟨H2, I3, g, qt⟩ := L2.DX.takeT (P := fun b vs => ∃ (j : Nat) (e : Str × Str), as[j]? = some b ∧ ts[j]? = some e ∧ vs = [.str e.1, .str e.2]) I as _ I2 nda fun b hb => by
      obtain ⟨j, hj⟩ := List.mem_iff_getElem?.mp hb
      obtain ⟨e, t, u, he, hg⟩ := prs j b hj
      have hbl : s.heap.objs.size ≤ b := Nat.le_of_lt (hG.above b hb)
      refine ⟨hbl, ?_, [.str e.1, .str e.2], ⟨j, e, hj, he, rfl⟩, fun H3 => ⟨(by rw [sizeLine_eq]; show 2 ≤ 16777216; omega), [Value.str e.1 t, Value.str e.2 u], .cons ⟨t, rfl⟩ (.cons ⟨u, rfl⟩ .nil), ⟨_, kF _ _ (ne0 _ _ hg) (ka _ _ hg), rfl, 0, rfl⟩⟩⟩
      rw [upd_ne (ne0 _ _ hg)]
      exact I.hok.fresh hbl
    have gr : Same H H2 := fun b o e => g b o (by rw [upd_ne (ne_of_none e hn0)]; exact e)
    refine ⟨.ref hB.objs.size, H2, I3, rfl, q H2 hB.objs.size zs gr hperm hsort (g _ _ upd_same) fun zz hz => ?_⟩
    obtain ⟨i, i1, i2⟩ := idx zz hz
    obtain ⟨vs, ⟨j, e, j1, j2, ev⟩, hH⟩ := qt zz.1 (List.mem_of_getElem? i1)
    have eij : i = j := (List.getElem?_inj (List.getElem?_eq_some_iff.mp i1).1 nda).mp (i1.trans j1.symm)
    subst eij
    rw [i2] at j2
    cases j2
    rw [ev] at hH
    exact hH
end
end RSi

set_option Elab.async false
set_option linter.all false
set_option maxRecDepth 100000
set_option maxHeartbeats 4000000
/-! A bound of the tokens that are out is carried along; str.replace with a count of 1; a loop of such. -/
namespace RTk
open PySem PySem.Spec PyProof.Rows L2 RC
/-- replaced once -/
def rep1 (x y z : Str) : Str :=
  if ((Builtin.Str.occurrences x y 0 x.length 1).isEmpty || (y.length == 0 && z.length == 0)) = true then x else Builtin.Str.glued z (Builtin.Str.partsBetween x (Builtin.Str.occurrences x y 0 x.length 1) y.length)
open Builtin.Str in
theorem gives_rep1 (x y z : Str) (t u v c : Tok) (h0 : (u == 0 || v == 0) = false) (huv : (u == v) = false) (hyz : (y == z) = false) (hl : tooLong (x.length + (occurrences x y 0 x.length 1).length * z.length) = false) :
    Gives (Builtin.«str.replace» ⟨[.str x t, .str y u, .str z v, .int 1 c], []⟩) (if ((occurrences x y 0 x.length 1).isEmpty || (y.length == 0 && z.length == 0)) = true then .val (.str x t) else .str (glued z (partsBetween x (occurrences x y 0 x.length 1) y.length))) := by
  show Gives (if ((occurrences x y 0 x.length 1).isEmpty || (y.length == 0 && z.length == 0)) = true then (do rule "str.replace.nothing"; ret (.str x t)) else
    (do let same ← isSame (.str y u) (.str z v); if same = true then (do rule "str.replace.old-is-new"; ret (.str x t)) else
        if tooLong (x.length + (occurrences x y 0 x.length 1).length * z.length) = true then unsupported "str.replace:memory" else retStr (glued z (partsBetween x (occurrences x y 0 x.length 1) y.length)))) _
  cases hc : ((occurrences x y 0 x.length 1).isEmpty || (y.length == 0 && z.length == 0))
  · rw [isSame_str_other y z u v h0 huv hyz, hl]
    exact .of_eq rfl
  · exact .rule (.of_eq rfl)
open Builtin.Str in
theorem call_rep1 {prog : Program} {w : World} {A : Around} {E : Value → Shared → Prop} {s : Shared} {x y z : Str} {t u v c : Tok} {Q : Value → Shared → Prop} (hu : u ≠ 0) (hv : v ≠ 0) (huv : u ≠ v) (hyz : (y == z) = false) (hb : x.length + z.length ≤ 16777216)
    (hq : ∀ tq k, s.toks ≤ k → Q (.str (rep1 x y z) tq) { s with toks := k }) : wpAny (model prog w) A (call (.builtin "str.replace") [.str x t, .str y u, .str z v, .int 1 c]) Q E s := by
  have hl : (Builtin.Str.occurrences x y 0 x.length 1).length * z.length ≤ z.length := by
    have := StrLaws.occ_length_le x y 0 x.length 1
    calc _ ≤ 1 * z.length := Nat.mul_le_mul_right _ this
      _ = _ := Nat.one_mul _
  have ht : tooLong (x.length + (Builtin.Str.occurrences x y 0 x.length 1).length * z.length) = false := by
    unfold tooLong sizeLine
    exact decide_eq_false (by omega)
  refine call_gives F.slot_str_replace (typeIs_str _ _ _) F.entry_str_replace (F.args_str_replace_4 _ _ _ _) (gives_rep1 x y z t u v c (by simp [hu, hv]) (by simp [huv]) hyz ht) ?_
  have hq' := hq
  unfold rep1 at hq'
  cases hc : ((Builtin.Str.occurrences x y 0 x.length 1).isEmpty || (y.length == 0 && z.length == 0))
  · rw [hc] at hq'
    simp only [Bool.false_eq_true, if_false] at hq' ⊢
    refine ⟨?_, hq' _ _ (Nat.le_succ _)⟩
    have hy : (Builtin.Str.glued y (Builtin.Str.partsBetween x (Builtin.Str.occurrences x y 0 x.length 1) y.length)).length = x.length := by
      rw [StrLaws.glued_between_self]
    rw [size_glued, length_partsBetween, Nat.add_sub_cancel] at hy
    rw [size_glued, length_partsBetween, Nat.add_sub_cancel, sizeLine_eq]
    omega
  · rw [hc] at hq'
    simp only [if_true] at hq' ⊢
    exact hq' t s.toks (Nat.le_refl _)

/-! ### a bound k of the tokens that are out -/
abbrev VKn := Nat → VK
abbrev TEn := Nat → L2.St → Hp → VKn → Prop
structure Endn where
  nx : Nat → L2.St → Hp → Prop
  rt : VKn
  bk : Nat → L2.St → Hp → Prop := fun _ _ _ => False
  ct : Nat → L2.St → Hp → Prop := fun _ _ _ => False
def Endn.at (D : Endn) (k : Nat) : Ends := ⟨D.nx k, D.rt k, D.bk k, D.ct k⟩
abbrev TSn := Nat → Endn → L2.St → Hp → Prop
def EPn (X : Cx) (pins : List (Addr × Obj)) (σ : L2.St) (Q : VKn) (u : Value) (s2 : Shared) : Prop := ∃ k, k ≤ s2.toks ∧ EP X pins σ (Q k) u s2
def SPn (X : Cx) (pins : List (Addr × Obj)) (D : Endn) (f : Flow) (s2 : Shared) : Prop := ∃ k, k ≤ s2.toks ∧ SP X pins (D.at k) f s2
def APn (X : Cx) (pins : List (Addr × Obj)) (σ : L2.St) (Q : Nat → List V → Hp → Prop) (us : List Value) (s2 : Shared) : Prop := ∃ k, k ≤ s2.toks ∧ AP X pins σ (Q k) us s2
abbrev TAn := Nat → L2.St → Hp → (Nat → List V → Hp → Prop) → Prop
structure PEn (X : Cx) (e : Expr) (t : TEn) : Prop where
  run : ∀ (pins : List (Addr × Obj)) (s : Shared) (σ : L2.St) (H : Hp) (Q : VKn) (k : Nat), k ≤ s.toks → Inv X pins σ H s → t k σ H Q → wpAny (model X.prog X.w) X.A (eval e X.env) (EPn X pins σ Q) X.xe s
structure PSn (X : Cx) (st : Stmt) (t : TSn) : Prop where
  run : ∀ (pins : List (Addr × Obj)) (s : Shared) (σ : L2.St) (H : Hp) (D : Endn) (k : Nat), k ≤ s.toks → Inv X pins σ H s → t k D σ H → wpAny (model X.prog X.w) X.A (exec st X.env) (SPn X pins D) X.xe s
structure PSsn (X : Cx) (st : List Stmt) (t : TSn) : Prop where
  run : ∀ (pins : List (Addr × Obj)) (s : Shared) (σ : L2.St) (H : Hp) (D : Endn) (k : Nat), k ≤ s.toks → Inv X pins σ H s → t k D σ H → wpAny (model X.prog X.w) X.A (execs st X.env) (SPn X pins D) X.xe s
structure PAn (X : Cx) (es : List Expr) (t : TAn) : Prop where
  run : ∀ (pos : Pos) (pins : List (Addr × Obj)) (s : Shared) (σ : L2.St) (H : Hp) (Q : Nat → List V → Hp → Prop) (k : Nat), k ≤ s.toks → Inv X pins σ H s → t k σ H Q → wpAny (model X.prog X.w) X.A (spliced (backTo pos (starEach es X.env))) (APn X pins σ Q) X.xe s
section
variable {X : Cx} {e c : Expr} {es : List Expr} {te : TE} {ten : TEn} {ta : TA} {tan : TAn} {st : Stmt} {rest a b : List Stmt} {t u : TS} {tn un : TSn} {tc : TT} {pos : Pos}
def lE (te : TE) : TEn := fun k σ H Q => te σ H (Q k)
def lA (ta : TA) : TAn := fun k σ H Q => ta σ H (Q k)
def lS (t : TS) : TSn := fun k D σ H => t (D.at k) σ H
def sqN (t u : TSn) : TSn := fun k D σ H => t k { D with nx := fun j σ2 H2 => u j D σ2 H2 } σ H
theorem thk {α : Type} {t : Sem α} {Q Q2 : α → Shared → Prop} {M : Model} {A : Around} {E : Value → Shared → Prop} {s : Shared} {k : Nat} (hk : k ≤ s.toks) (h : wpAny M A t Q E s) (g : ∀ a s2, k ≤ s2.toks → Q a s2 → Q2 a s2) : wpAny M A t Q2 E s :=
  wpAny_mono (wpAny_toks_of hk h) (fun a s2 q => g a s2 q.1 q.2) fun _ _ q => q.2
theorem PEn.of (h : PE X e te) : PEn X e (lE te) := ⟨fun pins s σ H Q k hk I q => thk hk (h.run pins s σ H _ I q) fun _ _ k2 z => ⟨k, k2, z⟩⟩
theorem PAn.of (h : PA X es ta) : PAn X es (lA ta) := ⟨fun pos pins s σ H Q k hk I q => thk hk (h.run pos pins s σ H _ I q) fun _ _ k2 z => ⟨k, k2, z⟩⟩
theorem PSn.of (h : PS X st t) : PSn X st (lS t) := ⟨fun pins s σ H D k hk I q => thk hk (h.run pins s σ H (D.at k) I q) fun _ _ k2 z => ⟨k, k2, z⟩⟩
theorem PSsn.of (h : PSs X rest t) : PSsn X rest (lS t) := ⟨fun pins s σ H D k hk I q => thk hk (h.run pins s σ H (D.at k) I q) fun _ _ k2 z => ⟨k, k2, z⟩⟩
theorem psn_nil : PSsn X [] (lS tNext) := PSsn.of pss_nil
theorem psn_cons (h1 : PSn X st tn) (h2 : PSsn X rest un) : PSsn X (st :: rest) (sqN tn un) := by
  refine ⟨fun pins s σ H D k hk I h => ?_⟩
  refine wpAny_execs_cons (thn (h1.run pins s σ H _ k hk I h) fun f s1 ⟨j, hj, q⟩ => ?_)
  cases f with
  | next =>
    obtain ⟨σ2, H2, I2, q⟩ := q
    exact h2.run pins s1 σ2 H2 D j hj I2 q
  | ret v => exact ⟨j, hj, q⟩
  | brk => exact ⟨j, hj, q⟩
  | cont => exact ⟨j, hj, q⟩
def asgN (te : TEn) (g : TG) : TSn := fun k D σ H => te k σ H fun j x H1 => g x σ H1 (D.nx j)
theorem psn_asg {tg : Expr} {g : TG} (he : PEn X e ten) (hg : PG X tg g) (hs : swapsWithSole [tg] e pos.line X.env = pure false := by rfl) (hw : swappedStores [tg] e X.env = pure none := by rfl)
    (h1 : (assignEach [tg] X.env).map (·.2) = [assign tg X.env] := by rfl) : PSn X (.Assign [tg] e pos) (asgN ten g) := by
  refine ⟨fun pins s σ H D k hk I h => ?_⟩
  refine wpAny_Assign_stores (thn (he.run pins s σ H _ k hk I h) fun v s1 ⟨j, hj, x, H1, I1, r1, q1⟩ => ?_) hs hw
  rw [h1]
  exact thk hj (hg.run pins s1 σ H1 x v _ I1 r1 q1) fun _ s2 j2 q => ⟨j, j2, q⟩
theorem psn_set {i : Nat} {x : Str} {p2 : Pos} (hN : X.N.Nodup) (hi : X.N[i]? = some x) (hx : Loc X.env.scope x) (he : PEn X e ten) (hs : swapsWith e (some (.Name x p2)) pos.line X.env = pure false := by rfl)
    (hf : X.fn x = true ∨ X.env.scope.names.lookup x = some .local := by first | exact .inl rfl | exact .inr rfl | assumption) : PSn X (.Assign [.Name x p2] e pos) (asgN ten (gName i)) := by
  refine ⟨fun pins s σ H D k hk I h => ?_⟩
  refine wpAny_Assign_Name (thn (he.run pins s σ H _ k hk I h) fun v s1 ⟨j, hj, y, H1, I1, r1, q1⟩ => ?_) hs
  exact thk hj (store_ok (Q := fun _ s2 => SP X pins (D.at j) .next s2) I1 hN hi hx r1 (fun s2 I2 => ⟨_, H1, I2, q1⟩) hf) fun _ s2 j2 q => ⟨j, j2, q⟩
def dropN (te : TEn) : TSn := fun k D σ H => te k σ H fun j _ H1 => D.nx j σ H1
theorem psn_expr (he : PEn X e ten) (hs : swapsWith e none pos.line X.env = pure false := by rfl) : PSn X (.Expr e pos) (dropN ten) := by
  refine ⟨fun pins s σ H D k hk I h => ?_⟩
  exact wpAny_Expr_any (thn (he.run pins s σ H _ k hk I h) fun v s1 ⟨j, hj, x, H1, I1, r1, q1⟩ => ⟨j, hj, σ, H1, I1, q1⟩) I.quiet hs
def retN (te : TEn) : TSn := fun k D σ H => te k σ H D.rt
theorem psn_ret (he : PEn X e ten) : PSn X (.Return (some e) pos) (retN ten) := by
  refine ⟨fun pins s σ H D k hk I h => ?_⟩
  exact wpAny_Return_some (thn (he.run pins s σ H _ k hk I h) fun v s1 ⟨j, hj, x, H1, I1, r1, q1⟩ => ⟨j, hj, x, σ, H1, I1, r1, q1⟩)
def ifN (c : TT) (t u : TSn) : TSn := fun k D σ H => c σ H fun b H1 => if b = true then t k D σ H1 else u k D σ H1
theorem psn_if (hc : PT X c tc) (ha : PSsn X a tn) (hb : PSsn X b un) : PSn X (.If c a b pos) (ifN tc tn un) := by
  refine ⟨fun pins s σ H D k hk I h => ?_⟩
  refine wpAny_If (thk hk (hc.run pins s σ H _ I h) fun d s1 k2 ⟨H1, I1, q1⟩ => ?_)
  cases d with
  | true => exact ha.run pins s1 σ H1 D k k2 I1 q1
  | false => exact hb.run pins s1 σ H1 D k k2 I1 q1
/-- such a block among others -/
def offS (tn : TSn) : TS := fun D σ H => tn 0 ⟨fun _ => D.nx, fun _ => D.rt, fun _ => D.bk, fun _ => D.ct⟩ σ H
theorem pss_off (h : PSsn X rest tn) : PSs X rest (offS tn) := ⟨fun pins s σ H D I q => thn (h.run pins s σ H _ 0 (Nat.zero_le _) I q) fun f _ ⟨_, _, z⟩ => by cases f <;> exact z⟩
/-! ### arguments, lists and tuples -/
def nilN : TAn := fun k _ H Q => Q k [] H
def consN (te : TEn) (ta : TAn) : TAn := fun k σ H Q => te k σ H fun j x H1 => ta j σ H1 fun i xs H2 => Q i (x :: xs) H2
theorem pan_nil : PAn X [] nilN := ⟨fun _ _ s _ H Q k hk I h => Calls.spliced_nil ⟨k, hk, [], H, I, .nil, h⟩⟩
theorem pan_cons (ha : PEn X e ten) (hr : PAn X es tan) (hs : starEach (e :: es) X.env = (false, eval e X.env) :: starEach es X.env := by rfl) : PAn X (e :: es) (consN ten tan) := by
  refine ⟨fun pos pins s σ H Q k hk I h => ?_⟩
  rw [hs]
  show wpAny _ _ (spliced ((false, eval e X.env) :: backTo pos (starEach es X.env))) _ _ s
  refine Calls.spliced_cons (thn (ha.run pins s σ H _ k hk I h) fun v s1 ⟨j, hj, x, H1, I1, r1, q1⟩ => ?_)
  exact thn (hr.run pos pins s1 σ H1 _ j hj I1 q1) fun us s2 ⟨i, h2, xs, H2, I2, r2, q2⟩ => ⟨i, h2, x :: xs, H2, I2, .cons r1 r2, q2⟩
def lstN (ta : TAn) : TEn := fun k σ H Q => ta k σ H fun j xs H1 => xs.length ≤ sizeLine ∧ ∀ p, H1 p = none → Q j (.ref p) (upd H1 p (.lst xs))
theorem pen_lst (h : PAn X es tan) : PEn X (.List es pos) (lstN tan) := by
  refine ⟨fun pins s σ H Q k hk I hq => ?_⟩
  refine wpAny_List_spliced (thn (h.run pos pins s σ H _ k hk I hq) fun us s1 ⟨j, hj, xs, H1, I1, r, z, q⟩ => ⟨by rw [← r.length]; exact z, ?_⟩)
  have fr : H1 s1.heap.objs.size = none := I1.hok.fresh (Nat.le_refl _)
  exact ⟨j, hj, .ref s1.heap.objs.size, upd H1 s1.heap.objs.size (.lst xs), I1.laid (t' := s1.toks) (fun b u e => Heap.get?_push_of_some _ e) (Nat.le_refl _) ⟨z, us, 0, r, Heap.get?_push_size _ rfl⟩, rfl, q _ fr⟩
def tupN (ta : TAn) : TEn := fun k σ H Q => ta k σ H fun j xs H1 => xs.length ≤ sizeLine ∧ ∀ p, H1 p = none → Q j (.ref p) (upd H1 p (.tup xs))
theorem pen_tup {kt : Nat} (h : PAn X es tan) : PEn X (.Tuple es kt pos) (tupN tan) := by
  refine ⟨fun pins s σ H Q k hk I hq => ?_⟩
  refine Tuple_ (thn (h.run pos pins s σ H _ k hk I hq) fun us s1 ⟨j, hj, xs, H1, I1, r, z, q⟩ => ?_)
  refine wpAny_newObj_type ?_ (by show us.toArray.size ≤ sizeLine; rw [List.size_toArray, ← r.length]; exact z)
  have fr : H1 s1.heap.objs.size = none := I1.hok.fresh (Nat.le_refl _)
  exact ⟨j, hj, .ref s1.heap.objs.size, upd H1 s1.heap.objs.size (.tup xs), I1.laid (t' := s1.toks) (fun b u e => Heap.get?_push_of_some _ e) (Nat.le_refl _) ⟨z, us, r, ⟨_, Heap.get?_push_size _ rfl, rfl, _, rfl⟩⟩, rfl, q _ fr⟩
/-- a written text gives a token out -/
def strN (y : Str) : TEn := fun k _ H Q => Q (k + 1) (.str y) H
theorem pen_str {y : Str} {kc : Nat} : PEn X (.Constant (.str y) kc pos) (strN y) := ⟨fun pins s σ H Q k hk I h => Calls.Constant_str ⟨k + 1, Nat.succ_le_succ hk, .str y, H, I.tok _, ⟨_, rfl⟩, h⟩⟩
/-- the tokens of texts among these are out: none is 0, none is k or more -/
def Out (k : Nat) (us : List Value) : Prop := ∀ y t, Value.str y t ∈ us → t ≠ 0 ∧ t < k
theorem Out.up {k j : Nat} {us : List Value} (h : Out k us) (q : k ≤ j) : Out j us := fun y t m => ⟨(h y t m).1, Nat.lt_of_lt_of_le (h y t m).2 q⟩
/-- a tuple whose object is known, the tokens in it below k -/
def FT (k : Nat) (H : Hp) (p : Addr) (xs : List V) : Prop := ∃ (o : Obj) (us : List Value) (n : Nat), H p = some (.frz o (.tup xs)) ∧ o.data = .seq us.toArray n ∧ Out k us
theorem FT.up {k j : Nat} {H : Hp} {p : Addr} {xs : List V} (h : FT k H p xs) (q : k ≤ j) : FT j H p xs := let ⟨o, us, n, h1, h2, h3⟩ := h; ⟨o, us, n, h1, h2, h3.up q⟩
theorem FT.same {k : Nat} {H H2 : Hp} {p : Addr} {xs : List V} (h : FT k H p xs) (q : Same H H2) : FT k H2 p xs := let ⟨o, us, n, h1, h2, h3⟩ := h; ⟨o, us, n, q _ _ h1, h2, h3⟩
theorem FT.sq {K : PySem.W.Frag} {k : Nat} {H : Hp} {p : Addr} {xs : List V} (h : FT k H p xs) : SqT K H p xs := let ⟨o, us, n, h1, _⟩ := h; .inl (.inr ⟨o, h1⟩)
/-- ('text', e): the text's token is out -/
def tup1N (y : Str) (ta : TA) : TEn := fun k σ H Q => 1 ≤ k ∧ ta σ H fun vs H1 => vs.length ≤ 100 ∧ (∀ v ∈ vs, ∀ z : Str, v ≠ .str z) ∧ ∀ (p : Addr) (j : Nat) (H2 : Hp), H1 p = none → (∀ b o, H1 b = some o → H2 b = some o) → FT j H2 p (.str y :: vs) → Q j (.ref p) H2
theorem pen_tup1 {y : Str} {kc kt : Nat} {pc : Pos} (ha : PA X es ta) (hs : starEach (.Constant (.str y) kc pc :: es) X.env = (false, eval (.Constant (.str y) kc pc) X.env) :: starEach es X.env := by rfl) : PEn X (.Tuple (.Constant (.str y) kc pc :: es) kt pos) (tup1N y ta) := by
  refine ⟨fun pins s σ H Q k hk I hq => ?_⟩
  refine Tuple_ ?_
  rw [hs]
  show wpAny _ _ (spliced ((false, eval (.Constant (.str y) kc pc) X.env) :: backTo pos (starEach es X.env))) _ _ s
  refine Calls.spliced_cons (Calls.Constant_str ?_)
  have I0 : Inv X pins σ H { s with toks := s.toks + 1 } := I.tok _
  obtain ⟨hk1, hq⟩ := hq
  have h0 : s.toks ≠ 0 := by omega
  refine thk (k := s.toks + 1) (Nat.le_refl _) (ha.run pos pins { s with toks := s.toks + 1 } σ H _ I0 hq) fun us s1 k1 ⟨vs, H1, I1, r, z, nt, q⟩ => ?_
  have r2 : Vals (.str y :: vs) (Value.str y s.toks :: us) := .cons ⟨_, rfl⟩ r
  have hz : (V.str y :: vs).length ≤ sizeLine := by rw [List.length_cons, sizeLine_eq]; omega
  refine wpAny_newObj_type ?_ (by show (Value.str y s.toks :: us).toArray.size ≤ sizeLine; rw [List.size_toArray, ← r2.length]; exact hz)
  have fr : H1 s1.heap.objs.size = none := I1.hok.fresh (Nat.le_refl _)
  refine ⟨s1.toks, Nat.le_refl _, .ref s1.heap.objs.size, upd H1 s1.heap.objs.size (.frz { cls := .type "tuple", data := .seq (Value.str y s.toks :: us).toArray } (.tup (.str y :: vs))), I1.laid (t' := s1.toks) (fun b u e => Heap.get?_push_of_some _ e) (Nat.le_refl _) ?_, rfl, ?_⟩
  · exact ⟨Heap.get?_push_size _ rfl, hz, _, r2, ⟨_, Heap.get?_push_size _ rfl, rfl, _, rfl⟩⟩
  · refine q _ s1.toks _ fr (fun b o e => by rw [upd_ne (ne_of_none e fr)]; exact e) ⟨_, _, _, upd_same, rfl, fun x t m => ?_⟩
    rcases List.mem_cons.mp m with e | m
    · cases e
      exact ⟨h0, Nat.lt_of_lt_of_le (Nat.lt_succ_self _) k1⟩
    · exfalso
      clear q hq
      have : ∀ {vs : List V} {us : List Value}, Vals vs us → (∀ v ∈ vs, ∀ z : Str, v ≠ .str z) → Value.str x t ∉ us := by
        intro vs us r
        induction r with
        | nil => exact fun _ m => nomatch m
        | @cons v u vs us r1 r2 ih =>
          intro nt m
          rcases List.mem_cons.mp m with e | m
          · subst e
            cases v with
            | str z => exact nt _ List.mem_cons_self z rfl
            | non => cases r1
            | bl b => cases r1
            | int i => obtain ⟨_, r1⟩ := r1; cases r1
            | byt b => obtain ⟨_, r1⟩ := r1; cases r1
            | flt b => obtain ⟨_, r1⟩ := r1; cases r1
            | ref a => cases r1
            | ty n => cases r1
          · exact ih (fun v hv => nt v (List.mem_cons_of_mem _ hv)) m
      exact this r nt m
end
end RTk

set_option Elab.async false
set_option linter.all false
set_option maxRecDepth 100000
set_option maxHeartbeats 4000000
/-! Defs that are called with a bound of the tokens that are out; a loop that replaces once for each of a tuple's items. -/
namespace RTk
open PySem PySem.Spec PyProof.Rows L2 RC
/-- a def's promise where k tokens are out -/
abbrev SpN := Nat → List V → Hp → VKn → Prop
def CRn (outer : List Env) (P : Program) (w : World) (H : Hp) (s : Shared) (Q : VKn) (r : Result) (s2 : Shared) : Prop :=
  match r with
  | .ok (.ret u) => ∃ k, k ≤ s2.toks ∧ CE outer P w H s (Q k) u s2
  | .ok _ => False
  | .error e => CX0 outer H s E0 e s2
structure FnN (P : Program) (w : World) (K : PySem.W.Frag) (mg : Str → Option Value) (base : Heap) (k : Nat) (f : Addr) (fd : FuncData) (ps : List Str) (sp : SpN) : Prop where
  len : ∀ n vs H Q, sp n vs H Q → vs.length = ps.length
  run : ∀ (A : Around) (outer : List Env) (s : Shared) (H : Hp) (args : Args) (us : List Value) (vs : List V) (Q : VKn) (n : Nat), n ≤ s.toks → Room k A → Env0 P w K mg base A outer s H → BindsTo s fd args (ps.zip us) → Vals vs us → sp n vs H Q →
    codeAny (model P w) A (.call (.ref f) args) (CRn outer P w H s Q) s
def CallK (P : Program) (w : World) (K : PySem.W.Frag) (mg : Str → Option Value) (base : Heap) (k : Nat) (f : Addr) (ps : List Str) (sp : SpN) : Prop :=
  ∃ fd, FnN P w K mg base k f fd ps sp ∧ Binds K fd ps [] ∧ PySem.W.keepIn K (.ref f) = true
theorem CallK.up {P : Program} {w : World} {K : PySem.W.Frag} {mg : Str → Option Value} {base : Heap} {i j : Nat} {f : Addr} {ps : List Str} {sp : SpN} (c : CallK P w K mg base i f ps sp) (h : i ≤ j) : CallK P w K mg base j f ps sp :=
  let ⟨fd, F, r⟩ := c
  ⟨fd, ⟨F.len, fun A outer s H args us vs Q n hn hr => F.run A outer s H args us vs Q n hn (hr.mono h)⟩, r⟩
section
variable {X : Cx} {e : Expr} {es : List Expr} {tan : TAn} {k : Nat} {f : Addr} {ps : List Str} {sp : SpN} {x : Str} {p pos : Pos}
def callN (sp : SpN) (t : TAn) : TEn := fun k σ H Q => t k σ H fun j vs H1 => sp j vs H1 Q
theorem pen_fn (hm : X.mg x = some (.ref f)) (c : CallK X.prog X.w X.K X.mg X.base k f ps sp) (hr : Room k X.A) (hg : Gl X x) (ha : PAn X (e :: es) tan) (hdb : (x == ("__debug__" : Str)) = false := by decide)
    (he : starEach (e :: es) X.env = (false, eval e X.env) :: starEach es X.env := by rfl) (hpl : (backTo pos (starEach es X.env)).any (·.1) = false := by rfl) : PEn X (.Call (.Name x p) (e :: es) [] pos) (callN sp tan) := by
  obtain ⟨fd, F, hb, kp⟩ := c
  refine ⟨fun pins s σ H Q n hn I h => ?_⟩
  refine wpAny_Call_Name_kw (ld_glob I hg hm ?_ hdb)
  refine PySem.W.callWith_K (h₀ := X.base) I.ok.mod.kin kp (thn (ha.run pos pins s σ H _ n hn I h) fun us s1 ⟨j, hj, vs, H1, I1, r, q⟩ => ⟨I1.kIn, ?_⟩) he hpl
  have hl : (us ++ []).length = ps.length := by rw [List.append_nil, ← r.length]; exact F.len _ _ _ _ q
  have hb2 := hb s1 us I1.kIn hl
  rw [List.append_nil] at hb2
  refine wpAny_call (codeAny_mono (F.run X.A X.stack s1 H1 ⟨us, []⟩ us vs Q j hj hr I1.env0 hb2 r q) fun z s2 hz => ?_)
  cases z with
  | error e => exact pass0 pins σ H1 s1 e s2 I1 hz
  | ok fl =>
    cases fl with
    | ret u =>
      obtain ⟨i, hi, hz⟩ := hz
      exact ⟨i, hi, I1.after hz⟩
    | next => exact False.elim hz
    | brk => exact False.elim hz
    | cont => exact False.elim hz
end
section
variable {P : Program} {w : World} {K : PySem.W.Frag} {mg : Str → Option Value} {base : Heap} {x qual : Str} {f : Addr} {k : Nat} {N ps : List Str} {sp : SpN}
theorem _root_.RTk.PSsn.nox {X : Cx} {st : List Stmt} {t : TSn} (h : PSsn X.nox st t) : PSsn X st t := ⟨fun pins s σ H D k hk I q =>
  wpAny_mono (h.run pins s σ H D k hk (I.wish _) q) (fun _ _ ⟨j, hj, z⟩ => ⟨j, hj, z.unwish⟩) fun _ _ z => False.elim z⟩
theorem callK0 {st : Stmt} (F : Stands K x qual st [] f) (S : FnScope N ps (defScope st)) (len : ∀ n vs H Q, sp n vs H Q → vs.length = ps.length)
    (hbody : ∀ (cdv : Value) (A : Around) (outer : List Env) (s : Shared) (H : Hp) (vs : List V) (Q : VKn) (n : Nat), Room k (A.deeper (envOfC qual (defScope st) s.heap.objs.size f cdv)) → sp n vs H Q →
      ∃ t, PSsn (cxOf CX0 P w K mg base N qual (defScope st) f cdv A outer s H E0).nox (defBody st) t ∧ t n { nx := fun j _ H2 => Q j .non H2, rt := Q } (L2.start N vs) H)
    (h0 : ∀ (kV doc pm : Value) (an : Option Addr) (cdv ct : Value) (us : List Value), us.length = ps.length → bindArgs (PySem.W.fnOf x qual (defArgs st) (defBody st) (defScope st) .none kV doc pm an cdv ct) ⟨us, []⟩ = pure (ps.zip us)) :
    CallK P w K mg base (k + 1) f ps sp := by
  obtain ⟨fd, F⟩ := F
  have bd := F.bindsN h0
  have kp := F.kp
  obtain ⟨oc, od, dV, kV, doc, pm, an, cdv, ct, osl, rfl, lk, hcd, _, _⟩ := F.ex
  refine ⟨_, ⟨len, fun A outer s H args us vs Q n hn hr e0 hb r hsp => ?_⟩, bd, kp⟩
  have hl := len _ _ _ _ hsp
  have KX : K.In s.heap := e0.mod.kin.keeps fun b o e => (e0.bs b o e).1
  have lim : s.heap.NoLimit := e0.mod.nolimit.keeps fun b o e => (e0.bs b o e).1
  have kinds : ∀ y ∈ ps.zip us, (defScope st).names.lookup y.1 = some .local ∨ ((defScope st).names.lookup y.1 = some .cell ∧ ((cellsFrom (s.heap.objs.size + 1) (defScope st).names []).lookup y.1).isSome = true) := by
    rintro ⟨m, v⟩ hy
    rcases S.par m (List.of_mem_zip hy).1 with q | q
    · exact .inl q
    · exact .inr ⟨q, PySem.W.cellsFrom_some _ _ _ (.inl q)⟩
  refine codeAny_call_function hr.depth (KX _ _ lk) rfl S.co S.gen rfl (PySem.W.codeRec_of KX hcd) (hb _ _ _ _ ?_)
  refine thk hn (wpAny_newFunctionEnv_cells (Q := fun env s1 => env = envOfC qual (defScope st) s.heap.objs.size f cdv ∧ InCallC s s.heap.objs.size (bindL (envOfC qual (defScope st) s.heap.objs.size f cdv).kindOf (ps.zip us) fun _ => none) (cellsFrom (s.heap.objs.size + 1) (defScope st).names []) (bindC (envOfC qual (defScope st) s.heap.objs.size f cdv).kindOf (ps.zip us) fun _ => none) s1) S.kind kinds fun env he s1 xx => by subst he; exact ⟨rfl, xx⟩) fun env s1 n1 ⟨he, xx⟩ => ?_
  subst he
  refine ⟨lim.keeps xx.toInCall.keep, codeAny_func ?_⟩
  obtain ⟨t, ht, hq⟩ := hbody cdv A outer s H vs Q n (hr.deeper _) hsp
  have I : Inv (cxOf CX0 P w K mg base N qual (defScope st) f cdv A outer s H E0) [] (L2.start N vs) H s1 := inv_start S hr.hd e0 hl r xx
  refine wpAny_mono (ht.nox.run [] s1 (L2.start N vs) H _ n n1 I hq) (fun fl s2 ⟨j, hj, hs⟩ => ?_) fun e s2 hs => hs
  cases fl with
  | ret u =>
    obtain ⟨v, σ2, H2, J, rv, q⟩ := hs
    exact ⟨j, hj, v, H2, J.os, J.bare, J.base, J.hok, rv, q⟩
  | next =>
    obtain ⟨σ2, H2, J, q⟩ := hs
    exact ⟨j, hj, .non, H2, J.os, J.bare, J.base, J.hok, rfl, q⟩
  | brk =>
    obtain ⟨_, _, _, q⟩ := hs
    exact False.elim q
  | cont =>
    obtain ⟨_, _, _, q⟩ := hs
    exact False.elim q
end
/-! ### a name is stored, its value known to the token -/
section
variable {X : Cx} {pins : List (Addr × Obj)} {σ : L2.St} {H : Hp} {s : Shared}
theorem store_at {M : Model} {A : Around} {E : Value → Shared → Prop} {i : Nat} {x : Str} {v : V} {u : Value} {Q : Unit → Shared → Prop} (I : Inv X pins σ H s) (hN : X.N.Nodup) (hi : X.N[i]? = some x) (hx : X.env.scope.names.lookup x = some .local) (r : RelV v u)
    (h : ∀ s2, Inv X pins (σ.set i (some v)) H s2 → s2.toks = s.toks + 1 → (∃ m, s2.heap.Ns X.env.locals m ∧ m x = some u) → (∀ b, b ≠ X.env.locals → s2.heap.get? b = s.heap.get? b) → Q () s2) : wpAny M A (storeName X.env x u) Q E s := by
  obtain ⟨m, hn, hl⟩ := id I.loc
  have kf : (X.env.scope.kind == .class || (X.env.scope.kind == .module && X.env.locals != X.env.globals)) = false := by rw [I.ok.kind]; rfl
  have hiσ : i < σ.length := by rw [I.len]; exact (List.getElem?_eq_some_iff.mp hi).1
  refine wpAny_storeName_local hx hn (fun hp hns sb => ?_) kf
  have low : ∀ b o, X.s_0.heap.get? b = some o → hp.get? b = s.heap.get? b := fun b o q => sb.2 b (Nat.ne_of_lt (Nat.lt_of_lt_of_le (Heap.lt_size q) I.ok.above))
  refine h { s with heap := hp, toks := s.toks + 1 } ?_ rfl ⟨_, hns, by simp⟩ fun b nb => sb.2 b nb
  obtain ⟨oL, _, _, hoL, _⟩ := id hn
  constructor
  case ok => exact I.ok
  case os => exact I.os
  case bare => exact I.bare
  case free => exact I.free
  case freeC => exact I.freeC
  case len => rw [List.length_set]; exact I.len
  case base =>
    constructor
    case keep => exact fun b o q n1 n2 n3 => (low b o q).trans (I.base.keep b o q n1 n2 n3)
    case slot =>
      intro b o q n1 n2 n3
      obtain ⟨sl, z⟩ := I.base.slot b o q n1 n2 n3
      exact ⟨sl, (low b o q).trans z⟩
    case free => exact I.base.free
    case there =>
      intro b o q n3
      obtain ⟨o2, z⟩ := I.base.there b o q n3
      exact ⟨o2, (low b o q).trans z⟩
    case tups => exact I.base.tups
    case frzs => exact I.base.frzs
    case tbls => exact I.base.tbls
  case loc =>
    refine ⟨_, hns, fun j y w e1 e2 e3 => ?_⟩
    by_cases c : j = i
    · subst c
      rw [hi] at e1
      cases e1
      rw [List.getElem?_set_self hiσ] at e2
      cases e2
      exact ⟨u, r, .inl ⟨hx, by simp⟩⟩
    · rw [List.getElem?_set_ne (fun z => c z.symm)] at e2
      obtain ⟨u2, r2, q⟩ := hl j y w e1 e2 e3
      refine ⟨u2, r2, ?_⟩
      rcases q with ⟨a, b⟩ | ⟨a, c2, b, d⟩
      · have ny : ¬ y = x := fun z => c (nodup_ix hN e1 (z ▸ hi))
        exact .inl ⟨a, by show (if y = x then some u else m y) = some u2; rw [if_neg ny]; exact b⟩
      · exact .inr ⟨a, c2, b, d.sameBut sb (I.cne y c2 b)⟩
  case cell =>
    intro y c2 q
    obtain ⟨w, z⟩ := I.cell y c2 q
    exact ⟨w, z.sameBut sb (I.cne y c2 q)⟩
  case pin =>
    intro p hp2
    obtain ⟨a, b, c, d, e⟩ := I.pin p hp2
    exact ⟨(sb.2 p.1 c).trans a, b, c, d, e⟩
  case hok =>
    intro b ob q
    refine (I.hok b ob q).stay (fun c w hc q2 => (sb.2 c ?_).trans q2) (fun _ q2 => q2) fun _ _ q2 => q2
    intro z
    subst z
    rcases hc with z | z
    · rw [← z, I.free] at q; cases q
    · rw [I.free] at z; cases z
/-! ### for a in xs: m = m.replace(y, str(a), 1) -/
def argT : V → Str
  | .int i => toString i
  | .str z => z
  | _ => ""
def argOk (y : Str) : V → Prop
  | .int i => i.natAbs.log2 < 1920 ∧ (y == toString i) = false
  | .str z => (y == z) = false
  | _ => False
def runR (y : Str) (i j : Nat) : List V → L2.St → Str → L2.St × Str
  | [], σ, z => (σ, z)
  | x :: xs, σ, z => runR y i j xs ((σ.set j (some x)).set i (some (.str (rep1 z y (argT x))))) (rep1 z y (argT x))
theorem runR_snoc (y : Str) (i j : Nat) (x : V) : ∀ (xs : List V) (σ : L2.St) (z : Str), runR y i j (xs ++ [x]) σ z = ((((runR y i j xs σ z).1.set j (some x)).set i (some (.str (rep1 (runR y i j xs σ z).2 y (argT x)))), rep1 (runR y i j xs σ z).2 y (argT x)))
  | [], _, _ => rfl
  | _ :: xs, _, _ => runR_snoc y i j x xs _ _
theorem runR_at (y : Str) {i j : Nat} (h : i ≠ j) : ∀ (xs : List V) (σ : L2.St) (z : Str), σ[i]? = some (some (.str z)) → (runR y i j xs σ z).1[i]? = some (some (.str (runR y i j xs σ z).2))
  | [], _, _, h0 => h0
  | x :: xs, σ, z, h0 => by
    refine runR_at y h xs _ _ ?_
    have : i < σ.length := (List.getElem?_eq_some_iff.mp h0).1
    rw [List.getElem?_set_self (by rw [List.length_set]; exact this)]
theorem rep1_len (x y z : Str) : (rep1 x y z).length ≤ x.length + z.length := by
  unfold rep1
  split
  · omega
  · have hl : (Builtin.Str.occurrences x y 0 x.length 1).length * z.length ≤ z.length := by
      have := StrLaws.occ_length_le x y 0 x.length 1
      calc _ ≤ 1 * z.length := Nat.mul_le_mul_right _ this
        _ = _ := Nat.one_mul _
    have hy : (Builtin.Str.glued y (Builtin.Str.partsBetween x (Builtin.Str.occurrences x y 0 x.length 1) y.length)).length = x.length := by rw [StrLaws.glued_between_self]
    rw [size_glued, length_partsBetween, Nat.add_sub_cancel] at hy
    rw [size_glued, length_partsBetween, Nat.add_sub_cancel]
    omega
theorem runR_len (y : Str) (i j b : Nat) : ∀ (xs : List V) (σ : L2.St) (z : Str), (∀ x ∈ xs, (argT x).length ≤ b) → (runR y i j xs σ z).2.length ≤ z.length + xs.length * b
  | [], _, z, _ => by show z.length ≤ _; omega
  | x :: xs, σ, z, h => by
    have := runR_len y i j b xs ((σ.set j (some x)).set i (some (.str (rep1 z y (argT x))))) (rep1 z y (argT x)) fun v hv => h v (List.mem_cons_of_mem _ hv)
    have h2 := rep1_len z y (argT x)
    have h3 := h x List.mem_cons_self
    show (runR y i j xs _ _).2.length ≤ _
    rw [List.length_cons, Nat.add_mul, Nat.one_mul]
    omega
/-- a tuple whose texts' tokens are below k, or of no texts -/
def FTs (K : PySem.W.Frag) (k : Nat) (H : Hp) (p : Addr) (xs : List V) : Prop := FT k H p xs ∨ (SqT K H p xs ∧ ∀ x ∈ xs, ∀ z : Str, x ≠ .str z)
theorem FTs.up {K : PySem.W.Frag} {k j : Nat} {H : Hp} {p : Addr} {xs : List V} (h : FTs K k H p xs) (q : k ≤ j) : FTs K j H p xs := h.imp (fun h => h.up q) id
theorem FTs.same {K : PySem.W.Frag} {k : Nat} {H H2 : Hp} {p : Addr} {xs : List V} (h : FTs K k H p xs) (q : Same H H2) : FTs K k H2 p xs := h.imp (fun h => h.same q) fun h => ⟨q.seqT h.1, h.2⟩
theorem FTs.sq {K : PySem.W.Frag} {k : Nat} {H : Hp} {p : Addr} {xs : List V} (h : FTs K k H p xs) : SqT K H p xs := h.elim (fun h => h.sq) (·.1)
theorem no_str {x : Str} {t : Tok} : ∀ {vs : List V} {us : List Value}, Vals vs us → (∀ v ∈ vs, ∀ z : Str, v ≠ .str z) → Value.str x t ∉ us := by
  intro vs us r
  induction r with
  | nil => exact fun _ m => nomatch m
  | @cons v u vs us r1 r2 ih =>
    intro nt m
    rcases List.mem_cons.mp m with e | m
    · subst e
      cases v with
      | str z => exact nt _ List.mem_cons_self z rfl
      | non => cases r1
      | bl b => cases r1
      | int i => obtain ⟨_, r1⟩ := r1; cases r1
      | byt b => obtain ⟨_, r1⟩ := r1; cases r1
      | flt b => obtain ⟨_, r1⟩ := r1; cases r1
      | ref a => cases r1
      | ty n => cases r1
    · exact ih (fun v hv => nt v (List.mem_cons_of_mem _ hv)) m
def repN (K : PySem.W.Frag) (te : TE) (y : Str) (i j : Nat) : TSn := fun k D σ H => te σ H fun v H1 => ∃ (p : Addr) (xs : List V) (z : Str), v = .ref p ∧ FTs K k H1 p xs ∧ σ[i]? = some (some (.str z)) ∧ (∀ x ∈ xs, argOk y x ∧ (argT x).length ≤ 10000) ∧ z.length ≤ 1000000 ∧ xs.length ≤ 100 ∧ D.nx k (runR y i j xs σ z).1 H1
end
section
variable {X : Cx} {e : Expr} {te : TE}
theorem psn_rep {i j : Nat} {m a : Str} {y : Str} {kc kd : Nat} {pa pm p1 p2 p3 p4 p5 p6 p7 p8 p9 pos : Pos} (hp : PassesOwn (model X.prog X.w) X.A X.env X.xe) (hc : X.calm = true) (hN : X.N.Nodup) (hi : X.N[i]? = some m) (hj : X.N[j]? = some a) (hij : i ≠ j) (hm : X.env.scope.names.lookup m = some .local) (ha : X.env.scope.names.lookup a = some .local)
    (gs : Gl X "str") (ms : X.mg "str" = none) (bs : bootBuiltins "str" = some (.type "str")) (he : PE X e te) (hma : (m == ("__debug__" : Str)) = false := by decide) (haa : (a == ("__debug__" : Str)) = false := by decide)
    (hs : ∀ x, foldedSetIterable e X.env x = pure x := by intro _; rfl)
    (hs2 : swapsWith (.Call (.Attribute (.Name m p1) "replace" p2) [.Constant (.str y) kc p3, .Call (.Name "str" p4) [.Name a p5] [] p6, .Constant (.int 1) kd p7] [] p8) (some (.Name m pm)) p9.line X.env = pure false := by rfl)
    (hbase : attributeBase (.Name m p1) "replace" X.env (eval (.Name m p1) X.env) = eval (.Name m p1) X.env := by rfl)
    (hfew : ((backTo p8 (starEach [.Constant (.str y) kc p3, .Call (.Name "str" p4) [.Name a p5] [] p6, .Constant (.int 1) kd p7] X.env)).all (fun x => !x.1) && (backToKw p8 (keywordEach [] X.env)).all (fun x => x.1.isSome)
      && decide ([Expr.Constant (.str y) kc p3, .Call (.Name "str" p4) [.Name a p5] [] p6, .Constant (.int 1) kd p7].length + ([] : List Keyword).length + (if ([] : List Keyword).isEmpty then 0 else 1) < 30)) = true := by rfl)
    (hline : (p2.endLine == p8.line) = true := by rfl)
    (hst : starEach [.Constant (.str y) kc p3, .Call (.Name "str" p4) [.Name a p5] [] p6, .Constant (.int 1) kd p7] X.env = [(false, eval (.Constant (.str y) kc p3) X.env), (false, eval (.Call (.Name "str" p4) [.Name a p5] [] p6) X.env), (false, eval (.Constant (.int 1) kd p7) X.env)] := by rfl)
    (hsa : starEach [.Name a p5] X.env = [(false, eval (.Name a p5) X.env)] := by rfl) :
    PSn X (.For (.Name a pa) e [.Assign [.Name m pm] (.Call (.Attribute (.Name m p1) "replace" p2) [.Constant (.str y) kc p3, .Call (.Name "str" p4) [.Name a p5] [] p6, .Constant (.int 1) kd p7] [] p8) p9] [] pos) (repN X.K te y i j) := by
  refine ⟨fun pins s σ H D k hk I h => ?_⟩
  refine wpAny_For (thk hk (he.run pins s σ H _ I h) fun v s1 k1 ⟨x1, H1, I1, r1, b, xs, z, e1, hft, hz, hx, hzl, hxl, q⟩ => ?_) hs
  subst e1
  cases r1
  have look : ∀ {sA : Shared} {σA : L2.St}, Inv X pins σA H1 sA → ∃ us : List Value, Vals xs us ∧ sA.heap.IsTuple b us.toArray ∧ Out k us := by
    intro sA σA IA
    rcases hft with ⟨o, us, nn, hb, hd, hout⟩ | ⟨hq, hns⟩
    · obtain ⟨hob, _, us2, rv, o2, ho2, hc2, n2, hd2⟩ := (show ObjOk X.prog X.w H1 sA.heap b (.frz o (.tup xs)) from IA.hok b _ hb)
      rw [hob] at ho2
      cases ho2
      rw [hd] at hd2
      obtain rfl : us = us2 := by
        have e3 := congrArg (fun d : Data => match d with | .seq a _ => a.toList | _ => []) hd2
        simpa using e3
      exact ⟨us, rv, ⟨o, hob, hc2, nn, hd⟩, hout⟩
    · obtain ⟨us, rv, pt, _⟩ := IA.tuple hq
      exact ⟨us, rv, pt, fun y t m => absurd m (no_str rv hns)⟩
  obtain ⟨us0, rv0, tup0, _⟩ := look I1
  refine wpAny_pyIter_tuple tup0 ?_
  have I2 : Inv X pins σ H1 { s1 with heap := s1.heap.push { cls := .type "tuple_iterator", data := .fields #[.ref b, .int 0 0] } } := I1.kept (t' := s1.toks) fun b o e => Heap.get?_push_of_some _ e
  have fp : FpOk X pins H1 s1.heap.objs.size := I1.fpOk (Nat.le_refl _) (I1.hok.fresh (Nat.le_refl _))
  have it0 : ({ s1 with heap := s1.heap.push { cls := .type "tuple_iterator", data := .fields #[.ref b, .int 0 0] } } : Shared).heap.IsTupleIter s1.heap.objs.size b 0 := ⟨_, Heap.get?_push_size _ rfl, rfl, rfl⟩
  have kB : k ≤ ({ s1 with heap := s1.heap.push { cls := .type "tuple_iterator", data := .fields #[.ref b, .int 0 0] } } : Shared).toks := k1
  generalize s1.heap.objs.size = it at fp it0 ⊢
  generalize ({ s1 with heap := s1.heap.push { cls := .type "tuple_iterator", data := .fields #[.ref b, .int 0 0] } } : Shared) = sB at I2 it0 kB ⊢
  obtain ⟨f0, f1, f2, f3, f4, f5⟩ := fp
  refine codeAny_forLoop_any (fun n sA => ∃ g : Nat, n = xs.length - g ∧ g ≤ xs.length ∧ k ≤ sA.toks ∧ Inv X pins (runR y i j (xs.take g) σ z).1 H1 sA ∧ sA.heap.IsTupleIter it b g) ?_ xs.length ⟨0, rfl, Nat.zero_le _, kB, I2, it0⟩
  rintro n sA ⟨g, rfl, hle, kA, IA, itA⟩
  obtain ⟨us, rv, obA, hout⟩ := look IA
  have hul := rv.length
  by_cases hlt : g < xs.length
  · obtain ⟨x, ex⟩ : ∃ x, xs[g]? = some x := ⟨xs[g], by simp [hlt]⟩
    obtain ⟨u, eu, ru⟩ := rv.get ex
    have zi := runR_at y hij (xs.take g) σ z hz
    have zl := runR_len y i j 10000 (xs.take g) σ z fun v hv => (hx v (List.mem_of_mem_take hv)).2
    rw [List.length_take, Nat.min_eq_left hle] at zl
    have tk := List.take_add_one (l := xs) (i := g)
    rw [ex] at tk
    have tk : xs.take (g + 1) = xs.take g ++ [x] := tk
    obtain ⟨okx, lx⟩ := hx x (List.mem_of_getElem? ex)
    refine wpAny_pyNext_tuple_item itA obA (x := u) (by simpa using eu) fun hC itC sb => ?_
    obtain ⟨oi, hoi, hci, hdi⟩ := id itC
    have IC : Inv X pins (runR y i j (xs.take g) σ z).1 H1 { sA with heap := hC } := IA.turned (t' := sA.toks) (fun b o hb e => (sb.2 b hb).trans e) f0 f1 f3 f4 f5
    refine go_of (s := { sA with heap := hC }) hoi hci hdi (by decide) ?_
    refine wpAny_assign_Name (store_at IC hN hj ha ru fun s5 I5 t5 ⟨m5, hn5, hm5⟩ kp5 => ?_)
    have t5 : s5.toks = sA.toks + 1 := t5
    have it5 : s5.heap.IsTupleIter it b (g + 1) := ⟨oi, (kp5 it f1).trans hoi, hci, hdi⟩
    generalize hZ : (runR y i j (xs.take g) σ z).2 = zA at zi zl
    have zi5 : ((runR y i j (xs.take g) σ z).1.set j (some x))[i]? = some (some (.str zA)) := by rw [List.getElem?_set_ne (Ne.symm hij)]; exact zi
    obtain ⟨mm, hnm, hlm⟩ := id I5.loc
    obtain ⟨um, ⟨tm, rm⟩, lm⟩ := hlm i m _ hi zi5 (.inl hm)
    subst rm
    have lm : mm m = some (.str zA tm) := by
      rcases lm with ⟨_, q⟩ | ⟨c, _⟩
      · exact q
      · rcases c with c | c <;> exact absurd (hm.symm.trans c) (fun z => nomatch z)
    refine wpAny_execs_cons (wpAny_Assign_Name ?_ hs2)
    refine wpAny_Call_method_late hbase hfew hline (congrArg (backTo p8) hst) (wpAny_Name (wpAny_loadName_local I5.ok.kind hm hnm lm ?_) hma)
    refine ⟨"str", _, PySem.F.plainAttrs_str, PySem.F.slot_str_replace, PySem.F.type_str_replace, typeIs_str _ _ _, (fun _ e => nomatch e), Calls.callWith_builtin rfl (Calls.evalArgs_plain (Calls.spliced_cons ?_))⟩
    refine Calls.Constant_str (k := kc) (pos := p3) (Calls.spliced_cons ?_)
    refine wpAny_Call_Name_kw (ld_blt (I5.tok _) gs ms bs ?_)
    refine PyProof.Rows.callWith_type1 ?_ hsa rfl
    rw [hsa]
    refine Calls.spliced_cons (wpAny_Name (wpAny_loadName_local I5.ok.kind ha hn5 hm5 (Calls.spliced_nil ?_)) haa)
    have h5 : s5.toks ≠ 0 := by omega
    have kx : k ≤ s5.toks := by omega
    have hx1 : xs.length * 10000 ≤ 1000000 := by omega
    have hx2 : g * 10000 ≤ xs.length * 10000 := Nat.mul_le_mul_right _ hle
    cases x with
    | int nx =>
      obtain ⟨tu, rfl⟩ := ru
      refine PySem.P.str_of_int okx.1 ?_
      have hv : s5.toks + 1 ≠ 0 := by omega
      have hne : s5.toks ≠ s5.toks + 1 := by omega
      refine Calls.spliced_cons (wpAny_Constant_int (k := kd) (pos := p7) (Calls.spliced_nil ?_))
      have lz : zA.length + (argT (.int nx)).length ≤ 16777216 := by omega
      refine call_rep1 h5 hv hne okx.2 lz fun tq kk hk2 => ?_
      refine store_at (v := .str _) (I5.tok kk) hN hi hm ⟨tq, rfl⟩ fun s6 I6 t6 _ kp6 => wpAny_execs_nil ⟨xs.length - (g + 1), by omega, g + 1, rfl, by omega, ?_, ?_, ?_⟩
      · have t6 : s6.toks = kk + 1 := t6
        have hk2 : s5.toks + 1 ≤ kk := Nat.le_trans (by first | exact Nat.le_refl _ | exact Nat.le_succ _ | (show s5.toks + 1 ≤ s5.toks + 1 + 1 + 1; omega) | (show s5.toks + 1 ≤ s5.toks + 1 + 1; omega)) hk2
        omega
      · rw [tk, runR_snoc, hZ]
        exact I6
      · exact ⟨oi, (kp6 it f1).trans ((kp5 it f1).trans hoi), hci, hdi⟩
    | str w =>
      obtain ⟨tu, rfl⟩ := ru
      refine PySem.P.str_of_str ?_
      obtain ⟨hv, hlt3⟩ := hout w tu (List.mem_of_getElem? eu)
      have hne : s5.toks ≠ tu := fun zz => Nat.lt_irrefl _ (by have q := Nat.lt_of_lt_of_le hlt3 kx; rw [zz] at q; exact q)
      refine Calls.spliced_cons (wpAny_Constant_int (k := kd) (pos := p7) (Calls.spliced_nil ?_))
      have lz : zA.length + (argT (.str w)).length ≤ 16777216 := by omega
      refine call_rep1 h5 hv hne okx lz fun tq kk hk2 => ?_
      refine store_at (v := .str _) (I5.tok kk) hN hi hm ⟨tq, rfl⟩ fun s6 I6 t6 _ kp6 => wpAny_execs_nil ⟨xs.length - (g + 1), by omega, g + 1, rfl, by omega, ?_, ?_, ?_⟩
      · have t6 : s6.toks = kk + 1 := t6
        have hk2 : s5.toks + 1 ≤ kk := Nat.le_trans (by first | exact Nat.le_refl _ | exact Nat.le_succ _ | (show s5.toks + 1 ≤ s5.toks + 1 + 1 + 1; omega) | (show s5.toks + 1 ≤ s5.toks + 1 + 1; omega)) hk2
        omega
      · rw [tk, runR_snoc, hZ]
        exact I6
      · exact ⟨oi, (kp6 it f1).trans ((kp5 it f1).trans hoi), hci, hdi⟩
    | non => exact okx.elim
    | bl c => exact okx.elim
    | byt c => exact okx.elim
    | flt c => exact okx.elim
    | ref c => exact okx.elim
    | ty c => exact okx.elim
  · have hge : xs.length ≤ g := by omega
    have eg : g = xs.length := by omega
    subst eg
    rw [List.take_length] at IA
    refine wpAny_pyNext_tuple_end (I.ok.hd hc) itA obA (by simp; omega) fun hC eb => ?_
    have IC : Inv X pins (runR y i j xs σ z).1 H1 { sA with heap := hC } := IA.turned (t' := sA.toks) (fun b o hb e => eb b o hb e) f0 f1 f3 f4 f5
    exact wpAny_execs_nil ⟨k, kA, _, H1, IC, q⟩
end
end RTk

set_option Elab.async false
set_option linter.all false
set_option maxRecDepth 100000
set_option maxHeartbeats 4000000
/-! None as a key: d.get(x, z) where x may be None. -/
namespace RZN
open PySem PySem.Spec PyProof.Rows L2 RC
section
variable {X : Cx} {pins : List (Addr × Obj)} {σ : L2.St} {H : Hp} {s : Shared} {a : Addr} {kvs : List (Key × V)} {A : Around} {E : Value → Shared → Prop} {r : Value}
theorem none_get2 {Q : Value → Shared → Prop} (I : Inv X pins σ H s) (e : Rd H a (.dK kvs)) (h : ∀ s', Inv X pins σ H s' → Q r s') :
    wpAny (model X.prog X.w) A (call (.builtin "dict.get") [.ref a, .none, r]) Q E s := by
  obtain ⟨_, hd, vs, rel, dd⟩ := dk_rd I.hok e
  obtain ⟨g, mp, g0⟩ := none_map dd
  refine call_meetsIn PySem.F.slot_dict_get dd.typeIs PySem.F.entry_dict_get (PySem.F.args_dict_get_3 _ _ _) (meets_dict_get_default (noneKind X.prog X.w) a (show (noneKind X.prog X.w).is none .none = true from rfl) hd r) ⟨g, mp, ?_⟩
  rw [g0]
  exact h _ (I.tok _)
end
def tDGetN2 (td ty tx : TE) : TE := fun σ H Q => td σ H fun x H1 => ∃ a, x = .ref a ∧ IsD H1 a ∧ ty σ H1 fun y H2 => tx σ H2 fun z H3 => (∃ o, DGet H3 a y o ∧ Q (o.getD z) H3) ∨ ∃ kvs, y = .non ∧ Rd H3 a (.dK kvs) ∧ Q z H3
section
variable {X : Cx} {o e f : Expr} {td ty tx : TE} {apos cpos : Pos}
theorem pe_dgetN2 (hu : X.A.units + 1 < cLine) (ho : PE X o td) (he : PE X e ty) (hf : PE X f tx) (m : M2 X o "get" apos e f cpos) : PE X (.Call (.Attribute o "get" apos) [e, f] [] cpos) (tDGetN2 td ty tx) := by
  refine ⟨fun pins s σ H Q I h => ?_⟩
  refine wpAny_Call_method m.base m.few m.line PySem.F.plainAttrs_dict PySem.F.slot_dict_get PySem.F.type_dict_get (thn (ho.run pins s σ H _ I h) fun du sA ⟨x, HA, IA, rx, a, ex, isd, qA⟩ => ?_)
  subst ex
  obtain rfl : du = Value.ref a := rx
  obtain ⟨k1, k2, _⟩ := isD_at IA isd
  refine ⟨k1, k2, ?_⟩
  rw [m.trees]
  refine Calls.callWith_builtin rfl (Calls.evalArgs_plain (Calls.spliced_cons (thn (he.run pins sA σ HA _ IA qA) fun ku sB ⟨y, HB, IB, ry, qB⟩ =>
    Calls.spliced_cons (thn (hf.run pins sB σ HB _ IB qB) fun zu sC ⟨z, HC, IC, rz, qC⟩ => Calls.spliced_nil ?_))))
  rcases qC with ⟨ov, g, q⟩ | ⟨kvs, ey, g, q⟩
  · exact d_get2 hu IC g ry rz fun w' sD ID rw' => ⟨_, HC, ID, rw', q⟩
  · subst ey
    obtain rfl : ku = Value.none := ry
    exact none_get2 IC g fun sD ID => ⟨z, HC, ID, rz, q⟩
end
end RZN

set_option Elab.async false
set_option linter.all false
set_option maxRecDepth 100000
set_option maxHeartbeats 0

namespace K17
open PySem PySem.Spec PyProof.Rows L2 RC
section
variable {P : Program} {w : World} {K : PySem.W.Frag} {mg : Str → Option Value} {base : Heap}
/-! ### the law's world -/
theorem stm_new {H : Hp} {s l D : Addr} {n : Nat} (h : Stm H s l n) (hD : H D = none) : D ≠ s ∧ D ≠ l :=
  ⟨fun z => (by obtain ⟨_, _, _, _, _, z1, _⟩ := h; rw [z, z1] at hD; cases hD), fun z => (by obtain ⟨_, _, _, _, _, _, z1, _⟩ := h; rw [z, z1] at hD; cases hD)⟩
theorem old_new {s l D : Addr} {H H' : Hp} {o : HO} (h : Old s l H H') (hD : H D = none) : Old s l H (upd H' D o) := fun b u h1 h2 e => by rw [upd_ne (ne_of_none e hD)]; exact h b u h1 h2 e
def spPick (K : PySem.W.Frag) : Sp := fun vs H Q _ => ∃ (s l p : Addr) (n : Nat) (xs : List V), vs = [.ref s, .ref p] ∧ Stm H s l n ∧ n ≤ 1000000 ∧ p ≠ s ∧ p ≠ l ∧ H p = some (.lst xs) ∧ 1 ≤ xs.length ∧ xs.length ≤ 1000 ∧ ∀ (H' : Hp) (x : V), Old s l H H' → Stm H' s l (n + 1) → x ∈ xs → Q x H'
theorem ok_pick {f : Addr} (T : Txt P w K mg) (F : Stands K "_law_pick" "_law_pick" s__law_pick [] f) (c__law_draw : Callable P w K mg base 1 (He.ga K "_law_draw") ["_law_stream", "_law_many"] [] spDraw) : Callable P w K mg base 2 f ["_law_stream", "_law_some"] [] (spPick K) := by
  refine F.call0 sc__law_pick (fun vs H Q E h => ?_) (fun cdv A outer s H vs Q E hr h => ?_) (fun _ _ _ _ _ _ us hl => match us, hl with | [_, _], _ => rfl)
  · obtain ⟨s, l, p, n, xs, rfl, _⟩ := h; rfl
  obtain ⟨s, l, p, n, xs, rfl, hs, hn, nps, npl, hp, hx1, hx2, hQ⟩ := h
  refine ⟨_, (pss_one (ps_ret (pe_ix ix_list (pv 1) (pe_fn T.g__law_draw c__law_draw (hr.mono (by first | decide | exact Nat.le_refl _)) (by rfl) (pa_cons (pv 0) (pa_cons (pe_callB call_len (by rfl) T.b_len (by decide +kernel) (pa_cons (pv 1) pa_nil)) pa_nil))) (fun _ _ => rfl)))), ?_⟩
  refine ⟨_, rfl, _, rfl, _, rfl, _, xs.length, rfl, .inl ⟨xs, SqL.of hp, rfl⟩, s, l, n, xs.length, rfl, hs, hn, by omega, by omega, fun H' d h1 h2 h3 h4 => ?_⟩
  obtain ⟨j, rfl⟩ := Int.eq_ofNat_of_zero_le h3
  have hj : j < xs.length := by omega
  refine ⟨p, xs, j, xs[j], rfl, rfl, SqL.of (h1 _ _ nps npl hp), atI_nat (by simp [hj]), ?_⟩
  exact hQ H' _ h1 h2 (List.getElem_mem hj)
/-- the yard with its files as one component -/
def cF (K : PySem.W.Frag) (s : FS) (ad : Ro → Addr) : RS.Comp := ⟨Ro, Y1 K s ad, ad⟩
def FS.s0 (now : Int) : FS := ⟨now, [], fun _ => 0, [], [], []⟩
def adY (y dy : Addr) (q : YParts) : Ro → Addr
  | .y => y | .fi => q.fi | .na => q.na | .nu => q.nu | .md => q.md | .fr => q.fr | .st => q.st | .h _ => 0 | .hl _ => 0 | .ft _ => 0 | .row _ => 0
  | .x 0 => dy | .x 2 => q.lm | .x 3 => q.hn | .x 4 => q.rt | .x 5 => q.lr | .x _ => 0
theorem YNew.repF {now : Int} {H H2 : Hp} {y dy : Addr} {q : YParts} (hy : H y = none) (hd : H dy = none) (hne : dy ≠ y) (N : YNew K (upd (upd H dy (.own y)) y (.ins (CY K) dy [])) H2 y dy now q) : ∃ ad : Ro → Addr, ad .y = y ∧ YR K (FS.s0 now) ad H2 ∧ (∀ r u, Y1 K (FS.s0 now) ad r = some u → H (ad r) = none) ∧ Same H H2 := by
  obtain ⟨rd, ld, F⟩ := N.fr
  have S : Same H H2 := made_same hy hd F.kp
  have gy := N.y
  have gm := N.md
  have hm0 : H q.md = none := by
    rcases F.old q.md List.mem_cons_self with c | c
    · rw [c, gy] at gm; cases gm
    · exact (upd_none (upd_none c).2).2
  have nym : y ≠ q.md := fun z => by rw [← z, gy] at gm; cases gm
  have k0 : ∀ e ∈ q.L K y rd ld, H e.1 = none ∧ H2 e.1 = some e.2 := fun e he => ⟨(upd_none (upd_none (F.has e he).2.1).2).2, (F.has e he).2.2⟩
  have nL : ∀ e ∈ q.L K y rd ld, e.1 ≠ y ∧ e.1 ≠ q.md := fun e he => by
    have := (F.has e he).1
    simp only [List.mem_cons, List.not_mem_nil, or_false, not_or] at this
    exact ⟨this.2, this.1⟩
  have main := RS.rep_list (M := Y1 K (FS.s0 now) (adY y dy q)) (ad := adY y dy q) (H0 := H) (H := H2) [(.y, y, .ins (CY K) dy (yF now q.st q.fi q.na q.nu q.lm q.md q.hn q.fr q.rt q.lr)), (.md, q.md, .lst []),
    (.x 0, q.ll, .lst []), (.x 0, q.lr, .ins (He.ga K "StreamHandler") ld (hF q.ll y ++ ([("stream", .str "stderr")] : List (Str × V)))), (.x 0, q.rh, .lst []), (.x 0, q.rl, .lst []), (.x 0, q.rt, .ins (CL K) rd (lF q.rl y "root" 30 q.rh .non)), (.fr, q.fr, .lst []), (.x 0, q.hn, .dK []), (.x 0, q.lm, .dK []), (.nu, q.nu, .dK (kv_FIRST_NUMBERS.map fun q => (q.1, q.2.v K))), (.na, q.na, .dK (kv_FIRST_NAMES.map fun q => (q.1, q.2.v K))), (.fi, q.fi, .dK []), (.st, q.st, .dK [])]
    (fun r o e => ?_) ?_ (fun x hx => ?_)
  · exact ⟨_, rfl, main.1, main.2, S⟩
  · cases r with
    | y => cases e; simp [adY]; rfl
    | fi => cases e; simp [adY]; rfl
    | na => cases e; simp [adY]; rfl
    | nu => cases e; simp [adY]; rfl
    | md => cases e; simp [adY]; rfl
    | fr => cases e; simp [adY]; rfl
    | st => cases e; simp [adY]
    | h i => cases e
    | hl i => cases e
    | ft i => cases e
    | row x => cases e
    | x j => cases e
  · show (y :: q.md :: (q.L K y rd ld).map (·.1)).Nodup
    refine List.nodup_cons.mpr ⟨fun z => ?_, List.nodup_cons.mpr ⟨fun z => ?_, F.nd⟩⟩
    · rcases List.mem_cons.mp z with z | z
      · exact nym z
      · obtain ⟨e, he, z⟩ := List.mem_map.mp z
        exact (nL e he).1 z
    · obtain ⟨e, he, z⟩ := List.mem_map.mp z
      exact (nL e he).2 z
  · rcases List.mem_cons.mp hx with rfl | hx
    · exact ⟨hy, gy⟩
    rcases List.mem_cons.mp hx with rfl | hx
    · exact ⟨hm0, gm⟩
    simp only [List.mem_cons, List.not_mem_nil, or_false] at hx
    rcases hx with rfl | rfl | rfl | rfl | rfl | rfl | rfl | rfl | rfl | rfl | rfl | rfl <;> exact k0 _ (by simp [YParts.L])
theorem Ap.of {H : Hp} {s l : Addr} {n : Nat} {st : FS} {ad : Ro → Addr} {G : Hp} {cs : List RS.Comp} (W : RS.Wd H s l n (cF K st ad :: RS.cG G :: cs)) : Ap K st ad G H :=
  ⟨W.g1, fun b o e => (List.pairwise_cons.mp W.pw).1 (RS.cG G) List.mem_cons_self b o e⟩
/-- all that was laid since, as what never changes -/
noncomputable def gAdd (G H H' : Hp) : Hp := open Classical in fun b => if H b = none then H' b else G b
theorem _root_.RS.Wd.layAll {H H' G : Hp} {s l : Addr} {n : Nat} {cs : List RS.Comp} (W : RS.Wd H s l n (RS.cG G :: cs)) (e : Same H H') : RS.Wd H' s l n (RS.cG (gAdd G H H') :: cs) ∧ Same G (gAdd G H H') ∧ ∀ b o, H b = none → H' b = some o → gAdd G H H' b = some o := by
  have g0 := W.g0
  have key : ∀ b o, gAdd G H H' b = some o → (H b = none ∧ H' b = some o) ∨ (H b ≠ none ∧ G b = some o) := fun b o h => by
    unfold gAdd at h
    by_cases c : H b = none
    · rw [if_pos c] at h; exact .inl ⟨c, h⟩
    · rw [if_neg c] at h; exact .inr ⟨c, h⟩
  have W' := W.same e
  have h1 := List.pairwise_cons.mp W.pw
  have nst : ∀ b, H b = none → b ≠ s ∧ b ≠ l := fun b hb => stm_new W.stm hb
  refine ⟨⟨W'.stm, fun d hd => ?_, List.pairwise_cons.mpr ⟨fun d hd r u er r' u' er' z => ?_, h1.2⟩, fun d hd => ?_⟩, fun b o h => ?_, fun b o h1 h2 => ?_⟩
  · rcases List.mem_cons.mp hd with rfl | hd
    · refine ⟨fun b o h => ?_, fun _ _ _ _ _ _ z => z⟩
      rcases key b o h with ⟨_, h⟩ | ⟨_, h⟩
      · exact h
      · exact e _ _ (g0 _ _ h)
    · exact W'.rep d (List.mem_cons_of_mem _ hd)
  · rcases key r' u' er' with ⟨hn, _⟩ | ⟨_, hg⟩
    · have := (W.rep d (List.mem_cons_of_mem _ hd)).at_ r u er
      have z : r' = d.ad r := z
      rw [← z, hn] at this; cases this
    · exact h1.1 d hd r u er r' u' hg z
  · rcases List.mem_cons.mp hd with rfl | hd
    · have a := W.os _ List.mem_cons_self
      refine ⟨fun r u h => ?_, fun r u h => ?_⟩
      · rcases key r u h with ⟨hn, _⟩ | ⟨_, hg⟩
        · exact (nst r hn).1
        · exact a.1 r u hg
      · rcases key r u h with ⟨hn, _⟩ | ⟨_, hg⟩
        · exact (nst r hn).2
        · exact a.2 r u hg
    · exact W'.os d (List.mem_cons_of_mem _ hd)
  · unfold gAdd
    rw [if_neg (by rw [g0 _ _ h]; exact fun z => nomatch z)]; exact h
  · unfold gAdd
    rw [if_pos h1]; exact h2
/-! ### same, of texts and tuples -/
theorem walkZT {K : PySem.W.Frag} {a b : Addr} {xs ys : List V} (e : xs.length = ys.length) : Walk (RZ.ItzT K a b) xs.length (fun H => SqT K H a xs ∧ SqT K H b ys) (YPair (fun i => xs[i]?) (fun i => ys[i]?)) := by
  constructor
  · intro j _ hj ⟨ea, eb⟩
    have hj2 : j < ys.length := e ▸ hj
    exact ⟨xs, ys, _, _, ea, eb, List.getElem?_eq_getElem hj, List.getElem?_eq_getElem hj2⟩
  · intro _ ⟨ea, eb⟩
    exact ⟨xs, ys, ea, eb, Or.inl (Nat.le_refl _)⟩
  · intro j _ _ _ _ ⟨ea, eb⟩ ⟨T, x, z, k1, k2, k3, k4, k5⟩
    exact ⟨T, x, z, k1, k2, k3, k4 _ ea, k5 _ eb⟩
theorem walkZL {K : PySem.W.Frag} {a b : Addr} {xs ys : List V} (e : xs.length = ys.length) : Walk (Itz K a b) xs.length (fun H => SqL K H a xs ∧ SqL K H b ys) (YPair (fun i => xs[i]?) (fun i => ys[i]?)) := by
  constructor
  · intro j _ hj ⟨ea, eb⟩
    have hj2 : j < ys.length := e ▸ hj
    exact ⟨xs, ys, _, _, ea, eb, List.getElem?_eq_getElem hj, List.getElem?_eq_getElem hj2⟩
  · intro _ ⟨ea, eb⟩
    exact ⟨xs, ys, ea, eb, Or.inl (Nat.le_refl _)⟩
  · intro j _ _ _ _ ⟨ea, eb⟩ ⟨T, x, z, k1, k2, k3, k4, k5⟩
    exact ⟨T, x, z, k1, k2, k3, k4 _ ea, k5 _ eb⟩
/-- what is the same, up to n deep -/
inductive SameD (H : Hp) : Nat → V → V → Prop where
  | str (n : Nat) (x : Str) : SameD H (n + 1) (.str x) (.str x)
  | non (n : Nat) : SameD H (n + 1) .non .non
  | int (n : Nat) (i : Int) : SameD H (n + 1) (.int i) (.int i)
  | bl (n : Nat) (b : Bool) : SameD H (n + 1) (.bl b) (.bl b)
  | tup {n : Nat} {a b : Addr} {xs ys : List V} (ha : H a = some (.tup xs)) (hb : H b = some (.tup ys)) (hl : xs.length = ys.length) (hs : xs.length ≤ 1000000) (h : ∀ (i : Nat) (x y : V), xs[i]? = some x → ys[i]? = some y → SameD H n x y) : SameD H (n + 1) (.ref a) (.ref b)
  | dic {n : Nat} {a b : Addr} {ts : List (Str × Str)} (ha : H a = some (.dK (strK ts))) (hb : H b = some (.dK (strK ts))) (nd : (ts.map (·.1)).Nodup) (hs : ts.length ≤ 1000000) (h3 : 3 ≤ n) : SameD H (n + 1) (.ref a) (.ref b)
  | lst {n : Nat} {a b : Addr} {xs ys : List V} (ha : H a = some (.lst xs)) (hb : H b = some (.lst ys)) (hl : xs.length = ys.length) (hs : xs.length ≤ 1000000) (h : ∀ (i : Nat) (x y : V), xs[i]? = some x → ys[i]? = some y → SameD H n x y) : SameD H (n + 1) (.ref a) (.ref b)
theorem SameD.same {H H' : Hp} (s : Same H H') : ∀ {n : Nat} {x y : V}, SameD H n x y → SameD H' n x y
  | _, _, _, .str n x => .str n x
  | _, _, _, .non n => .non n
  | _, _, _, .int n i => .int n i
  | _, _, _, .bl n b => .bl n b
  | _, _, _, .tup ha hb hl hs h => .tup (s _ _ ha) (s _ _ hb) hl hs fun i x y hx hy => (h i x y hx hy).same s
  | _, _, _, .dic ha hb nd hs h3 => .dic (s _ _ ha) (s _ _ hb) nd hs h3
  | _, _, _, .lst ha hb hl hs h => .lst (s _ _ ha) (s _ _ hb) hl hs fun i x y hx hy => (h i x y hx hy).same s
def spSame (n : Nat) : Sp := fun vs H Q _ => ∃ x y : V, vs = [x, y] ∧ SameD H n x y ∧ ∀ H', Same H H' → Q (.bl true) H'
theorem ok_same {f : Addr} (T : Txt P w K mg) (F : Stands K "_law_same" "_law_same" s__law_same [] f) (e : f = He.ga K "_law_same") : ∀ n : Nat, Callable P w K mg base (n + 1) f ["_law_found", "_law_due_here"] [] (spSame n)
  | 0 => by
    refine F.call0 sc__law_same (fun vs H Q E h => ?_) (fun cdv A outer s H vs Q E hr h => ?_) (fun _ _ _ _ _ _ us hl => match us, hl with | [_, _], _ => rfl)
    · obtain ⟨x, y, rfl, _⟩ := h; rfl
    · obtain ⟨x, y, rfl, h, _⟩ := h; cases h
  | n + 1 => by
    have c__law_same := ok_same T F e n
    rw [e] at c__law_same
    refine F.call0 sc__law_same (fun vs H Q E h => ?_) (fun cdv A outer s H vs Q E hr h => ?_) (fun _ _ _ _ _ _ us hl => match us, hl with | [_, _], _ => rfl)
    · obtain ⟨x, y, rfl, _⟩ := h; rfl
    obtain ⟨x, y, rfl, h, hQ⟩ := h
    refine ⟨_, (pss_cons (ps_if (pt_val (pe_callB call_isi (by rfl) T.b_isinstance (by decide +kernel) (pa_cons (pv 1) (pa_cons (pe_bltn (v := .ty "dict") (u := .type "dict") (by rfl) T.b_dict (by decide +kernel) rfl) pa_nil)))) (pss_one (ps_ret (pe_and (pe_callB call_isi (by rfl) T.b_isinstance (by decide +kernel) (pa_cons (pv 0) (pa_cons (pe_bltn (v := .ty "dict") (u := .type "dict") (by rfl) T.b_dict (by decide +kernel) rfl) pa_nil))) (pe_one (pe_fn T.g__law_same c__law_same (hr.mono (by first | decide | exact Nat.le_refl _)) (by rfl) (pa_cons (pe_callB (RSi.cr_sortedKT rfl) (by rfl) T.b_sorted (by decide +kernel) (pa_cons (pe_bm0 PySem.F.plainAttrs_dict PySem.F.slot_dict_items PySem.F.type_dict_items RSi.mt_itemsK (pv 0)) pa_nil)) (pa_cons (pe_callB (RSi.cr_sortedKT rfl) (by rfl) T.b_sorted (by decide +kernel) (pa_cons (pe_bm0 PySem.F.plainAttrs_dict PySem.F.slot_dict_items PySem.F.type_dict_items RSi.mt_itemsK (pv 1)) pa_nil)) pa_nil))))))) pss_nil)
      (pss_cons (ps_if (pt_val (pe_callB call_isiT (by rfl) T.b_isinstance (by decide +kernel) (pa_cons (pv 1) (pa_cons (pe_tup (pa_cons (pe_bltn (v := .ty "list") (u := .type "list") (by rfl) T.b_list (by decide +kernel) rfl) (pa_cons (pe_bltn (v := .ty "tuple") (u := .type "tuple") (by rfl) T.b_tuple (by decide +kernel) rfl) pa_nil))) pa_nil)))) (pss_cons (ps_if (PW.pt (pw_or (pt_cmpR op_ne (pe_callB call_isi (by rfl) T.b_isinstance (by decide +kernel) (pa_cons (pv 0) (pa_cons (pe_bltn (v := .ty "list") (u := .type "list") (by rfl) T.b_list (by decide +kernel) rfl) pa_nil))) (pe_callB call_isi (by rfl) T.b_isinstance (by decide +kernel) (pa_cons (pv 1) (pa_cons (pe_bltn (v := .ty "list") (u := .type "list") (by rfl) T.b_list (by decide +kernel) rfl) pa_nil))) (nomark _)) (pw_or1 (pt_cmpR op_ne (pe_callB call_isi (by rfl) T.b_isinstance (by decide +kernel) (pa_cons (pv 0) (pa_cons (pe_bltn (v := .ty "tuple") (u := .type "tuple") (by rfl) T.b_tuple (by decide +kernel) rfl) pa_nil))) (pe_callB call_isi (by rfl) T.b_isinstance (by decide +kernel) (pa_cons (pv 1) (pa_cons (pe_bltn (v := .ty "tuple") (u := .type "tuple") (by rfl) T.b_tuple (by decide +kernel) rfl) pa_nil))) (nomark _))))) (pss_one (ps_ret pe_bl)) pss_nil)
      (pss_one (ps_ret (pe_and (pe_cmpR op_eq (pe_callB call_len (by rfl) T.b_len (by decide +kernel) (pa_cons (pv 0) pa_nil)) (pe_callB call_len (by rfl) T.b_len (by decide +kernel) (pa_cons (pv 1) pa_nil)) (nomark _)) (pe_one (pe_callB (cr_all rfl) (by rfl) T.b_all (by decide +kernel) (pa_cons (pe_lc (own := [("_law_one", 2), ("_law_two", 3)]) (by rfl) sc__law_same.nd (RZ.pi_zipA (by rfl) T.b_zip (pa_cons (pv 0) (pa_cons (pv 1) pa_nil))) (blkOk_by (own := [("_law_one", 2), ("_law_two", 3)]) (N := nm__law_same) (sc := defScope s__law_same) (by decide +kernel)) (fun _ _ _ _ _ => (RG.pg_tupK (K := K) (n := 2) (by rfl) (pgs_cons (pg_name (i := 2) sc__law_same.nd rfl (by first | exact Or.inl rfl | exact Or.inr rfl)) (pgs_cons (pg_name (i := 3) sc__law_same.nd rfl (by first | exact Or.inl rfl | exact Or.inr rfl)) pgs_nil)))) (fun _ _ _ _ _ => pts_nil) (fun _ _ _ _ _ => (pe_fn T.g__law_same c__law_same (hr.mono (by first | decide | exact Nat.le_refl _)) (by rfl) (pa_cons (pv 2) (pa_cons (pv 3) pa_nil))))) pa_nil))))))) pss_nil)
      (pss_cons (ps_if (pt_val (pe_callB call_isi (by rfl) T.b_isinstance (by decide +kernel) (pa_cons (pv 1) (pa_cons (pe_bltn (v := .ty "int") (u := .type "int") (by rfl) T.b_int (by decide +kernel) rfl) pa_nil)))) (pss_one (ps_ret (pe_and (pe_callB call_isi (by rfl) T.b_isinstance (by decide +kernel) (pa_cons (pv 0) (pa_cons (pe_bltn (v := .ty "int") (u := .type "int") (by rfl) T.b_int (by decide +kernel) rfl) pa_nil))) (pe_and (pe_cmpR op_eq (pe_callB call_isi (by rfl) T.b_isinstance (by decide +kernel) (pa_cons (pv 0) (pa_cons (pe_bltn (v := .ty "bool") (u := .type "bool") (by rfl) T.b_bool (by decide +kernel) rfl) pa_nil))) (pe_callB call_isi (by rfl) T.b_isinstance (by decide +kernel) (pa_cons (pv 1) (pa_cons (pe_bltn (v := .ty "bool") (u := .type "bool") (by rfl) T.b_bool (by decide +kernel) rfl) pa_nil))) (nomark _)) (pe_one (pe_cmpR op_eq (pv 0) (pv 1) (nomark _))))))) pss_nil)
      (pss_one (ps_ret (pe_and (pe_cmpR op_isBl (pe_callB call_isiT (by rfl) T.b_isinstance (by decide +kernel) (pa_cons (pv 0) (pa_cons (pe_tup (pa_cons (pe_bltn (v := .ty "bool") (u := .type "bool") (by rfl) T.b_bool (by decide +kernel) rfl) (pa_cons (pe_bltn (v := .ty "int") (u := .type "int") (by rfl) T.b_int (by decide +kernel) rfl) (pa_cons (pe_bltn (v := .ty "list") (u := .type "list") (by rfl) T.b_list (by decide +kernel) rfl) (pa_cons (pe_bltn (v := .ty "tuple") (u := .type "tuple") (by rfl) T.b_tuple (by decide +kernel) rfl) (pa_cons (pe_bltn (v := .ty "dict") (u := .type "dict") (by rfl) T.b_dict (by decide +kernel) rfl) pa_nil)))))) pa_nil))) pe_bl (nomark _)) (pe_one (pe_cmpR op_eq (pv 0) (pv 1) (nomark _))))))))), ?_⟩
    walk_at "in"
    cases h with
    | str _ x =>
      walk_at "gi"
      rw [show decide (V.str x = V.str x) = true from decide_eq_true rfl]
      exact hQ _ (by walk_at "sm")
    | non =>
      walk_at "gi"
      exact hQ _ (by walk_at "sm")
    | int _ i =>
      walk_at "gi"
      rw [show decide (V.int i = V.int i) = true from decide_eq_true rfl]
      exact hQ _ (by walk_at "sm")
    | bl _ i =>
      walk_at "gi"
      rw [show decide (V.bl i = V.bl i) = true from decide_eq_true rfl]
      exact hQ _ (by walk_at "sm")
    | @tup _ a b xs ys ha hb hl hs h =>
      walk_at "gi"
      have el : decide (V.int xs.length = V.int ys.length) = true := by rw [hl]; exact decide_eq_true rfl
      walk_at "gi"
      rename_i T0 fT0
      have s0 : Same H (upd H T0 (.tup [.ty "list", .ty "tuple"])) := same_new fT0 _
      generalize upd H T0 (.tup [.ty "list", .ty "tuple"]) = H1 at s0 ⊢
      refine .inr ⟨SqT.of (s0 _ _ ha), SqT.of (s0 _ _ hb), fun D fD' => ?_⟩
      refine lc_it (walkZT (xs := xs) (ys := ys) hl) (fun i H' => Same H1 H' ∧ H' D = some (.lst ((List.replicate i true).map V.bl))) ⟨same_new fD' _, upd_same⟩ (fun i H' _ h => ⟨SqT.of (h.1 _ _ (s0 _ _ ha)), SqT.of (h.1 _ _ (s0 _ _ hb))⟩) (fun i v H2 H3 hi hP hv => ?_) (fun H2 hP => ?_)
      · obtain ⟨T, x, y, rfl, fT, rfl, hx, hy⟩ := hv
        obtain ⟨s2, d2⟩ := hP
        have s23 : Same H1 (upd H2 T (.tup [x, y])) := s2.trans (same_new fT _)
        have hd := (h i x y hx hy).same (s0.trans s23)
        have d3 : upd H2 T (.tup [x, y]) D = some (.lst ((List.replicate i true).map V.bl)) := same_new fT _ _ _ d2
        have q3 : upd H2 T (.tup [x, y]) T = some (.tup [x, y]) := upd_same
        clear fT
        generalize upd H2 T (.tup [x, y]) = H3 at hd d3 q3 s23
        walk_at "go"
        intro H4 s4
        walk_at "go"
        rw [upd_same, List.replicate_succ', List.map_append]; rfl
      · obtain ⟨s2, d2⟩ := hP
        refine ⟨D, List.replicate xs.length true, rfl, SqL.of d2, ?_⟩
        rw [show (List.replicate xs.length true).all id = true from by simp]
        exact hQ _ (s0.trans s2)
    | @dic _ a b ts ha hb nd hs h3 =>
      walk_at "gi"
      refine ⟨.inr (.inr (.inl ⟨rfl, .inl ⟨_, ha⟩⟩)), a, _, rfl, rfl, ha, fun p fp => ?_⟩
      refine ⟨p, a, ts, rfl, upd_same, by rw [upd_ne (ne_of_none ha fp)]; exact ha, nd, fun H2 l ps s2 pm so hl ht => ?_⟩
      have sA : Same H H2 := (same_new fp _).trans s2
      have hb2 := sA _ _ hb
      refine ⟨_, rfl, .inr (.inr (.inl ⟨rfl, .inl ⟨_, hb2⟩⟩)), b, _, rfl, rfl, hb2, fun p2 fp2 => ?_⟩
      refine ⟨p2, b, ts, rfl, upd_same, by rw [upd_ne (ne_of_none hb2 fp2)]; exact hb2, nd, fun H3 l2 ps2 s3 pm2 so2 hl2 ht2 => ?_⟩
      have sB : Same H2 H3 := (same_new fp2 _).trans s3
      have up := RSi.uniq nd pm pm2 so so2
      have len : ps.length = ps2.length := by
        have := congrArg List.length up
        rw [List.length_map, List.length_map] at this; exact this
      have lt : ps.length ≤ 1000000 := by
        have := pm.length_eq
        rw [List.length_map] at this; omega
      obtain ⟨m, rfl⟩ : ∃ m, n = m + 3 := ⟨n - 3, by omega⟩
      refine ⟨_, _, rfl, .lst (sB _ _ hl) hl2 (by rw [List.length_map, List.length_map]; exact len) (by rw [List.length_map]; exact lt) (fun i x y hx hy => ?_), fun H' s4 => hQ H' ((sA.trans sB).trans s4)⟩
      rw [List.getElem?_map] at hx hy
      obtain ⟨z1, g1, rfl⟩ := Option.map_eq_some_iff.mp hx
      obtain ⟨z2, g2, rfl⟩ := Option.map_eq_some_iff.mp hy
      have e2 : z1.2 = z2.2 := by
        have a1 : (ps.map (·.2))[i]? = some z1.2 := by rw [List.getElem?_map, g1]; rfl
        have a2 : (ps2.map (·.2))[i]? = some z2.2 := by rw [List.getElem?_map, g2]; rfl
        rw [up, a2] at a1
        exact (Option.some.inj a1).symm
      refine .tup (sB _ _ (ht z1 (List.mem_of_getElem? g1))) (ht2 z2 (List.mem_of_getElem? g2)) rfl (by show 2 ≤ 1000000; decide) fun j x y hx hy => ?_
      rw [e2] at hx
      rw [hx] at hy
      cases hy
      match j, hx with
      | 0, hx => cases hx; exact .str _ _
      | 1, hx => cases hx; exact .str _ _
    | @lst _ a b xs ys ha hb hl hs h =>
      walk_at "gi"
      have el : decide (V.int xs.length = V.int ys.length) = true := by rw [hl]; exact decide_eq_true rfl
      walk_at "gi"
      rename_i T0 fT0
      have s0 : Same H (upd H T0 (.tup [.ty "list", .ty "tuple"])) := same_new fT0 _
      generalize upd H T0 (.tup [.ty "list", .ty "tuple"]) = H1 at s0 ⊢
      refine .inl ⟨SqL.of (s0 _ _ ha), SqL.of (s0 _ _ hb), fun D fD' => ?_⟩
      refine lc_it (walkZL (xs := xs) (ys := ys) hl) (fun i H' => Same H1 H' ∧ H' D = some (.lst ((List.replicate i true).map V.bl))) ⟨same_new fD' _, upd_same⟩ (fun i H' _ h => ⟨SqL.of (h.1 _ _ (s0 _ _ ha)), SqL.of (h.1 _ _ (s0 _ _ hb))⟩) (fun i v H2 H3 hi hP hv => ?_) (fun H2 hP => ?_)
      · obtain ⟨T, x, y, rfl, fT, rfl, hx, hy⟩ := hv
        obtain ⟨s2, d2⟩ := hP
        have s23 : Same H1 (upd H2 T (.tup [x, y])) := s2.trans (same_new fT _)
        have hd := (h i x y hx hy).same (s0.trans s23)
        have d3 : upd H2 T (.tup [x, y]) D = some (.lst ((List.replicate i true).map V.bl)) := same_new fT _ _ _ d2
        have q3 : upd H2 T (.tup [x, y]) T = some (.tup [x, y]) := upd_same
        clear fT
        generalize upd H2 T (.tup [x, y]) = H3 at hd d3 q3 s23
        walk_at "go"
        intro H4 s4
        walk_at "go"
        rw [upd_same, List.replicate_succ', List.map_append]; rfl
      · obtain ⟨s2, d2⟩ := hP
        refine ⟨D, List.replicate xs.length true, rfl, SqL.of d2, ?_⟩
        rw [show (List.replicate xs.length true).all id = true from by simp]
        exact hQ _ (s0.trans s2)
end
end K17

set_option Elab.async false
set_option linter.all false
set_option maxRecDepth 100000
set_option maxHeartbeats 4000000
/-! Defs that are called where no repr is under way (guards = some []): repr of flat lists, tuples and dicts. -/
namespace RGd
open PySem PySem.Spec PyProof.Rows L2 RC
/-- what a def promises of a call where no guard stands -/
structure FnG (P : Program) (w : World) (K : PySem.W.Frag) (mg : Str → Option Value) (base : Heap) (CX : CXT) (k : Nat) (f : Addr) (fd : FuncData) (ps : List Str) (sp : Sp) : Prop where
  size : ∀ vs H Q E, sp vs H Q E → vs.length = ps.length
  go : ∀ (A : Around) (st : List Env) (s : Shared) (H : Hp) (us : List Value) (vs : List V) (Q : VK) (E : XK), Room k A → A.guards = some [] → Env0 P w K mg base A st s H → BindsTo s fd ⟨us, []⟩ (ps.zip us) →
    Vals vs us → sp vs H Q E → codeAny (model P w) A (.call (.ref f) ⟨us, []⟩) (CR CX st P w H s Q E) s
def CallG (P : Program) (w : World) (K : PySem.W.Frag) (mg : Str → Option Value) (base : Heap) (k : Nat) (f : Addr) (ps : List Str) (sp : Sp) : Prop :=
  ∃ fd, FnG P w K mg base CX0 k f fd ps sp ∧ Binds K fd ps [] ∧ PySem.W.keepIn K (.ref f) = true
section
variable {P : Program} {w : World} {K : PySem.W.Frag} {mg : Str → Option Value} {base : Heap} {x qual : Str} {f : Addr} {fd : FuncData} {k : Nat} {N ps : List Str} {sp : Sp} {params : Arguments} {body : List Stmt} {scope : Scope} {CX : CXT}
theorem fnG (D : FunD K x qual params body scope [] [] f fd) (S : FnScope N ps scope) (size : ∀ vs H Q E, sp vs H Q E → vs.length = ps.length)
    (text : ∀ (cdv : Value) (A : Around) (outer : List Env) (s : Shared) (H : Hp) (vs : List V) (Q : VK) (E : XK), Room k (A.deeper (envOfC qual scope s.heap.objs.size f cdv)) → (A.deeper (envOfC qual scope s.heap.objs.size f cdv)).guards = some [] → sp vs H Q E →
      ∃ t, PSs (cxOf CX P w K mg base N qual scope f cdv A outer s H E) body t ∧ t { nx := fun _ H' => Q .non H', rt := Q } (L2.start N vs) H) : FnG P w K mg base CX (k + 1) f fd ps sp := by
  refine ⟨size, fun A outer s H us vs Q E hr gd e0 bd rel h => ?_⟩
  obtain ⟨oc, od, dV, kV, doc, pm, an, cdv, ct, osl, rfl, look, code, _, _⟩ := D.ex
  have n1 := size _ _ _ _ h
  have inK : K.In s.heap := e0.mod.kin.keeps fun b o e => (e0.bs b o e).1
  have nolim : s.heap.NoLimit := e0.mod.nolimit.keeps fun b o e => (e0.bs b o e).1
  have kinds : ∀ y ∈ ps.zip us, scope.names.lookup y.1 = some .local ∨ (scope.names.lookup y.1 = some .cell ∧ ((cellsFrom (s.heap.objs.size + 1) scope.names []).lookup y.1).isSome = true) := by
    rintro ⟨n, v⟩ hy
    rcases S.par n (List.of_mem_zip hy).1 with q | q
    · exact .inl q
    · exact .inr ⟨q, PySem.W.cellsFrom_some _ _ _ (.inl q)⟩
  refine codeAny_call_function hr.depth (inK _ _ look) rfl S.co S.gen rfl (PySem.W.codeRec_of inK code) (bd _ _ _ _ ?_)
  refine wpAny_newFunctionEnv_cells S.kind kinds fun env he s1 x => ?_
  subst he
  refine ⟨nolim.keeps x.toInCall.keep, codeAny_func ?_⟩
  obtain ⟨t, ht, hq⟩ := text cdv A outer s H vs Q E (hr.deeper _) gd h
  have I := inv_start (CX := CX) (E := E) S hr.hd e0 n1 rel x
  refine wpAny_mono (ht.run [] s1 _ H _ I hq) (fun fl s' hs => ?_) fun e s' hs => hs
  rcases fl with _ | _ | _ | u
  · obtain ⟨σ', H', J, q⟩ := hs
    exact ⟨.non, H', J.os, J.bare, J.base, J.hok, rfl, q⟩
  · obtain ⟨_, _, _, q⟩ := hs
    exact q.elim
  · obtain ⟨_, _, _, q⟩ := hs
    exact q.elim
  · obtain ⟨v, σ', H', J, rv, q⟩ := hs
    exact ⟨v, H', J.os, J.bare, J.base, J.hok, rv, q⟩
theorem stands_callG0 {st : Stmt} (F : Stands K x qual st [] f) (S : FnScope N ps (defScope st)) (size : ∀ vs H Q E, sp vs H Q E → vs.length = ps.length)
    (text : ∀ (cdv : Value) (A : Around) (outer : List Env) (s : Shared) (H : Hp) (vs : List V) (Q : VK) (E : XK), Room k (A.deeper (envOfC qual (defScope st) s.heap.objs.size f cdv)) → (A.deeper (envOfC qual (defScope st) s.heap.objs.size f cdv)).guards = some [] → sp vs H Q E →
      ∃ t, PSs (cxOf CX0 P w K mg base N qual (defScope st) f cdv A outer s H E).nox (defBody st) t ∧ t { nx := fun _ H' => Q .non H', rt := Q } (L2.start N vs) H)
    (bind : ∀ (kV doc pm : Value) (an : Option Addr) (cdv ct : Value) (us : List Value), us.length = ps.length → bindArgs (PySem.W.fnOf x qual (defArgs st) (defBody st) (defScope st) .none kV doc pm an cdv ct) ⟨us, []⟩ = pure (ps.zip us)) :
    CallG P w K mg base (k + 1) f ps sp := by
  obtain ⟨fd, F⟩ := F
  refine ⟨fd, fnG F S size fun cdv A outer s H vs Q E hr gd h => ?_, F.bindsN bind, F.kp⟩
  obtain ⟨t, h, q⟩ := text cdv A outer s H vs Q E hr gd h
  exact ⟨t, h.nox, q⟩
end
section
variable {X : Cx} {k : Nat} {f : Addr} {ps : List Str} {sp : Sp} {x : Str} {p pos : Pos} {e : Expr} {es : List Expr} {t : TA}
/-- f(e, ..) where no guard stands -/
theorem pe_fnG (gd : X.A.guards = some []) (hm : X.mg x = some (.ref f)) (c : CallG X.prog X.w X.K X.mg X.base k f ps sp) (hr : Room k X.A) (hg : Gl X x) (ha : PA X (e :: es) t) (hdb : (x == ("__debug__" : Str)) = false := by decide)
    (he : starEach (e :: es) X.env = (false, eval e X.env) :: starEach es X.env := by rfl) (hpl : (backTo pos (starEach es X.env)).any (·.1) = false := by rfl) : PE X (.Call (.Name x p) (e :: es) [] pos) (tCall sp [] E0 t) := by
  obtain ⟨fd, F, hb, hk⟩ := c
  refine ⟨fun pins s σ H Q I h => ?_⟩
  refine wpAny_Call_Name_kw (ld_glob I hg hm ?_ hdb)
  refine PySem.W.callWith_K (h₀ := X.base) I.ok.mod.kin hk (thn (ha.run pos pins s σ H _ I h) fun us s1 ⟨vs, H1, I1, r, q⟩ => ⟨I1.kIn, ?_⟩) he hpl
  have q0 : sp vs H1 Q E0 := by
    have q2 : sp (vs ++ []) H1 Q E0 := q
    rw [List.append_nil] at q2
    exact q2
  have n1 : us.length = ps.length := r.length.symm.trans (F.size _ _ _ _ q0)
  have b := hb s1 us I1.kIn (by rw [List.append_nil]; exact n1)
  rw [List.append_nil] at b
  refine wpAny_call (codeAny_mono (F.go X.A X.stack s1 H1 us vs Q E0 hr gd I1.env0 b r q0) fun z s' hz => ?_)
  rcases z with er | fl
  · exact pass0 pins σ H1 s1 er s' I1 hz
  · cases fl with
    | ret u => exact I1.after hz
    | next => exact hz.elim
    | brk => exact hz.elim
    | cont => exact hz.elim
end
/-! ### the law's top -/
theorem walk_ofG {l : PySem.W.OpenLaw} {n k : Nat} {q : Program} {loose : List Str} {XP : (Str → Option Value) → Heap → Prop} {YP : World → Heap → Prop} {d : DefRec} {x : Str}
    (most : l.most = some n) (few : n ≤ sizeLine) (nodef : d.params.defaults = []) (hr : Room k callerA)
    (F : ∀ (w : World) (mg : Str → Option Value) (fa : Addr) (h : Heap), YP w h → h.Ns mainGlobals mg → mg d.name = some (.ref fa) →
      ∃ (K : PySem.W.Frag) (fd : FuncData) (sp : Sp), K.In h ∧ (∀ (s : Shared) (u : Value), BindsTo s fd ⟨[u], []⟩ [(x, u)]) ∧
        (∀ (H : Hp) (a : Addr) (ns : List Int), ns.length ≤ n → Only H → SqL K H a (ns.map V.int) → sp [.ref a] H (fun v _ => v = .bl true) fun _ _ _ => False) ∧
        ∀ base : Heap, K.In base → base.Ns mainGlobals mg → FnG l.prog w K mg base CX0 k fa fd [x] sp) :
    PySem.W.WalkO q loose XP YP l.row.toRowW d [] (fun f vs => PySem.call f vs) := by
  refine Att.attach_call most nodef fun w s0 st mg mb fa o pm cd doc a us ns G Y ho hd hcd hmg script allInt lenN noGens => ?_
  obtain ⟨K, fd, sp, inK, binds, prom, fn⟩ := F w mg fa _ Y G.T.g hmg
  have rel := vals_ints allInt
  have lenU := allInt.length
  have small : ns.length ≤ sizeLine := Nat.le_trans lenN few
  -- whatever is tracked of the script
  have go : ∀ T : Hp, Only T → SqL K T a (ns.map V.int) → HOk l.prog w T st.heap → (∀ b, T b ≠ none → b = a) → (T a ≠ none → K.lookup a = none) →
      codeAny (model l.prog w) callerA (.call (.ref fa) ⟨[.ref a], []⟩) (fun r s' => r = .ok (.ret (.bool true)) ∧ OldK st.heap s'.heap ∧ s'.os = st.os ∧ AllBare s'.gens) st := by
    intro T only sq ok one out
    have low : ∀ {b : Addr} {o : Obj}, st.heap.get? b = some o → T b = none → (hidT st.heap T).get? b = some o := fun z n => hidT_get z n
    have dictFree : ∀ {b : Addr} {o : Obj} {es : Array DictEntry} {ep : Nat}, st.heap.get? b = some o → o.data = .dict es ep → T b = none := by
      intro b o es ep z dd
      rcases hT : T b with _ | u
      · rfl
      · obtain rfl : b = a := one b (by rw [hT]; exact fun c => nomatch c)
        rw [script] at z
        cases z
        exact nomatch (show Data.seq us.toArray _ = Data.dict es ep from dd)
    have spaces : ∀ {b : Addr} {m : Str → Option Value}, st.heap.Ns b m → (hidT st.heap T).Ns b m := by
      rintro b m ⟨o, es, ep, z, dd, r⟩
      exact ⟨o, es, ep, low z (dictFree z dd), dd, r⟩
    have kBase : K.In (hidT st.heap T) := by
      intro b o z
      refine low (inK b o z) ?_
      rcases hT : T b with _ | u
      · rfl
      · obtain rfl : b = a := one b (by rw [hT]; exact fun c => nomatch c)
        rw [out (by rw [hT]; exact fun c => nomatch c)] at z
        cases z
    obtain ⟨mc, lim1, lim2⟩ := G.T.nolimit
    have modl : Mod K mg (hidT st.heap T) := ⟨kBase, spaces G.T.g, ⟨mb, spaces G.T.b, G.T.builtins⟩, mc, spaces lim1, lim2⟩
    have env : Env0 l.prog w K mg (hidT st.heap T) callerA [] st T := ⟨rfl, modl, fun _ _ z => of_hidT z, Nat.le_of_eq (hidT_size _ _), trivial, fun _ c => (nomatch c), ok, .of_eq noGens⟩
    have run := (fn _ kBase (spaces G.T.g)).go callerA [] st T [.ref a] [.ref a] _ _ hr rfl env (binds st (.ref a)) (.cons rfl .nil) (prom T a ns lenN only sq)
    refine codeAny_mono run fun r s' res => ?_
    rcases r with er | fl
    · exact False.elim res
    · cases fl with
      | next => exact res.elim
      | brk => exact res.elim
      | cont => exact res.elim
      | ret u =>
        obtain ⟨v, T', os, bare, un, ok', rv, rfl⟩ := res
        obtain rfl : u = Value.bool true := rv
        refine ⟨rfl, OldK.of_keep fun b o z => ?_, os, bare⟩
        rcases hT : T b with _ | y
        · exact un.keep b o z hT (fun c => nomatch c) (fun c => nomatch c)
        · rcases only b with c | ⟨ob, xs, c⟩
          · rw [hT] at c; cases c
          · obtain ⟨z1, _⟩ := ok b _ c
            obtain ⟨z2, _⟩ := ok' b _ (un.frzs b ob _ c)
            rw [z] at z1
            cases z1
            exact z2
  rcases hk : K.lookup a with _ | o2
  · let O : Obj := { cls := .type "list", data := .seq us.toArray }
    refine go (fun b => if b = a then some (.frz O (.lst (ns.map V.int))) else none) (fun b => ?_) (.inl (.inr ⟨O, if_pos rfl⟩)) (fun b u c => ?_) (fun b c => ?_) fun _ => hk
    · by_cases ba : b = a
      · exact .inr ⟨O, _, if_pos ba⟩
      · exact .inl (if_neg ba)
    · by_cases ba : b = a
      · have c2 := (if_pos ba).symm.trans c
        cases c2
        subst ba
        exact ⟨script, by rw [List.length_map]; exact small, us, _, rel, script⟩
      · exact nomatch (if_neg ba).symm.trans c
    · by_cases ba : b = a
      · exact ba
      · exact absurd (if_neg ba) c
  · have z := inK a o2 hk
    rw [script] at z
    cases z
    exact go (fun _ => none) (fun _ => .inl rfl) (.inr ⟨_, us.toArray, _, hk, rfl, rfl, rfl, by rw [List.size_toArray, lenU]; exact small, by simpa using rel⟩) (fun _ _ c => nomatch (show (none : Option HO) = some _ from c)) (fun _ c => absurd rfl c) fun c => absurd rfl c
/-! ### repr -/
inductive Flat : V → PyData → Prop
  | non : Flat .non .none
  | bl (b : Bool) : Flat (.bl b) (.bool b)
  | int (i : Int) : Flat (.int i) (.int i)
  | str (x : Str) : Flat (.str x) (.str x)
inductive DatV (H : Hp) : V → PyData → Prop
  | flat {v : V} {d : PyData} (h : Flat v d) : DatV H v d
  | lst {a : Addr} {xs : List V} {ds : List PyData} (ha : H a = some (.lst xs)) (h : Paired Flat xs ds) : DatV H (.ref a) (.list ds)
  | tup {a : Addr} {xs : List V} {ds : List PyData} (ha : H a = some (.tup xs)) (h : Paired Flat xs ds) : DatV H (.ref a) (.tuple ds)
  | dic {a : Addr} {kvs : List (Key × V)} {ds : List (PyData × PyData)} (ha : H a = some (.dK kvs)) (h : Paired (fun p q => Flat (kV p.1) q.1 ∧ Flat p.2 q.2) kvs ds) : DatV H (.ref a) (.dict ds)
theorem DatV.same {H H' : Hp} (e : Same H H') {v : V} {d : PyData} : DatV H v d → DatV H' v d
  | .flat h => .flat h
  | .lst ha h => .lst (e _ _ ha) h
  | .tup ha h => .tup (e _ _ ha) h
  | .dic ha h => .dic (e _ _ ha) h
theorem flat_reads {h : Heap} {v : V} {d : PyData} {u : Value} (f : Flat v d) (r : RelV v u) : Reads h u d [] := by
  cases f with
  | non => obtain rfl : u = Value.none := r; exact .none
  | bl b => obtain rfl : u = Value.bool b := r; exact .bool b
  | int i => obtain ⟨t, rfl⟩ := r; exact .int i t
  | str x => obtain ⟨t, rfl⟩ := r; exact .str x t
theorem flats_reads {h : Heap} : ∀ {xs : List V} {ds : List PyData} {us : List Value}, Paired Flat xs ds → Vals xs us → ReadsAll h us ds []
  | _, _, _, .nil, .nil => .nil
  | _, _, _, .cons f fs, .cons r rs => .cons (as := []) (bs := []) (flat_reads f r) (flats_reads fs rs)
theorem flats_noDict : ∀ {xs : List V} {ds : List PyData}, Paired Flat xs ds → PyData.hasDictAll ds = false
  | _, _, .nil => by rw [PyData.hasDictAll]
  | _, _, .cons f fs => by
    have ih := flats_noDict fs
    cases f <;> simp [PyData.hasDictAll, PyData.hasDict, ih]
theorem flats_depth : ∀ {xs : List V} {ds : List PyData}, Paired Flat xs ds → PyData.depthAll ds = 0
  | _, _, .nil => by rw [PyData.depthAll]
  | _, _, .cons f fs => by
    have ih := flats_depth fs
    cases f <;> simp [PyData.depthAll, PyData.depth, ih]
theorem flat_depth {v : V} {d : PyData} (f : Flat v d) : d.depth = 0 := by cases f <;> simp [PyData.depth]
theorem kv_depth : ∀ {kvs : List (Key × V)} {ds : List (PyData × PyData)}, Paired (fun p q => Flat (kV p.1) q.1 ∧ Flat p.2 q.2) kvs ds → PyData.depthKv ds = 0
  | _, _, .nil => by rw [PyData.depthKv]
  | _, _, .cons (b := q) ⟨f, g⟩ fs => by
    have ih := kv_depth fs
    obtain ⟨q1, q2⟩ := q
    have h1 := flat_depth f
    have h2 := flat_depth g
    simp [PyData.depthKv, h1, h2, ih]
theorem key_rel {k : Key} {v : Value} (h : keyIs k v = true) : RelV (kV k) v := by
  rcases keyIs_shape h with ⟨i, t, rfl, rfl⟩ | ⟨x, t, rfl, rfl⟩
  · exact ⟨t, rfl⟩
  · exact ⟨t, rfl⟩
theorem kv_reads {P : Program} {w : World} {h : Heap} : ∀ {kvs : List (Key × V)} {ds : List (PyData × PyData)} {vs : List (Key × Value)} {es : List DictEntry}, Paired (fun p q => Flat (kV p.1) q.1 ∧ Flat p.2 q.2) kvs ds → KV kvs vs → PySem.Pairs (mixKind P w) es vs →
    ReadsAll h (es.map (·.key)) (ds.map (·.1)) [] ∧ ReadsAll h (es.map (·.val)) (ds.map (·.2)) []
  | _, _, _, _, .nil, .nil, .nil => ⟨.nil, .nil⟩
  | _, _, _, _, .cons (a := p) ⟨f, g⟩ fs, .cons (b := q) ⟨e, r⟩ rs, .cons (e := en) k v ps => by
    obtain ⟨i1, i2⟩ := kv_reads (h := h) fs rs ps
    have k1 : RelV (kV p.1) en.key := by rw [e]; exact key_rel k
    have v1 : RelV p.2 en.val := by rw [v]; exact r
    exact ⟨.cons (as := []) (bs := []) (flat_reads f k1) i1, .cons (as := []) (bs := []) (flat_reads g v1) i2⟩
theorem dat_reads {P : Program} {w : World} {H : Hp} {h : Heap} (ok : HOk P w H h) {a : Addr} {d : PyData} (q : DatV H (.ref a) d) : ∃ as, Reads h (.ref a) d as ∧ (d.hasDict = true → sysModules ∉ as) ∧ d.depth ≤ 2 := by
  cases q with
  | flat f => cases f
  | @lst _ xs ds ha f =>
    obtain ⟨_, its, n, r, g⟩ := (show ObjOk P w H h a (.lst xs) from ok a _ ha)
    refine ⟨_, .list g rfl rfl (flats_reads f r), fun z => ?_, ?_⟩
    · rw [PyData.hasDict, flats_noDict f] at z; cases z
    · rw [PyData.depth, flats_depth f]; decide
  | @tup _ xs ds ha f =>
    obtain ⟨_, its, r, o, h1, h2, n, h3⟩ := (show ObjOk P w H h a (.tup xs) from ok a _ ha)
    refine ⟨_, .tuple h1 h2 h3 (flats_reads f r), fun z => ?_, ?_⟩
    · rw [PyData.hasDict, flats_noDict f] at z; cases z
    · rw [PyData.depth, flats_depth f]; decide
  | @dic _ kvs ds ha f =>
    obtain ⟨_, hsys, vs, rel, o, es, ep, g1, ex, g2, _, pr, _⟩ := dk_of ok ha
    obtain ⟨r1, r2⟩ := kv_reads (h := h) f rel pr
    refine ⟨_, .dict g1 ex.1 g2 r1 r2, fun _ z => ?_, ?_⟩
    · have z : sysModules ∈ [a] := z
      rw [List.mem_singleton.mp z, beq_self_eq_true] at hsys
      cases hsys
    · rw [PyData.depth, kv_depth f]; decide
section
variable {X : Cx}
theorem hu8 {k : Nat} {A : Around} (hr : Room k A) : A.units + 8 < cLine := by have := hr.un; omega
/-- repr(v), where no guard stands -/
theorem call_repr_dat (gd : X.A.guards = some []) (hun : X.A.units + 8 < cLine) : CallR X (.builtin "repr") (fun xs H Q => ∃ v d, xs = [v] ∧ DatV H v d ∧ d.showable = true ∧ d.shown.length ≤ sizeLine ∧ Q (.str d.shown) H) := by
  intro pins s σ H xs us Q I r h
  obtain ⟨v, d, rfl, dv, sh, sz, q⟩ := h
  obtain ⟨u, rfl, rv⟩ := vals1 r
  have fin : ∀ (h' : Heap) (tk : Tok) (t : Tok), (∀ b o, s.heap.get? b = some o → h'.get? b = some o) → EP X pins σ Q (.str d.shown t) { s with heap := h', toks := tk } := fun h' tk t hk =>
    ⟨.str d.shown, H, I.kept hk, ⟨t, rfl⟩, q⟩
  cases v with
  | ref a =>
    obtain rfl : u = Value.ref a := rv
    obtain ⟨as, rd, nm, dp⟩ := dat_reads I.hok dv
    exact repr_of_reads' rd sh nm gd (by omega) (fun _ _ z => z) (fun h' u tk hk => fin h' tk u hk) sz
  | non =>
    obtain rfl : u = Value.none := rv
    cases dv with
    | flat f =>
      cases f
      exact PySem.P.repr_of_none (fin _ _ _ fun _ _ z => z)
  | bl b =>
    obtain rfl : u = Value.bool b := rv
    cases dv with
    | flat f =>
      cases f
      refine PySem.P.repr_of_bool ?_
      have := fin s.heap (s.toks + 1) s.toks fun _ _ z => z
      rw [PyData.shown] at this
      exact this
  | int i =>
    obtain ⟨t, rfl⟩ := rv
    cases dv with
    | flat f =>
      cases f
      refine PySem.P.repr_of_int (by simpa [PyData.showable] using sh) ?_
      have := fin s.heap (s.toks + 1) s.toks fun _ _ z => z
      rw [PyData.shown] at this
      exact this
  | str x =>
    obtain ⟨t, rfl⟩ := rv
    cases dv with
    | flat f =>
      cases f
      rw [PyData.shown] at sz
      refine PySem.P.repr_of_str ?_ sz
      have := fin s.heap (s.toks + 1) s.toks fun _ _ z => z
      rw [PyData.shown] at this
      exact this
  | _ =>
    cases dv with
    | flat f => cases f
end
end RGd

set_option Elab.async false
set_option linter.all false
set_option maxRecDepth 100000
set_option maxHeartbeats 4000000
/-! Defs that may raise own errors, calls of them, raise, except X as e of several clauses. -/
namespace RQ
open PySem PySem.Spec PyProof.Rows L2 RC
/-- as Callable, where an error may leave the def -/
def CallX (P : Program) (w : World) (K : PySem.W.Frag) (mg : Str → Option Value) (base : Heap) (k : Nat) (f : Addr) (ps : List Str) (dvs : List V) (sp : Sp) : Prop :=
  ∃ fd ds, FnOk P w K mg base (L2.CX P w) k f fd ps sp ∧ Vals dvs ds ∧ Binds K fd ps ds ∧ PySem.W.keepIn K (.ref f) = true
section
variable {P : Program} {w : World} {K : PySem.W.Frag} {mg : Str → Option Value} {base : Heap} {x qual : Str} {dvs : List V} {f : Addr} {k : Nat} {N ps : List Str} {sp : Sp}
theorem CallX.up {j : Nat} (c : CallX P w K mg base j f ps dvs sp) (h : j ≤ k) : CallX P w K mg base k f ps dvs sp :=
  let ⟨fd, ds, F, r⟩ := c
  ⟨fd, ds, F.mono h, r⟩
theorem stands_callX {st : Stmt} (F : Stands K x qual st dvs f) (S : FnScope N ps (defScope st)) (n j : Nat) (len : ∀ vs H Q E, sp vs H Q E → vs.length = ps.length)
    (hbody : ∀ (cdv : Value) (A : Around) (outer : List Env) (s : Shared) (H : Hp) (vs : List V) (Q : VK) (E : XK), Room k (A.deeper (envOfC qual (defScope st) s.heap.objs.size f cdv)) → sp vs H Q E →
      ∃ t, PSs (cxOf (L2.CX P w) P w K mg base N qual (defScope st) f cdv A outer s H E) (defBody st) t ∧ t { nx := fun _ H' => Q .non H', rt := Q } (start N vs) H)
    (h0 : dvs = [] → n = ps.length ∧ ∀ (kV doc pm : Value) (an : Option Addr) (cdv ct : Value) (us : List Value), us.length = ps.length → bindArgs (PySem.W.fnOf x qual (defArgs st) (defBody st) (defScope st) .none kV doc pm an cdv ct) ⟨us, []⟩ = pure (ps.zip us))
    (h1 : dvs ≠ [] → n + (dvs.length - j) = ps.length ∧ ∀ (T : Addr) (kV doc pm : Value) (an : Option Addr) (cdv ct : Value) (us its : List Value), us.length = n → its.length = dvs.length →
      ∃ k, bindArgs (PySem.W.fnOf x qual (defArgs st) (defBody st) (defScope st) (.ref T) kV doc pm an cdv ct) ⟨us, []⟩ = seqItems? (.ref T) >>= k ∧ k (some its.toArray) = pure (ps.zip (us ++ its.drop j))) :
    CallX P w K mg base (k + 1) f ps (dvs.drop j) sp := by
  obtain ⟨fd, F⟩ := F
  have ok : FnOk P w K mg base (L2.CX P w) (k + 1) f fd ps sp := F.ok S len fun cdv A outer s H vs Q E hr hsp => hbody cdv A outer s H vs Q E hr hsp
  by_cases hd : dvs = []
  · subst hd
    exact ⟨fd, [], ok, by rw [List.drop_nil]; exact .nil, F.bindsN (h0 rfl).2, F.kp⟩
  · obtain ⟨ds, hv, hb⟩ := F.binds1 n j hd (h1 hd).1 (h1 hd).2
    exact ⟨fd, ds, ok, hv, hb, F.kp⟩
theorem stands_callX0 {st : Stmt} (F : Stands K x qual st [] f) (S : FnScope N ps (defScope st)) (len : ∀ vs H Q E, sp vs H Q E → vs.length = ps.length)
    (hbody : ∀ (cdv : Value) (A : Around) (outer : List Env) (s : Shared) (H : Hp) (vs : List V) (Q : VK) (E : XK), Room k (A.deeper (envOfC qual (defScope st) s.heap.objs.size f cdv)) → sp vs H Q E →
      ∃ t, PSs (cxOf (L2.CX P w) P w K mg base N qual (defScope st) f cdv A outer s H E) (defBody st) t ∧ t { nx := fun _ H' => Q .non H', rt := Q } (start N vs) H)
    (h0 : ∀ (kV doc pm : Value) (an : Option Addr) (cdv ct : Value) (us : List Value), us.length = ps.length → bindArgs (PySem.W.fnOf x qual (defArgs st) (defBody st) (defScope st) .none kV doc pm an cdv ct) ⟨us, []⟩ = pure (ps.zip us)) :
    CallX P w K mg base (k + 1) f ps [] sp := by
  obtain ⟨fd, F⟩ := F
  have ok : FnOk P w K mg base (L2.CX P w) (k + 1) f fd ps sp := F.ok S len fun cdv A outer s H vs Q E hr hsp => hbody cdv A outer s H vs Q E hr hsp
  exact ⟨fd, [], ok, .nil, F.bindsN h0, F.kp⟩
end
section
variable {X : Cx} {k : Nat} {f C : Addr} {ps : List Str} {sp : Sp} {dvs : List V} {x m : Str} {p pos apos : Pos} {e o : Expr} {es : List Expr} {ta : TE} {t : TA} {pl : Sem Bool} {W : WX}
/-- f(e, ..), where f may raise -/
theorem pe_fnX (tk : Takes X W) (hm : X.mg x = some (.ref f)) (c : CallX X.prog X.w X.K X.mg X.base k f ps dvs sp) (hr : Room k X.A) (hg : Gl X x) (ha : PA X (e :: es) t) (hdb : (x == ("__debug__" : Str)) = false := by decide)
    (he : starEach (e :: es) X.env = (false, eval e X.env) :: starEach es X.env := by rfl) (hpl : (backTo pos (starEach es X.env)).any (·.1) = false := by rfl) : PE X (.Call (.Name x p) (e :: es) [] pos) (tCallSD sp dvs (WE W) t) := by
  obtain ⟨fd, ds, F, hd, hb, hk⟩ := c
  exact pe_callSD F hr hg hm hk hb hd (fun σ => passAt tk σ) ha hdb he hpl
/-- o.m(e, ..), where m may raise -/
def tMethX (C : Addr) (m : Str) (sp : Sp) (dvs : List V) (E : L2.St → XK) (ta : TE) (t : TA) : TE := fun σ H Q => ta σ H fun x H1 => ∃ a dx fs, x = .ref a ∧ H1 a = some (.ins C dx fs) ∧ fs.lookup m = none ∧ t σ H1 fun vs H2 => sp (x :: (vs ++ dvs)) H2 Q (E σ)
theorem pe_mtX (tk : Takes X W) (cl : Cls X.K C) (hm : Meth X.K C m f) (c : CallX X.prog X.w X.K X.mg X.base k f ps dvs sp) (hr : Room k X.A) (he : PE X o ta) (ha : PA X (e :: es) t)
    (hst : starEach (e :: es) X.env = (false, eval e X.env) :: starEach es X.env := by rfl) (hpl : (backTo pos (starEach es X.env)).any (·.1) = false := by rfl)
    (ht : eval (.Call (.Attribute o m apos) (e :: es) [] pos) X.env = (do
      let ov ← eval o X.env
      standAt apos.atName
      let (f, first) ← holding [ov] (getMethod ov m pl)
      callWith pos f first (backTo pos (starEach (e :: es) X.env)) (backToKw pos (keywordEach [] X.env))) := by rfl) :
    PE X (.Call (.Attribute o m apos) (e :: es) [] pos) (tMethX C m sp dvs (WE W) ta t) := by
  obtain ⟨fd, ds, F, hd, hb, hk⟩ := c
  refine ⟨fun pins s σ H Q I h => ?_⟩
  refine PySem.W.methodCall_KW (pl := pl) (thn (he.run pins s σ H _ I h) fun u s1 ⟨z, H1, I1, rz, a, dx, fs, ez, ea, l, q⟩ => ?_) ht
  subst ez
  obtain rfl : u = Value.ref a := rz
  refine getmeth_ok I1 ea cl hm l ?_
  refine PySem.W.callWith_K (first := [.ref a]) (h₀ := X.base) I.ok.mod.kin hm.kp (thn (ha.run pos pins s1 σ H1 _ I1 q) fun us s2 ⟨ws, H2, I2, r, q2⟩ => ⟨I2.kIn, ?_⟩) hst hpl
  exact run_fnSD (us := .ref a :: us) (vs := .ref a :: ws) F hr hb hd (passAt tk σ) I2 (.cons rfl r) q2
/-- C(e, ..), where __init__ may raise -/
def tMakeX (C : Addr) (sp : Sp) (dvs : List V) (E : L2.St → XK) (t : TA) : TE := fun σ H Q => t σ H fun vs H1 => ∀ x dx, H1 x = none → H1 dx = none → dx ≠ x →
  sp (.ref x :: (vs ++ dvs)) (upd (upd H1 dx (.own x)) x (.ins C dx [])) (fun v H2 => v = .non ∧ Q (.ref x) H2) (E σ)
theorem pe_mkX (tk : Takes X W) (M : Mk X.K C f) (hm : X.mg x = some (.ref C)) (c : CallX X.prog X.w X.K X.mg X.base k f ps dvs sp) (hr : Room (k + 1) X.A) (hg : Gl X x) (ha : PA X (e :: es) t) (hdb : (x == ("__debug__" : Str)) = false := by decide)
    (he : starEach (e :: es) X.env = (false, eval e X.env) :: starEach es X.env := by rfl) (hpl : (backTo pos (starEach es X.env)).any (·.1) = false := by rfl) : PE X (.Call (.Name x p) (e :: es) [] pos) (tMakeX C sp dvs (WE W) t) := by
  obtain ⟨fd, ds, F, hd, hb, hk⟩ := c
  refine ⟨fun pins s σ H Q I h => ?_⟩
  refine wpAny_Call_Name_kw (ld_glob I hg hm ?_ hdb)
  refine PySem.W.callWith_K (h₀ := X.base) I.ok.mod.kin M.kp (thn (ha.run pos pins s σ H _ I h) fun us s1 ⟨ws, H1, I1, r, q⟩ => ⟨I1.kIn, ?_⟩) he hpl
  have big := Nat.le_succ s1.heap.objs.size
  have spx := q (s1.heap.objs.size + 1) s1.heap.objs.size (I1.hok.fresh big) (I1.hok.fresh (Nat.le_refl _)) (Nat.ne_of_lt (Nat.lt_succ_self _))
  have made := Inv.made (C := C) I1
  have rel : Vals (V.ref (s1.heap.objs.size + 1) :: (ws ++ dvs)) (Value.ref (s1.heap.objs.size + 1) :: (us ++ ds)) := .cons rfl (r.append hd)
  have len : (Value.ref (s1.heap.objs.size + 1) :: us ++ ds).length = ps.length := rel.length.symm.trans (F.len _ _ _ _ spx)
  have bind := hb _ (Value.ref (s1.heap.objs.size + 1) :: us) made.kIn len
  have env := made.env0.make C us []
  have room := hr.make C us []
  refine wpAny_call (make_map (f := f) I1.kIn M.makes M.init (beq_iff_eq.mp M.fn) (codeAny_mono (F.run _ X.stack _ _ ⟨Value.ref (s1.heap.objs.size + 1) :: us, []⟩ _ _ _ (WE W σ) room env bind rel spx) fun z s' hz => ?_))
  cases z with
  | error er => exact passAt tk σ pins _ _ er s' made hz
  | ok fl =>
    cases fl with
    | ret u =>
      obtain ⟨v, H', I3, rv, ev, q3⟩ := made.after hz
      subst ev
      exact ⟨rv, V.ref (s1.heap.objs.size + 1), H', I3, rfl, q3⟩
    | next => exact hz.elim
    | brk => exact hz.elim
    | cont => exact hz.elim
end
/-! ### raise X(e) -/
/-- __init__ of an own error: one field kept -/
def spExcInit (K : PySem.W.Frag) (f : Str) : Sp := fun vs H Q _ => ∃ (a C : Addr) (v : V), vs = [.ref a, v] ∧ RB.ExcF K C f ∧ H a = some (exo a C none) ∧ ∀ dx, H dx = none → dx ≠ a → Q .non (upd (upd H dx (exd dx [(f, v)])) a (exo a C (some dx)))
section
variable {X : Cx} {C : Addr} {f x : Str} {k : Nat} {ps : List Str} {e : Expr} {p pos pos2 : Pos} {ta : TA} {W : WX}
def tMkE (C : Addr) (f : Str) (ta : TA) : L2.St → Hp → XK → Prop := fun σ H Q => ta σ H fun vs H1 => ∃ v, vs = [v] ∧ ∀ d, H1 d = none → Q (.ref C) (some d) (upd H1 d (.xd [(f, v)]))
theorem mkE_of {K : PySem.W.Frag} {Q : XK} {vs : List V} {H1 : Hp} (T : RB.ExcF K C f) (h : ∃ v, vs = [v] ∧ ∀ d, H1 d = none → Q (.ref C) (some d) (upd H1 d (.xd [(f, v)]))) :
    vs.length ≤ 1000 ∧ ∀ a, H1 a = none → spExcInit K f (.ref a :: (vs ++ [])) (upd H1 a (exo a C none))
      (fun v H2 => v = .non ∧ ∃ (d : Addr) (fs : List (Str × V)), H2 a = some (exo a C (some d)) ∧ H2 d = some (exd d fs) ∧ H1 d = none ∧ Q (.ref C) (some d) (upd (del H2 a) d (.xd fs))) (fun _ _ _ => False) := by
  obtain ⟨v, rfl, h⟩ := h
  refine ⟨by show 1 ≤ 1000; decide, fun a ha => ⟨a, C, v, rfl, T, upd_same, fun dx hdx nd => ⟨rfl, dx, [(f, v)], upd_same, by rw [upd_ne nd, upd_same], ?_, ?_⟩⟩⟩
  · have := hdx
    rw [upd_ne nd] at this
    exact this
  · have hd : H1 dx = none := by have := hdx; rw [upd_ne nd] at this; exact this
    have e : upd (del (upd (upd (upd H1 a (exo a C none)) dx (exd dx [(f, v)])) a (exo a C (some dx))) a) dx (.xd [(f, v)]) = upd H1 dx (.xd [(f, v)]) := by
      funext b
      by_cases c : b = dx
      · rw [c, upd_same, upd_same]
      · rw [upd_ne c, upd_ne c]
        by_cases z : b = a
        · rw [z, del_same, ha]
        · rw [del_ne z, upd_ne z, upd_ne c, upd_ne z]
    rw [e]
    exact h dx hd
theorem pmk_exc (T : RB.ExcF X.K C f) (c : Callable X.prog X.w X.K X.mg X.base k (He.ma X.K C "__init__") ps [] (spExcInit X.K f)) (hr : Room (k + 1) X.A) (hm : X.mg x = some (.ref C)) (hg : Gl X x) (ha : PA X [e] ta)
    (hdb : (x == ("__debug__" : Str)) = false := by decide) (he : starEach (e :: []) X.env = (false, eval e X.env) :: starEach [] X.env := by rfl) (hpl : (backTo pos (starEach [] X.env)).any (·.1) = false := by rfl) :
    PMk X (.Call (.Name x p) [e] [] pos) (tMkE C f ta) := by
  obtain ⟨fd, ds, F, hd, hb, hk⟩ := c
  have m := pmk_oex (dvs := []) (x := x) (p := p) (pos := pos) T.ox T.ini T.ty F hr hb hd pass0 hg hm ha hdb he hpl
  intro pins s σ H Q I h
  have ha2 : PA X [e] (fun σ0 H0 K0 => ta σ0 H0 (fun vs H1 => ∃ v, vs = [v] ∧ ∀ d, H1 d = none → Q (.ref C) (some d) (upd H1 d (.xd [(f, v)]))) ∧
      ∀ vs H1, (∃ v, vs = [v] ∧ ∀ d, H1 d = none → Q (.ref C) (some d) (upd H1 d (.xd [(f, v)]))) → K0 vs H1) := ⟨fun pos0 pins0 s0 σ0 H0 K0 I0 h0 =>
    wpAny_mono (ha.run pos0 pins0 s0 σ0 H0 _ I0 h0.1) (fun us s1 hz => by
      obtain ⟨vs, H1, I1, r1, q1⟩ := hz
      exact ⟨vs, H1, I1, r1, h0.2 vs H1 q1⟩) (fun _ _ z => z)⟩
  exact pmk_oex (dvs := []) (x := x) (p := p) (pos := pos) T.ox T.ini T.ty F hr hb hd pass0 hg hm ha2 hdb he hpl pins s σ H Q I ⟨h, fun vs H1 q => mkE_of T q⟩
/-- raise X(e) -/
def tExc (C : Addr) (f : Str) (W : WX) (ta : TA) : TS := fun _ σ H => tMkE C f ta σ H fun cls d H' => W cls d σ H'
theorem ps_exc (hc : X.calm = true) (tk : Takes X W) (T : RB.ExcF X.K C f) (c : Callable X.prog X.w X.K X.mg X.base k (He.ma X.K C "__init__") ps [] (spExcInit X.K f)) (hr : Room (k + 1) X.A) (hm : X.mg x = some (.ref C)) (hg : Gl X x) (ha : PA X [e] ta)
    (hdb : (x == ("__debug__" : Str)) = false := by decide) (he : starEach (e :: []) X.env = (false, eval e X.env) :: starEach [] X.env := by rfl) (hpl : (backTo pos (starEach [] X.env)).any (·.1) = false := by rfl) :
    PS X (.Raise (some (.Call (.Name x p) [e] [] pos)) none pos2) (tExc C f W ta) := ps_raise hc tk (pmk_exc T c hr hm hg ha hdb he hpl)
/-- self.f = e in an own error's __init__, the first field -/
theorem init_rd {K : PySem.W.Frag} {D : Ends} {σ : L2.St} {H : Hp} {a C : Addr} {v : V} {to te : TE} (T : RB.ExcF K C f) (h : ∀ (Q : V → Hp → Prop), Q v H → te σ H Q) (h2 : ∀ (Q : V → Hp → Prop), Q (.ref a) H → to σ H Q) (ea : H a = some (exo a C none))
    (q : ∀ dx, H dx = none → dx ≠ a → D.nx σ (upd (upd H dx (exd dx [(f, v)])) a (exo a C (some dx)))) : tOst K f to te D σ H :=
  h _ (h2 _ ⟨a, C, rfl, T.ox, T.no, .inl ⟨ea, q⟩⟩)
end
/-! ### except X as e, several clauses -/
abbrev HdT : Type := Value × Option Nat × (Addr → Value → Option Addr → TS)
/-- the ends of a suite whose slot i goes -/
def Ends.un (D : Ends) (i : Nat) : Ends := { nx := fun σ' H' => D.nx (σ'.set i none) H', rt := D.rt, bk := fun σ' H' => D.bk (σ'.set i none) H', ct := fun σ' H' => D.ct (σ'.set i none) H' }
def wAny (K : PySem.W.Frag) (Wout : WX) (D : Ends) : List HdT → WX
  | [] => Wout
  | (c, none, ts) :: r => fun cls d σ H => ∃ b, PySem.W.exmOne K cls c = some b ∧ (b = true → ∀ a, H a = none → ts a cls d D σ H) ∧ (b = false → wAny K Wout D r cls d σ H)
  | (c, some i, ts) :: r => fun cls d σ H => ∃ b, PySem.W.exmOne K cls c = some b ∧ (b = true → ∀ a, H a = none → ts a cls d (Ends.un D i) (σ.set i (some (.ref a))) H) ∧ (b = false → wAny K Wout D r cls d σ H)
inductive HdA (X : Cx) : List ExceptHandler → List HdT → Prop
  | nil : HdA X [] []
  | plain {x : Str} {c : Value} {ts : Addr → Value → Option Addr → TS} {b : Stmt} {bs : List Stmt} {np pe : Pos} {hds : List ExceptHandler} {l : List HdT} (hc : Names X x c)
      (su : ∀ (a : Addr) (oe : Obj) (cls : Value) (d : Option Addr) (pn : List (Addr × Obj)), Zc cls d oe → (∃ vs, oe.data = .fields vs) → PSs (X.suite a ((a, oe) :: pn)) (b :: bs) (ts a cls d)) (r : HdA X hds l) :
      HdA X (.ExceptHandler (some (.Name x np)) none (b :: bs) pe :: hds) ((c, none, ts) :: l)
  | named {x n : Str} {c : Value} {i : Nat} {ts : Addr → Value → Option Addr → TS} {b : Stmt} {bs : List Stmt} {np pe : Pos} {hds : List ExceptHandler} {l : List HdT} (hN : X.N.Nodup) (hi : X.N[i]? = some n) (hl : X.env.kindOf n = some .local) (hc : Names X x c)
      (su : ∀ (a : Addr) (oe : Obj) (cls : Value) (d : Option Addr) (pn : List (Addr × Obj)), Zc cls d oe → (∃ vs, oe.data = .fields vs) → PSs (X.suite a ((a, oe) :: pn)) (b :: bs) (ts a cls d)) (r : HdA X hds l) :
      HdA X (.ExceptHandler (some (.Name x np)) (some n) (b :: bs) pe :: hds) ((c, some i, ts) :: l)
section
variable {X : Cx} {body : List Stmt} {hd0 : ExceptHandler} {hds : List ExceptHandler} {l : List HdT} {pos : Pos} {tb : WX → TS} {Wout : WX}
/-- what a caught error leaves: looked at by clause after clause -/
theorem hd_go {pins : List (Addr × Obj)} {σq : L2.St} {Hq : Hp} {B : Heap} {a : Addr} {cls : Value} {d : Option Addr} {sq : Shared} {st : Shared} {D : Ends} (ok : X.Ok) (hs : X.stack = X.env :: X.outer) (hf : X.env.frame = some X.env.locals) (tk : Takes X Wout)
    (J : Inv X pins σq Hq sq) (grd : ∀ b o, sq.heap.get? b = some o → b ∉ frs X.stack → B.get? b = some o) (up : sq.heap.UpToSlots st.heap) (free : Hq a = none) (os : st.os = sq.os) (bare : AllBare st.gens)
    (fly : PySem.HandSPX.FlyingZ B (X.env :: X.outer) a (Zc cls d) st.heap) : ∀ {hds : List ExceptHandler} {l : List HdT}, HdA X hds l → wAny X.K Wout D l cls d σq Hq → wpAny (model X.prog X.w) X.A (handleBy (.ref a) X.env hds) (SP X pins D) X.xe st := by
  have J3 : Inv X pins σq Hq st := J.landed grd fly.1 up os bare
  obtain ⟨oA, vA, eA, zA, dA⟩ := fly.there
  have out : a ∉ frs (X.env :: X.outer) := fun hm => by
    obtain ⟨_, o2, e2, nf⟩ := fly.2.2.1.mem hm
    rw [eA] at e2
    cases e2
    exact nf _ dA
  have aL : a ≠ X.env.locals := fun z => out (List.mem_filterMap.mpr ⟨X.env, List.mem_cons_self, hf.trans (congrArg some z.symm)⟩)
  have aF : a ∉ X.fs := fun hm => by
    obtain ⟨v, hv, q⟩ := List.mem_filterMap.mp hm
    exact out (List.mem_filterMap.mpr ⟨v, List.mem_cons_of_mem _ hv, q⟩)
  have S3 := J3.suite eA dA free aL aF
  have ty : PySem.W.Looks (model X.prog X.w) st.heap (typeOf (.ref a)) cls := fun A Q E s kp q => wpAny_typeOf_ref (kp _ _ eA) (by rw [zA.1]; exact q)
  have named : ∀ {x : Str} {c : Value} {np : Pos} {Q : Value → Shared → Prop} {E : Value → Shared → Prop}, Names X x c → Q c st → wpAny (model X.prog X.w) (X.A.mark (some (.ref a))) (eval (.Name x np) X.env) Q E st := fun {x c np Q E} hc q => by
    obtain ⟨g1, g2, g3 | ⟨g3, g4, g5⟩⟩ := hc
    · exact ld_glob (X := X.suite a ((a, oA) :: (X.pn ++ pins))) S3 g1 g3 q g2
    · exact ld_blt (X := X.suite a ((a, oA) :: (X.pn ++ pins))) S3 g1 g3 g4 q g5 g2
  intro hds l hk
  induction hk with
  | nil =>
    intro w
    refine wpAny_handleBy_nil ?_
    obtain ⟨k1, k2, k3, oe, vs, T, oT, ts', he, hz, hd, h1, hr⟩ := id fly
    unfold PySem.passOn
    refine wpAny_bind (wpAny_field he hd h1 ?_)
    rw [if_neg (show ¬((Value.ref T == Value.none) = true) by simp)]
    have last : wpAny (model X.prog X.w) X.A (setFlight (.ref a) X.env.frame) (fun _ s4 => wpAny (model X.prog X.w) X.A (throw (.ref a) : Sem Flow) (SP X pins D) X.xe s4) X.xe st := by
      rw [hf]
      refine PySem.HandSPX.setFlight_upZ fly fun hW held upW => wpAny_throw (tk _ _ ?_)
      exact ⟨a, B, sq, pins, σq, Hq, cls, d, rfl, J, grd, up.trans upW, .inr (.inr (by rw [hs]; exact held)), free, os, bare, w⟩
    first
      | exact wpAny_bind (wpAny_pure (wpAny_bind last))
      | exact wpAny_bind last
  | @plain x c ts b bs np pe hds2 l2 hc su r ih =>
    rintro ⟨z, hz, hyes, hno⟩
    refine wpAny_handleBy_cons (codeAny_handlers_test ?_) (by intro q; cases q)
    refine named hc ((PySem.W.exm_one (M := model X.prog X.w) J3.kIn ty hz).here ?_)
    cases z with
    | false => exact ih (hno rfl)
    | true =>
      refine codeAny_handlers_suite (PySem.HandSPX.lands_againZ fly fun h4 fl4 up4 => ?_)
      have J4 : Inv X pins σq Hq { st with heap := h4 } := J.landed grd fl4.1 (up.trans up4) os bare
      obtain ⟨o4, v4, e4, z4, d4⟩ := fl4.there
      refine wpAny_mono ((su a o4 cls d (X.pn ++ pins) z4 ⟨_, d4⟩).run [] _ _ Hq _ (J4.suite e4 d4 free aL aF) (hyes rfl a free)) (fun fl s6 hsp => ?_) (fun _ _ z => z.elim)
      cases fl with
      | ret u =>
        obtain ⟨v6, σ6, H6, S6, r6, q6⟩ := hsp
        exact ⟨v6, σ6, H6, S6.unsuite ok, r6, q6⟩
      | next =>
        obtain ⟨σ6, H6, S6, q6⟩ := hsp
        exact ⟨σ6, H6, S6.unsuite ok, q6⟩
      | brk =>
        obtain ⟨σ6, H6, S6, q6⟩ := hsp
        exact ⟨σ6, H6, S6.unsuite ok, q6⟩
      | cont =>
        obtain ⟨σ6, H6, S6, q6⟩ := hsp
        exact ⟨σ6, H6, S6.unsuite ok, q6⟩
  | @named x n c i ts b bs np pe hds2 l2 hN hi hl hc su r ih =>
    rintro ⟨z, hz, hyes, hno⟩
    refine wpAny_handleBy_cons (codeAny_handlers_test ?_) (by intro q; cases q)
    refine named hc ((PySem.W.exm_one (M := model X.prog X.w) J3.kIn ty hz).here ?_)
    cases z with
    | false => exact ih (hno rfl)
    | true =>
      refine codeAny_handlers_suite_as (PySem.HandSPX.lands_againZ fly fun h4 fl4 up4 => ?_)
      have J4 : Inv X pins σq Hq { st with heap := h4 } := J.landed grd fl4.1 (up.trans up4) os bare
      obtain ⟨o4, v4, e4, z4, d4⟩ := fl4.there
      refine store_ok (X := X.suite a ((a, o4) :: (X.pn ++ pins))) (v := .ref a) (J4.suite e4 d4 free aL aF) hN hi (.inl hl) rfl (fun s5 S5 => ?_) (.inr hl)
      refine wpAny_mono ((su a o4 cls d (X.pn ++ pins) z4 ⟨_, d4⟩).run [] s5 _ Hq _ S5 (hyes rfl a free)) (fun fl s6 hsp => ?_) (fun _ _ z => z.elim)
      have gone : ∀ {σ6 : L2.St} {H6 : Hp} {Q : Shared → Prop}, Inv (X.suite a ((a, o4) :: (X.pn ++ pins))) [] σ6 H6 s6 → (∀ s7, Inv X pins (σ6.set i none) H6 s7 → Q s7) →
          wpAny (model X.prog X.w) X.A (do bindName X.env n .none; unbindBehindTheSuite X.env n pe) (fun _ s7 => Q s7) X.xe s6 := fun {σ6 H6 Q} S6 hq => gone_ok (S6.unsuite ok) hN hi hl hq
      cases fl with
      | ret u =>
        obtain ⟨v6, σ6, H6, S6, r6, q6⟩ := hsp
        exact gone S6 fun s7 J7 => ⟨v6, _, H6, J7, r6, q6⟩
      | next =>
        obtain ⟨σ6, H6, S6, q6⟩ := hsp
        exact gone S6 fun s7 J7 => ⟨_, H6, J7, q6⟩
      | brk =>
        obtain ⟨σ6, H6, S6, q6⟩ := hsp
        exact gone S6 fun s7 J7 => ⟨_, H6, J7, q6⟩
      | cont =>
        obtain ⟨σ6, H6, S6, q6⟩ := hsp
        exact gone S6 fun s7 J7 => ⟨_, H6, J7, q6⟩
theorem ps_tryA (hs : X.stack = X.env :: X.outer) (hf : X.env.frame = some X.env.locals) (tk : Takes X Wout)
    (hb : ∀ (W : WX) (pn : List (Addr × Obj)) (xe : Value → Shared → Prop), Takes (X.tr pn xe) W → PassesOwn (model X.prog X.w) X.A X.env xe → PSs (X.tr pn xe) body (tb W))
    (hh : HdA X (hd0 :: hds) l) : PS X (.Try body (hd0 :: hds) [] [] pos) (fun D σ H => tb (wAny X.K Wout D l) D σ H) := by
  refine ⟨fun pins s σ H D I h => ?_⟩
  have ok := I.ok
  have fr : X.A.frames = some (X.env :: X.outer) := ok.frames.trans (congrArg some hs)
  refine wpAny_Try_except ?_
  have air : Takes (X.tr (X.pn ++ pins) (fun e s₁ => wpAny (model X.prog X.w) X.A (noteFrame e X.env) (fun _ s₂ => wpAny (model X.prog X.w) X.A (setFlight e none) (fun _ s₃ =>
      wpAny (model X.prog X.w) X.A (handleBy e X.env (hd0 :: hds)) (SP X pins D) X.xe s₃) X.xe s₂) X.xe s₁)) (wAny X.K Wout D l) := fun u s' xx => by
    obtain ⟨a, B, sq, pq, σq, Hq, cls, d, rfl, Jq, grd, up, sky, free, os, bare, w⟩ := xx
    have J : Inv X pins σq Hq sq := Jq.ofTry ok
    have sky2 : Sky B (X.env :: X.outer) a (Zc cls d) X.env.locals s'.heap := hs ▸ sky
    show wpAny (model X.prog X.w) X.A (noteFrame (.ref a) X.env) _ _ _
    refine Sky.land Zc.steady fr hf sky2 fun h3 fly up3 => ?_
    exact hd_go (st := { s' with heap := h3 }) ok hs hf tk J grd (up.trans up3) free os bare fly hh w
  refine wpAny_mono ((hb (wAny X.K Wout D l) (X.pn ++ pins) _ air PassesOwn.looking).run [] s σ H D (I.toTry _) h) (fun fl s1 hsp => ?_) (fun e s1 he => he)
  cases fl with
  | ret u =>
    obtain ⟨v, σ', H', J', r, q⟩ := hsp
    exact ⟨v, σ', H', J'.ofTry ok, r, q⟩
  | next =>
    obtain ⟨σ', H', J', q⟩ := hsp
    exact wpAny_execs_nil ⟨σ', H', J'.ofTry ok, q⟩
  | brk =>
    obtain ⟨σ', H', J', q⟩ := hsp
    exact ⟨σ', H', J'.ofTry ok, q⟩
  | cont =>
    obtain ⟨σ', H', J', q⟩ := hsp
    exact ⟨σ', H', J'.ofTry ok, q⟩
end
end RQ

set_option Elab.async false
set_option linter.all false
set_option maxRecDepth 100000
set_option maxHeartbeats 4000000
/-! A text and a dict compared; flat objects against texts: ==, in a tuple of texts. -/
namespace PySem.SeqAt
open PySem PySem.Calls Sem
section
variable {A : Around} {s : Shared}
theorem dict_eq_no_str (l : Addr) (es : Array DictEntry) (n : Nat) (dd : Option Addr) (sl : Array (Option Value)) (b : Str) (u : Tok) :
    Meets (Builtin.«dict.__eq__» ⟨[.ref l, .str b u], []⟩) (fun _ R s => s.heap.get? l = some { cls := .type "dict", dict := dd, data := .dict es n, slots := sl } ∧ R (.ok (.ret .notImplemented)) s) :=
  .of_wp fun prog w A R s h => by obtain ⟨hp, g, d, tk, os⟩ := s; obtain ⟨hl, h⟩ := h; have f1 := F.sub_str_dict; wp_walk using wpAny_loadPart' hl, wpAny_load hl; exact ⟨_, rfl, h⟩
theorem str_eq_no_dict (b : Str) (u : Tok) (l : Addr) (es : Array DictEntry) (n : Nat) (dd : Option Addr) (sl : Array (Option Value)) :
    Meets (Builtin.«str.__eq__» ⟨[.str b u, .ref l], []⟩) (fun _ R s => s.heap.get? l = some { cls := .type "dict", dict := dd, data := .dict es n, slots := sl } ∧ R (.ok (.ret .notImplemented)) s) :=
  .of_wp fun prog w A R s h => by obtain ⟨hp, g, d, tk, os⟩ := s; obtain ⟨hl, h⟩ := h; wp_walk using wpAny_loadPart' hl, wpAny_load hl; exact ⟨_, rfl, h⟩
end
end PySem.SeqAt
namespace PySem.SeqAt
section
variable {A : Around} {s : Shared} {l : Addr} {es : Array DictEntry} {n : Nat} {dd : Option Addr} {sl : Array (Option Value)}
theorem RcAt.dict_str (b : Str) (u : Tok) (ho : s.heap.get? l = some { cls := .type "dict", dict := dd, data := .dict es n, slots := sl }) (hu : A.units < cLine) : RcAt A s (.ref l) (.str b u) false := fun prog w E Q h =>
  rc_eq_decline_or (k := false) ⟨_, ho, rfl⟩ (typeIs_str s b u) (by decide) F.sub_str_dict F.slot_dict_eq F.slot_str_eq_refl
    (fun _ hq => call_meets F.slot_dict_eq ⟨_, ho, rfl⟩ F.entry_dict_eq (F.args_dict_eq_2 _ _) (dict_eq_no_str l es n dd sl b u) ⟨ho, hq⟩)
    (fun _ hq => call_meets F.slot_str_eq_refl (typeIs_str s b u) F.entry_str_eq (F.args_str_eq_2 _ _) (str_eq_no_dict b u l es n dd sl) ⟨ho, hq⟩)
    (fun _ hq => wpAny_of_eq (rfl : isSame (.ref l) (.str b u) = pure false) hq) (.inr hu) h
theorem RcAt.str_dict (b : Str) (u : Tok) (ho : s.heap.get? l = some { cls := .type "dict", dict := dd, data := .dict es n, slots := sl }) (hu : A.units < cLine) : RcAt A s (.str b u) (.ref l) false := fun prog w E Q h =>
  rc_eq_decline_or (k := false) (typeIs_str s b u) ⟨_, ho, rfl⟩ (by decide) F.sub_dict_str F.slot_str_eq F.slot_dict_eq_refl
    (fun _ hq => call_meets F.slot_str_eq (typeIs_str s b u) F.entry_str_eq (F.args_str_eq_2 _ _) (str_eq_no_dict b u l es n dd sl) ⟨ho, hq⟩)
    (fun _ hq => call_meets F.slot_dict_eq_refl ⟨_, ho, rfl⟩ F.entry_dict_eq (F.args_dict_eq_2 _ _) (dict_eq_no_str l es n dd sl b u) ⟨ho, hq⟩)
    (fun _ hq => wpAny_of_eq (rfl : isSame (.str b u) (.ref l) = pure false) hq) (.inr hu) h
theorem EqAt.str_dict (b : Str) (u : Tok) (ho : s.heap.get? l = some { cls := .type "dict", dict := dd, data := .dict es n, slots := sl }) (hu : A.units < cLine) : EqAt A s (.str b u) (.ref l) false := fun prog w E Q h => by
  unfold eqBool
  refine wpAny_holding (wpAny_ite_split (fun hab => absurd (eq_of_beq hab) nofun) fun _ => wpAny_bind (RcAt.str_dict b u ho hu prog w E _ (wpAny_truthy_bool h)))
end
end PySem.SeqAt
namespace RGd
open PySem PySem.Spec PyProof.Rows L2 RC
/-- a list, a tuple or a dict -/
inductive Box (H : Hp) (a : Addr) : Prop
  | lst {xs : List V} (h : H a = some (.lst xs))
  | tup {xs : List V} (h : H a = some (.tup xs))
  | dic {kvs : List (Key × V)} (h : H a = some (.dK kvs))
theorem Box.same {H H' : Hp} {a : Addr} (e : Same H H') : Box H a → Box H' a
  | .lst h => .lst (e _ _ h)
  | .tup h => .tup (e _ _ h)
  | .dic h => .dic (e _ _ h)
section
variable {X : Cx} {pins : List (Addr × Obj)} {σ : L2.St} {H : Hp} {s : Shared}
theorem box_eq (I : Inv X pins σ H s) {A : Around} {a : Addr} (b : Box H a) (y : Str) (t : Tok) (hu : A.units < cLine) : SeqAt.EqAt A s (.str y t) (.ref a) false := by
  cases b with
  | @lst xs h =>
    obtain ⟨_, its, n, r, g⟩ := (show ObjOk X.prog X.w H s.heap a (.lst xs) from I.hok a _ h)
    exact SeqAt.EqAt.str_list y t ⟨_, g, rfl, n, rfl⟩ hu
  | @tup xs h =>
    obtain ⟨_, its, r, g⟩ := (show ObjOk X.prog X.w H s.heap a (.tup xs) from I.hok a _ h)
    exact SeqAt.EqAt.str_tuple y t g hu
  | @dic kvs h =>
    obtain ⟨_, _, vs, rel, ⟨c, d0, dat, sl⟩, es, ep, g1, ex, g2, _⟩ := dk_of I.hok h
    obtain ⟨e1, e2, e3⟩ := ex
    dsimp only at e1 e2 e3 g2
    subst e1 e2 e3 g2
    exact SeqAt.EqAt.str_dict y t g1 hu
theorem box_rc (I : Inv X pins σ H s) {A : Around} {a : Addr} (b : Box H a) (y : Str) (t : Tok) (hu : A.units < cLine) : SeqAt.RcAt A s (.ref a) (.str y t) false := by
  cases b with
  | @lst xs h =>
    obtain ⟨_, its, n, r, g⟩ := (show ObjOk X.prog X.w H s.heap a (.lst xs) from I.hok a _ h)
    exact SeqAt.RcAt.list_str y t ⟨_, g, rfl, n, rfl⟩ hu
  | @tup xs h =>
    obtain ⟨_, its, r, g⟩ := (show ObjOk X.prog X.w H s.heap a (.tup xs) from I.hok a _ h)
    exact SeqAt.RcAt.tuple_str y t g hu
  | @dic kvs h =>
    obtain ⟨_, _, vs, rel, ⟨c, d0, dat, sl⟩, es, ep, g1, ex, g2, _⟩ := dk_of I.hok h
    obtain ⟨e1, e2, e3⟩ := ex
    dsimp only at e1 e2 e3 g2
    subst e1 e2 e3 g2
    exact SeqAt.RcAt.dict_str y t g1 hu
end
section
variable {X : Cx}
/-- x not in a tuple of texts, x flat or a list, a tuple, a dict -/
def rNiM (K : PySem.W.Frag) : R2 := fun x y H Q => rIn K true x y H Q ∨ ∃ (a p : Addr) (ys : List Str), x = .ref a ∧ y = .ref p ∧ Box H a ∧ SqT K H p (ys.map V.str) ∧ Q (.bl true) H
theorem strs_no (u : Value) : ∀ {ys : List Str} {us : List Value}, Vals (ys.map V.str) us → ∀ w ∈ us, ∃ y t, w = Value.str y t
  | [], _, .nil => fun w hw => by cases hw
  | y :: ys, _, .cons r rs => fun w hw => by
    rcases List.mem_cons.mp hw with rfl | hw
    · obtain ⟨t, e⟩ := r
      exact ⟨y, t, e⟩
    · exact strs_no u rs w hw
theorem op_notInM (hr : X.A.units + 8 < cLine) : OpR X (compareOp .NotIn) (rNiM X.K) := by
  intro pins s σ H x y v u Q I rx ry h
  rcases h with h | ⟨a, p, ys, rfl, rfl, b, hq, q⟩
  · exact op_notIn_seq pins s σ H x y v u Q I rx ry h
  · obtain rfl : v = Value.ref a := rx
    obtain rfl : u = Value.ref p := ry
    obtain ⟨its, r, pl, hz⟩ := I.tuple hq
    refine SeqAt.notIn_tupleAt (fun _ => false) pl (fun w hw => ?_) ⟨.bl _, H, I, rfl, ?_⟩
    · obtain ⟨z, t, rfl⟩ := strs_no .none r w (by simpa using hw)
      exact box_eq I b z t (by show X.A.units + 1 < cLine; omega)
    · rw [show its.toArray.any (fun _ => false) = false by simp]
      exact q
/-- x == a text, x flat or a list, a tuple, a dict -/
def rEqM : R2 := fun x y H Q => rEq x y H Q ∨ ∃ (a : Addr) (z : Str), x = .ref a ∧ y = .str z ∧ Box H a ∧ Q (.bl false) H
theorem op_eqM (hr : X.A.units + 8 < cLine) : OpR X (compareOp .Eq) rEqM := by
  intro pins s σ H x y v u Q I rx ry h
  rcases h with h | ⟨a, z, rfl, rfl, b, q⟩
  · exact op_eq pins s σ H x y v u Q I rx ry h
  · obtain rfl : v = Value.ref a := rx
    obtain ⟨t, rfl⟩ := ry
    exact box_rc I b z t (by omega) _ _ _ _ ⟨.bl false, H, I, rfl, q⟩
end
section
variable {X : Cx} {k : Nat} {f C : Addr} {ps : List Str} {sp : Sp} {dvs : List V} {m : Str} {pos apos : Pos} {e o : Expr} {es : List Expr} {ta : TE} {t : TA} {pl : Sem Bool} {W : WX}
/-- C.m(self, ..), where m may raise -/
def tCFunX (C : Addr) (sp : Sp) (dvs : List V) (E : L2.St → XK) (ta : TE) (t : TA) : TE := fun σ H Q => ta σ H fun x H1 => x = .ref C ∧ t σ H1 fun vs H2 => sp (vs ++ dvs) H2 Q (E σ)
theorem pe_cfX (tk : Takes X W) (cf : RA.CFun X.K C m f) (c : RQ.CallX X.prog X.w X.K X.mg X.base k f ps dvs sp) (hr : Room k X.A) (he : PE X o ta) (ha : PA X (e :: es) t)
    (hst : starEach (e :: es) X.env = (false, eval e X.env) :: starEach es X.env := by rfl) (hpl : (backTo pos (starEach es X.env)).any (·.1) = false := by rfl)
    (ht : eval (.Call (.Attribute o m apos) (e :: es) [] pos) X.env = (do
      let ov ← eval o X.env
      standAt apos.atName
      let (f, first) ← holding [ov] (getMethod ov m pl)
      callWith pos f first (backTo pos (starEach (e :: es) X.env)) (backToKw pos (keywordEach [] X.env))) := by rfl) :
    PE X (.Call (.Attribute o m apos) (e :: es) [] pos) (tCFunX C sp dvs (WE W) ta t) := by
  obtain ⟨fd, ds, F, hd, hb, hk⟩ := c
  refine ⟨fun pins s σ H Q I h => ?_⟩
  refine PySem.W.methodCall_KW (pl := pl) (thn (he.run pins s σ H _ I h) fun u s1 ⟨z, H1, I1, rz, ez, q⟩ => ?_) ht
  subst ez
  obtain rfl : u = Value.ref C := rz
  refine PySem.W.method_cls I1.kIn cf.ga (PySem.W.cls_value I1.kIn cf.rd cf.at_ (handed_of (v := .ref f) rfl) ?_)
  have I2 := I1.tok (s1.toks + 1)
  refine PySem.W.callWith_K (first := []) (h₀ := X.base) I2.ok.mod.kin cf.kp (thn (ha.run pos pins _ σ H1 _ I2 q) fun us s2 ⟨ws, H2, I3, r, q2⟩ => ⟨I3.kIn, ?_⟩) hst hpl
  exact run_fnSD F hr hb hd (passAt tk σ) I3 r q2
end
section
variable {X : Cx} {a C : Addr} {oe : Obj} {cls : Value} {d : Option Addr} {pn : List (Addr × Obj)}
/-- isinstance(e, Y), e the own error that the suite holds, Y an own class -/
def rIsX (K : PySem.W.Frag) (a C : Addr) (cls : Value) (d : Option Addr) : List V → Hp → VK → Prop := fun xs H Q => ∃ (c : Addr) (b : Bool) (dd : Addr) (fs : List (Str × V)), xs = [.ref a, .ref c] ∧ cls = .ref C ∧ d = some dd ∧ H dd = some (.xd fs) ∧ PySem.W.kitOne K (.ref C) (.ref c) = some b ∧ Q (.bl b) H
theorem call_isX (T : XfC X.K C) (Y : RB.TyC X.K C) (hz : Zc cls d oe) (hf : ∃ vs, oe.data = .fields vs) : CallR (X.suite a ((a, oe) :: pn)) (.builtin "isinstance") (rIsX X.K a C cls d) := by
  intro pins s σ H xs us Q I r h
  obtain ⟨c, b, dd, fs, rfl, ec, ed, ea, e, q⟩ := h
  subst ec ed
  cases r with
  | cons rx rr =>
    cases rr with
    | cons rt rr =>
      cases rr
      cases rx
      cases rt
      obtain ⟨ha, _⟩ := I.pin (a, oe) (List.mem_append.mpr (.inl List.mem_cons_self))
      obtain ⟨vs, hd⟩ := hf
      have hx : ObjOk X.prog X.w H s.heap dd (.xd fs) := I.hok dd _ ea
      obtain ⟨mA, hns, hr⟩ := hx
      obtain ⟨od, ho, hl⟩ := lookIn_ns hns
      have J : PySem.W.InstAt s.heap a oe C (some od) := ⟨ha, hz.1, by unfold PySem.W.notCls; rw [hd] <;> rfl, by rw [hz.2]; exact ho⟩
      have hcl : (PySem.W.clsIn X.K C).isSome = true := by
        obtain ⟨cd, hc, _⟩ := PySem.W.any_some T.hdC
        rw [hc]; rfl
      exact PySem.W.kia_one (PySem.W.kitx_exc hcl T.ga T.gg T.exC Y.ha Y.hn Y.ht Y.hm) I.kIn J e (fun z => nomatch z) fun tk => ⟨.bl b, H, I.kept (t' := tk) fun _ _ z => z, rfl, q⟩
end
end RGd

set_option Elab.async false
set_option linter.all false
/-! Where a suite runs: units and guards. -/
namespace RGd
open PySem PySem.Spec PyProof.Rows L2 RC
theorem hu8m {k : Nat} {A : Around} {v : Option Value} (hr : Room k A) : (A.mark v).units + 8 < cLine := by have := hr.un; show A.units + 8 < _; omega
theorem gdm {A : Around} {v : Option Value} (h : A.guards = some []) : (A.mark v).guards = some [] := h
end RGd

set_option Elab.async false
set_option linter.all false
set_option maxRecDepth 100000
set_option maxHeartbeats 0

namespace K17
open PySem PySem.Spec PyProof.Rows L2 RC
section
variable {P : Program} {w : World} {K : PySem.W.Frag} {mg : Str → Option Value} {base : Heap}
/-! ### words that are none: refused; the clock moved on; whether it is time -/
def FS.adv (s : FS) (d : Int) : FS := { s with now := s.now + d }
theorem _root_.RR.Rep.adv {s : FS} {ad : Ro → Addr} {H : Hp} (R : YR K s ad H) (d : Int) : YR K (s.adv d) ad (upd H (ad .y) (.ins (CY K) (ad (.x 0)) (yFs (s.adv d) ad))) ∧ YM K s ad H (s.adv d) ad (upd H (ad .y) (.ins (CY K) (ad (.x 0)) (yFs (s.adv d) ad))) :=
  RR.Rep.set (M' := Y1 K (s.adv d) ad) (o := .ins (CY K) (ad (.x 0)) (yFs (s.adv d) ad)) R .y rfl rfl (fun r hr => by cases r <;> first | rfl | exact absurd rfl hr)
def spAdv (K : PySem.W.Frag) : Sp := fun vs H Q _ => ∃ (s : FS) (ad : Ro → Addr) (d : Int), vs = [.ref (ad .y), .int d] ∧ YR K s ad H ∧ ∀ H', YR K (s.adv d) ad H' → YM K s ad H (s.adv d) ad H' → Q .non H'
theorem ok_adv {f : Addr} (T : Txt P w K mg) (F : Stands K "advance" "Yard.advance" s_Yard_advance [] f) : Callable P w K mg base 1 f ["self", "milliseconds"] [] (spAdv K) := by
  refine F.call0 sc_Yard_advance (fun vs H Q E h => ?_) (fun cdv A outer s0 H vs Q E hr h => ?_) (fun _ _ _ _ _ _ us hl => match us, hl with | [_, _], _ => rfl)
  · obtain ⟨s, ad, d, rfl, _⟩ := h; rfl
  obtain ⟨s, ad, d, rfl, R, hQ⟩ := h
  refine ⟨_, (pss_one (ps_fld (pv 0) (pe_op op_add (pe_fld (pv 0) rfl) (pv 1)) rfl)), ?_⟩
  walk_at "in"
  have hy := R.y_
  obtain ⟨R1, M1⟩ := R.adv d
  have fin := hQ _ R1 M1
  walk_at "go"
  exact fin
def spShould (K : PySem.W.Frag) : Sp := fun vs H Q _ => ∃ (s : FS) (ad : Ro → Addr) (i : Nat) (d : Hd) (t : TL) (r : V), vs = [.ref (ad (.h i)), r] ∧ YR K s ad H ∧ s.hs[i]? = some d ∧ d.tl = some t ∧ Q (.bl (decide (t.at_ ≤ s.now / 1000))) H
theorem ok_should {f : Addr} (T : Txt P w K mg) (F : Stands K "shouldRollover" "TimedRotatingFileHandler.shouldRollover" s_TimedRotatingFileHandler_shouldRollover [] f) (c_Yard_now : Callable P w K mg base 1 (He.ma K (He.ga K "Yard") "now") ["self"] [] (spNow K)) : Callable P w K mg base 2 f ["self", "record"] [] (spShould K) := by
  refine F.call0 sc_TimedRotatingFileHandler_shouldRollover (fun vs H Q E h => ?_) (fun cdv A outer s0 H vs Q E hr h => ?_) (fun _ _ _ _ _ _ us hl => match us, hl with | [_, _], _ => rfl)
  · obtain ⟨s, ad, i, d, t, r, rfl, _⟩ := h; rfl
  obtain ⟨s, ad, i, ⟨fv, tm, cl, fn, w, dl, op, sh, tl⟩, t, r, rfl, R, hd, rfl, hQ⟩ := h
  refine ⟨_, (pss_one (ps_ret (pe_cmpR op_ge (pe_op op_fdiv (pe_mt0 T.c_Yard T.m_Yard_now c_Yard_now (hr.mono (by first | decide | exact Nat.le_refl _)) (pe_fld (pv 0) rfl)) pe_int) (pe_fld (pv 0) rfl) (nomark _)))), ?_⟩
  walk_at "in"
  have ha := R.h_ hd
  have hy := R.y_
  walk_at "go"
  refine ⟨⟨by decide, by decide⟩, ?_⟩
  walk_at "go"
  exact hQ
/-- words that are none -/
def oddWL : List V := [.str "", .str "X", .str "W7", .str "W", .str "w-1", .str "SS", .str "MIDNIGH", .str "W 0", .str "DAYS", .non, .bl true, .int 0]
inductive OddW (H : Hp) : V → Prop
  | flat {v : V} (h : v ∈ oddWL) : OddW H v
  | lst {a : Addr} (h : H a = some (.lst [.str "S"])) : OddW H (.ref a)
  | tup {a : Addr} (h : H a = some (.tup [.str "H"])) : OddW H (.ref a)
  | dic {a : Addr} (h : H a = some (.dK [(Sum.inr "when", .str "S")])) : OddW H (.ref a)
theorem OddW.same {H H' : Hp} {v : V} (e : Same H H') : OddW H v → OddW H' v
  | .flat h => .flat h
  | .lst h => .lst (e _ _ h)
  | .tup h => .tup (e _ _ h)
  | .dic h => .dic (e _ _ h)
abbrev okC (c : Nat) : Bool := decide (c ∈ (Str.cps (("abcdefghijklmnopqrstuvwxyzABCDEFGHIJKLMNOPQRSTUVWXYZ" : Str) ++ ("0123456789" : Str))).toList)
/-- a text that is no word for times -/
structure OddT (K : PySem.W.Frag) (z : Str) : Prop where
  len : z.length ≤ 10
  sp : z.cps.toList.all okC = true → valV (kv_SPANS.map fun q => (q.1, q.2.v K)) (Sum.inr (Txt.upper z)) = none
  wk : z.cps.toList.all okC = true → inV (V.str (Txt.upper z)) wkL = false
/-- what is no text -/
def NoT (H : Hp) (v : V) : Prop := v = .non ∨ (∃ b, v = .bl b) ∨ (∃ i, v = .int i) ∨ ∃ a, v = .ref a ∧ ((∃ xs, H a = some (.lst xs)) ∨ (∃ xs, H a = some (.tup xs)) ∨ ∃ kvs, H a = some (.dK kvs))
theorem sp_none (K : PySem.W.Frag) {z : Str} (h : ∀ e ∈ kv_SPANS, e.1 ≠ Sum.inr z) : valV (kv_SPANS.map fun q => (q.1, q.2.v K)) (Sum.inr z) = none := by
  unfold valV
  rw [Option.map_eq_none_iff, List.find?_eq_none]
  intro e he
  obtain ⟨q, hq, rfl⟩ := List.mem_map.mp he
  simpa using h q hq
theorem OddW.two {H : Hp} {v : V} (h : OddW H v) : (∃ z, v = .str z ∧ OddT K z) ∨ NoT H v := by
  cases h with
  | flat h =>
    simp only [oddWL, List.mem_cons, List.not_mem_nil, or_false] at h
    rcases h with rfl | rfl | rfl | rfl | rfl | rfl | rfl | rfl | rfl | rfl | rfl | rfl
    · exact .inl ⟨_, rfl, by decide, fun _ => sp_none K (by decide +kernel), fun _ => by decide +kernel⟩
    · exact .inl ⟨_, rfl, by decide, fun _ => sp_none K (by decide +kernel), fun _ => by decide +kernel⟩
    · exact .inl ⟨_, rfl, by decide, fun _ => sp_none K (by decide +kernel), fun _ => by decide +kernel⟩
    · exact .inl ⟨_, rfl, by decide, fun _ => sp_none K (by decide +kernel), fun _ => by decide +kernel⟩
    · exact .inl ⟨_, rfl, by decide, fun _ => sp_none K (by decide +kernel), fun _ => by decide +kernel⟩
    · exact .inl ⟨_, rfl, by decide, fun _ => sp_none K (by decide +kernel), fun _ => by decide +kernel⟩
    · exact .inl ⟨_, rfl, by decide, fun _ => sp_none K (by decide +kernel), fun _ => by decide +kernel⟩
    · exact .inl ⟨_, rfl, by decide, fun _ => sp_none K (by decide +kernel), fun _ => by decide +kernel⟩
    · exact .inl ⟨_, rfl, by decide, fun _ => sp_none K (by decide +kernel), fun _ => by decide +kernel⟩
    · exact .inr (.inl rfl)
    · exact .inr (.inr (.inl ⟨_, rfl⟩))
    · exact .inr (.inr (.inr (.inl ⟨_, rfl⟩)))
  | lst h => exact .inr (.inr (.inr (.inr ⟨_, rfl, .inl ⟨_, h⟩⟩)))
  | tup h => exact .inr (.inr (.inr (.inr ⟨_, rfl, .inr (.inl ⟨_, h⟩)⟩)))
  | dic h => exact .inr (.inr (.inr (.inr ⟨_, rfl, .inr (.inr ⟨_, h⟩)⟩)))
def spCheckX (K : PySem.W.Frag) : Sp := fun vs H _ E => ∃ v : V, vs = [v] ∧ OddW H v ∧ ∀ (H' : Hp) (d : Addr), Same H H' → H' d = none → E (.ref (He.ga K "BadWhen")) (some d) (upd H' d (.xd [("when", v)]))
theorem ok_badwhen_init {f : Addr} (T : Txt P w K mg) (F : Stands K "__init__" "BadWhen.__init__" s_BadWhen_init [] f) : Callable P w K mg base 1 f ["self", "when"] [] (RQ.spExcInit K "when") := by
  refine F.call0 sc_BadWhen_init (fun vs H Q E h => ?_) (fun cdv A outer s H vs Q E hr h => ?_) (fun _ _ _ _ _ _ us hl => match us, hl with | [_, _], _ => rfl)
  · obtain ⟨a, C, v, rfl, _⟩ := h; rfl
  obtain ⟨a, C, v, rfl, hx, ha, hQ⟩ := h
  refine ⟨_, (pss_one (ps_ost (pv 0) (pv 1))), ?_⟩
  walk_at "in"
  exact RQ.init_rd hx (fun Q h => ⟨_, rfl, h⟩) (fun Q h => ⟨_, rfl, h⟩) ha hQ
theorem ok_checkx {f : Addr} (T : Txt P w K mg) (F : Stands K "checked_when" "checked_when" s_checked_when [] f) (c_BadWhen_init : Callable P w K mg base 1 (He.ma K (He.ga K "BadWhen") "__init__") ["self", "when"] [] (RQ.spExcInit K "when")) : RQ.CallX P w K mg base 3 f ["when"] [] (spCheckX K) := by
  refine RQ.stands_callX0 F sc_checked_when (fun vs H Q E h => ?_) (fun cdv A outer s0 H vs Q E hr h => ?_) (fun _ _ _ _ _ _ us hl => match us, hl with | [_], _ => rfl)
  · obtain ⟨v, rfl, _⟩ := h; rfl
  obtain ⟨v, rfl, ov, hE⟩ := h
  refine ⟨_, (pss_cons (ps_set (i := 1) sc_checked_when.nd rfl (by first | exact Or.inl rfl | exact Or.inr rfl) (pe_and (pe_callB call_isi (by rfl) T.b_isinstance (by decide +kernel) (pa_cons (pv 0) (pa_cons (pe_bltn (v := .ty "str") (u := .type "str") (by rfl) T.b_str (by decide +kernel) rfl) pa_nil))) (pe_one (pe_callB (cr_all rfl) (by rfl) T.b_all (by decide +kernel) (pa_cons (pe_lc (own := [("sign", 2)]) (by rfl) sc_checked_when.nd (pi_str (pv 0)) (blkOk_by (own := [("sign", 2)]) (N := nm_checked_when) (sc := defScope s_checked_when) (by decide +kernel)) (fun _ _ _ _ _ => (pg_name (i := 2) sc_checked_when.nd rfl (by first | exact Or.inl rfl | exact Or.inr rfl))) (fun _ _ _ _ _ => pts_nil) (fun _ _ _ _ _ => (pe_cmpR op_inS (pv 2) (pe_op op_add_str (pe_gs (by rfl) T.g_LETTERS) (pe_gs (by rfl) T.g_DIGITS)) (by rfl)))) pa_nil)))))
      (pss_cons (ps_set (i := 3) sc_checked_when.nd rfl (by first | exact Or.inl rfl | exact Or.inr rfl) (pe_ifExp (pt_val (pv 1)) (pe_upper (pv 0)) pe_str))
      (pss_cons (ps_if (PW.pt (pw_and (pt_cmpR (RT.op_notInKD T.t_SPANS) (pv 3) (pe_glob (v := .ref _) (by rfl) T.g_SPANS rfl) (by rfl)) (pw_and1 (pt_cmpR op_notIn_seq (pv 3) (pe_glob (v := .ref _) (by rfl) T.g_WEEKDAYS rfl) (by rfl))))) (pss_one (RQ.ps_exc rfl (takes_of rfl rfl rfl rfl) T.x_BadWhen c_BadWhen_init (hr.mono (by first | decide | exact Nat.le_refl _)) T.g_BadWhen (by rfl) (pa_cons (pv 0) pa_nil))) pss_nil)
      (pss_one (ps_ret (pv 3)))))), ?_⟩
  walk_at "in"
  refine seq_of (fun σ' H' => ∃ b : Bool, Same H H' ∧ (b = true → ∃ z, v = .str z ∧ z.length ≤ 10 ∧ valV (kv_SPANS.map fun q => (q.1, q.2.v K)) (Sum.inr (Txt.upper z)) = none ∧ inV (V.str (Txt.upper z)) wkL = false) ∧ σ' = [some v, some (.bl b), none, none]) (fun b' kb => ?_) (fun σ' H1 hm => ?_)
  · have no : ∀ H', Same H H' → b' { nx := fun _ H' => Q .non H', rt := Q } [some v, some (.bl false), none, none] H' := fun H' s => kb _ _ ⟨false, s, (fun z => nomatch z), rfl⟩
    rcases ov.two (K := K) with ⟨z, rfl, lz, h1, h2⟩ | rfl | ⟨b, rfl⟩ | ⟨i, rfl⟩ | ⟨a, rfl, ⟨xs, ha⟩ | ⟨xs, ha⟩ | ⟨kvs, ha⟩⟩
    · walk_at "go"
      intro D fD
      refine lc_it (walk_str (z := z)) (fun i H' => Same H H' ∧ H' D = some (.lst (((z.cps.toList.take i).map okC).map V.bl))) ⟨same_new fD _, upd_same⟩ (fun i H' _ h => trivial) (fun i v HA HB hi hP hv => ?_) (fun HA hP => ?_)
      · obtain ⟨sA, hD⟩ := hP
        obtain ⟨rfl, c, hc, rfl⟩ := hv
        have hc2 : z.cps.toList[i]? = some c := by rw [Array.getElem?_toList]; exact hc
        have lan : (((z.cps.toList.take i).map okC).map V.bl).length < PySem.sizeLine := by
          rw [List.length_map, List.length_map, List.length_take, sizeLine_eq]
          have : i < z.cps.size := hi
          have : z.cps.size ≤ 10 := lz
          omega
        have ll : (Str.length "abcdefghijklmnopqrstuvwxyzABCDEFGHIJKLMNOPQRSTUVWXYZ") + Str.length "0123456789" ≤ sizeLine := by decide
        walk_at "go"
        rw [upd_same, List.take_succ, hc2, List.map_append, List.map_append]
        rfl
      · obtain ⟨sA, hD⟩ := hP
        rw [List.take_of_length_le (Nat.le_of_eq (by simp))] at hD
        refine ⟨D, _, rfl, SqL.of hD, ?_⟩
        have ea : (z.cps.toList.map okC).all id = z.cps.toList.all okC := by rw [List.all_map]; rfl
        rw [ea]
        exact kb _ _ ⟨_, sA, fun q => ⟨z, rfl, lz, h1 q, h2 q⟩, rfl⟩
    · walk_at "go"
      exact no _ (Same.refl _)
    · walk_at "go"
      exact no _ (Same.refl _)
    · walk_at "go"
      exact no _ (Same.refl _)
    · walk_at "go"
      exact no _ (Same.refl _)
    · walk_at "go"
      exact no _ (Same.refl _)
    · walk_at "go"
      exact no _ (Same.refl _)
  obtain ⟨b, s1, hb, rfl⟩ := hm
  refine seq_of (fun σ' H' => H1 = H' ∧ ∃ z : Str, valV (kv_SPANS.map fun q => (q.1, q.2.v K)) (Sum.inr z) = none ∧ inV (V.str z) wkL = false ∧ σ' = [some v, some (.bl b), none, some (.str z)]) (fun b' kb => ?_) (fun σ' H' hm => ?_)
  · cases b with
    | true =>
      obtain ⟨z, rfl, lz, h1, h2⟩ := hb rfl
      walk_at "go"
      refine ⟨⟨_, rfl⟩, z, rfl, rfl, by omega, ?_⟩
      exact kb _ _ ⟨rfl, _, h1, h2, rfl⟩
    | false =>
      walk_at "go"
      exact kb _ _ ⟨rfl, "", sp_none K (by decide +kernel), by decide +kernel, rfl⟩
  obtain ⟨rfl, z, h1, h2, rfl⟩ := hm
  have e1 : (!(valV (kv_SPANS.map fun q => (q.1, q.2.v K)) (Sum.inr z)).isSome) = true := by rw [h1]; rfl
  have e2 : (!inV (V.str z) wkL) = true := by rw [h2]; rfl
  walk_at "go"
  refine ⟨.inr (T.kt_WEEKDAYS _), rfl, rfl, ?_⟩
  refine ⟨_, rfl, iteT' e2 ?_⟩
  refine ⟨_, rfl, _, rfl, fun d hd => ?_⟩
  exact hE H1 d s1 hd
/-! ### the init with such a word -/
def spTimX (K : PySem.W.Frag) : Sp := fun vs H _ E => ∃ (p y v fn iv bk dl : V), vs = [p, y, fn, v, iv, bk, dl] ∧ OddW H v ∧ ∀ (H' : Hp) (d : Addr), Same H H' → H' d = none → E (.ref (He.ga K "BadWhen")) (some d) (upd H' d (.xd [("when", v)]))
theorem timx_len : ∀ vs H Q E, spTimX K vs H Q E → vs.length = 7 := fun vs H Q E h => by
  obtain ⟨p, y, v, fn, iv, bk, dl, rfl, _⟩ := h; rfl
theorem ok_timx3 {f : Addr} (T : Txt P w K mg) (F : Stands K "__init__" "TimedRotatingFileHandler.__init__" s_TimedRotatingFileHandler_init [.str "H", .int 1, .int 0, .bl false] f) (c_checked_when : RQ.CallX P w K mg base 3 (He.ga K "checked_when") ["when"] [] (spCheckX K))
    (c_FileHandler_init : Callable P w K mg base 4 (He.ma K (He.ga K "FileHandler") "__init__") ["self", "yard", "filename", "mode", "delay"] [] (spFileInit K))
    (c_Yard_has_file : Callable P w K mg base 1 (He.ma K (He.ga K "Yard") "has_file") ["self", "name"] [] (spHas K)) (c_Yard_file_time : Callable P w K mg base 1 (He.ma K (He.ga K "Yard") "file_time") ["self", "name"] [] (spFTime K)) (c_Yard_now : Callable P w K mg base 1 (He.ma K (He.ga K "Yard") "now") ["self"] [] (spNow K))
    (c_TimedRotatingFileHandler_next_of : Callable P w K mg base 2 (He.ma K (He.ga K "TimedRotatingFileHandler") "next_of") ["self", "seconds"] [] (spNext K)) : RQ.CallX P w K mg base 5 f ["self", "yard", "filename", "when", "interval", "backupCount", "delay"] [.int 1, .int 0, .bl false] (spTimX K) := by
  refine RQ.stands_callX F sc_TimedRotatingFileHandler_init 4 1 timx_len (fun cdv A outer s H vs Q E hr h => ?_) (fun z => nomatch z) fun _ => ⟨rfl, fun _ _ _ _ _ _ _ us its hl hi => match us, hl, its, hi with | [_, _, _, _], _, [_, _, _, _], _ => ⟨_, rfl, rfl⟩⟩
  obtain ⟨p, y, v, fn, iv, bk, dl, rfl, ov, hE⟩ := h
  generalize e1 : spCheckX K = S1 at c_checked_when
  generalize e2 : spFileInit K = S2 at c_FileHandler_init
  refine ⟨_, (pss_cons (ps_set (i := 7) sc_TimedRotatingFileHandler_init.nd rfl (by first | exact Or.inl rfl | exact Or.inr rfl) (RQ.pe_fnX (takes_of rfl rfl rfl rfl) T.g_checked_when c_checked_when (hr.mono (by first | decide | exact Nat.le_refl _)) (by rfl) (pa_cons (pv 3) pa_nil)))
      (pss_cons (ps_set (i := 8) sc_TimedRotatingFileHandler_init.nd rfl (by first | exact Or.inl rfl | exact Or.inr rfl) (pe_ifExp (pt_val (pe_mt T.c_Yard T.m_Yard_has_file c_Yard_has_file (hr.mono (by first | decide | exact Nat.le_refl _)) (pv 1) (pa_cons (pv 2) pa_nil))) (pe_mt T.c_Yard T.m_Yard_file_time c_Yard_file_time (hr.mono (by first | decide | exact Nat.le_refl _)) (pv 1) (pa_cons (pv 2) pa_nil)) (pe_mt0 T.c_Yard T.m_Yard_now c_Yard_now (hr.mono (by first | decide | exact Nat.le_refl _)) (pv 1))))
      (pss_cons (ps_expr (pe_cf T.cf_FileHandler_init c_FileHandler_init (hr.mono (by first | decide | exact Nat.le_refl _)) (pe_glob (v := .ref _) (by rfl) T.g_FileHandler rfl) (pa_cons (pv 0) (pa_cons (pv 1) (pa_cons (pv 2) (pa_cons pe_str (pa_cons (pv 6) pa_nil)))))))
      (pss_cons (ps_fld (pv 0) (pv 7) rfl)
      (pss_cons (ps_fld (pv 0) (pv 4) rfl)
      (pss_cons (ps_fld (pv 0) (pv 5) rfl)
      (pss_one (ps_fld (pv 0) (pe_mt T.c_TimedRotatingFileHandler T.m_TimedRotatingFileHandler_next_of c_TimedRotatingFileHandler_next_of (hr.mono (by first | decide | exact Nat.le_refl _)) (pv 0) (pa_cons (pe_op op_fdiv (pv 8) pe_int) pa_nil)) rfl)))))))), ?_⟩
  walk_at "in"
  walk_at "go"
  rw [← e1]
  exact ⟨v, rfl, ov, hE⟩
/-! ### all closed, where none was made -/
def spShut0 (K : PySem.W.Frag) : Sp := fun vs H Q _ => ∃ (s : FS) (ad : Ro → Addr), vs = [.ref (ad .y)] ∧ YR K s ad H ∧ s.md = [] ∧ ∀ H', Same H H' → Q .non H'
theorem ok_shut0 {f : Addr} (T : Txt P w K mg) (F : Stands K "shutdown" "Yard.shutdown" s_Yard_shutdown [] f) : Callable P w K mg base 4 f ["self"] [] (spShut0 K) := by
  refine F.call0 sc_Yard_shutdown (fun vs H Q E h => ?_) (fun cdv A outer s0 H vs Q E hr h => ?_) (fun _ _ _ _ _ _ us hl => match us, hl with | [_], _ => rfl)
  · obtain ⟨s, ad, rfl, _⟩ := h; rfl
  obtain ⟨s, ad, rfl, R, hmd, hQ⟩ := h
  refine ⟨_, (pss_one (ps_for PassesOwn.never rfl (pi_list (pe_revL (pe_fld (pv 0) rfl))) (pg_name (i := 1) sc_Yard_shutdown.nd rfl (by first | exact Or.inl rfl | exact Or.inr rfl)) (pss_one (ps_if (pt_not (pt_val (pe_fld (pv 1) rfl))) (pss_one (ps_expr pe_never)) pss_nil)))), ?_⟩
  walk_at "in"
  have hy := R.y_
  have hm := R.md_
  rw [hmd] at hm
  walk_at "go"
  intro p fp
  have hp := upd_same (H := H) (a := p) (o := .lst ([] : List V).reverse)
  have s1 := same_new fp (.lst ([] : List V).reverse)
  generalize upd H p (.lst ([] : List V).reverse) = H1 at hp s1 ⊢
  refine ⟨p, rfl, ⟨_, SqL.of hp⟩, ?_⟩
  refine for_it (walk_list (xs := ([] : List V))) (fun i σ H' => H' = H1 ∧ σ = [some (.ref (ad .y)), none]) ⟨rfl, rfl⟩ (fun i σ H' _ h => by rw [h.1]; exact SqL.of hp) (fun i v σ HA HB hi hPv hv => nomatch hi) (fun σ HE hPv => ?_)
  obtain ⟨rfl, rfl⟩ := hPv
  walk_at "go"
  exact hQ _ s1
end
end K17

set_option Elab.async false
set_option linter.all false
set_option maxRecDepth 100000
set_option maxHeartbeats 4000000
/-! == of two dicts of texts' keys, of which one is empty. -/
namespace RDe
open PySem PySem.Spec PyProof.Rows L2
section
variable {X : Cx}
def rEqDE : R2 := fun x y H Q => ∃ a b ks ls, x = .ref a ∧ y = .ref b ∧ H a = some (.dK ks) ∧ H b = some (.dK ls) ∧ ls = [] ∧ Q (.bl ks.isEmpty) H
theorem op_eq_dictE (hu : X.A.units < cLine) : OpR X (compareOp .Eq) rEqDE := by
  intro pins s σ H x y v u Q I rx ry h
  obtain ⟨a, b, ks, ls, rfl, rfl, ea, eb, rfl, q⟩ := h
  cases ks with
  | nil => exact op_eq_dictA hu pins s σ H _ _ v u Q I rx ry ⟨a, b, [], [], rfl, rfl, ea, eb, rfl, (fun _ h => nomatch h), q⟩
  | cons k r =>
    obtain rfl : v = Value.ref a := rx
    obtain rfl : u = Value.ref b := ry
    obtain ⟨_, ya, va, ra, da⟩ := (show ObjOk X.prog X.w H s.heap a (.dK (k :: r)) from I.hok a _ ea)
    obtain ⟨_, yb, vb, rb, db⟩ := (show ObjOk X.prog X.w H s.heap b (.dK []) from I.hok b _ eb)
    have h1 : va.length = r.length + 1 := by rw [← ra.length]; rfl
    have h2 : vb.length = 0 := by rw [← rb.length]; rfl
    have hn : (va.length == vb.length) = false := by rw [h1, h2]; rfl
    exact PySem.W.keq_eq (knd := mixKind X.prog X.w) (r := true) ya yb da db hu (fun z => by rw [h1, h2] at z; cases z) (fin_bl I q (by rw [hn]; rfl))
end
end RDe

set_option Elab.async false
set_option linter.all false
set_option maxRecDepth 100000
set_option maxHeartbeats 4000000
/-! == and != of two things of the same shape: lists and tuples in one another. -/
namespace RQE
open PySem PySem.Spec PyProof.Rows PySem.SeqAt L2
def SmR (K : PySem.W.Frag) (H : Hp) (E : V → V → Prop) (x y : V) : Prop :=
  (∃ a b xs ys, x = .ref a ∧ y = .ref b ∧ SqL K H a xs ∧ SqL K H b ys ∧ Paired E xs ys) ∨ (∃ a b xs ys, x = .ref a ∧ y = .ref b ∧ SqT K H a xs ∧ SqT K H b ys ∧ Paired E xs ys)
def SmV (K : PySem.W.Frag) (H : Hp) : Nat → V → V → Prop
  | 0 => fun x y => x = y ∧ RY.flatW x = true
  | n + 1 => fun x y => (x = y ∧ RY.flatW x = true) ∨ SmR K H (SmV K H n) x y
theorem SmV.flat {K : PySem.W.Frag} {H : Hp} {n : Nat} {x : V} (h : RY.flatW x = true) : SmV K H n x x := by
  cases n with
  | zero => exact ⟨rfl, h⟩
  | succ n => exact .inl ⟨rfl, h⟩
theorem paired_flat {K : PySem.W.Frag} {H : Hp} {n : Nat} : ∀ {xs : List V}, xs.all RY.flatW = true → Paired (SmV K H n) xs xs
  | [], _ => .nil
  | x :: xs, h => by
    rw [List.all_cons, Bool.and_eq_true] at h
    exact .cons (SmV.flat h.1) (paired_flat h.2)
theorem paired_map {α : Type} {E : V → V → Prop} {f g : α → V} : ∀ {xs : List α}, (∀ x ∈ xs, E (f x) (g x)) → Paired E (xs.map f) (xs.map g)
  | [], _ => .nil
  | x :: xs, h => .cons (h x List.mem_cons_self) (paired_map fun y hy => h y (List.mem_cons_of_mem _ hy))
theorem paired_at {E : V → V → Prop} : ∀ {xs ys : List V}, xs.length = ys.length → (∀ (i : Nat) (x y : V), xs[i]? = some x → ys[i]? = some y → E x y) → Paired E xs ys
  | [], [], _, _ => .nil
  | [], _ :: _, h, _ => by simp at h
  | _ :: _, [], h, _ => by simp at h
  | x :: xs, y :: ys, hl, h => .cons (h 0 x y rfl rfl) (paired_at (by simpa using hl) fun i a b h1 h2 => h (i + 1) a b (by simpa using h1) (by simpa using h2))
section
variable {X : Cx} {pins : List (Addr × Obj)} {σ : L2.St} {H : Hp} {s : Shared}
theorem its_run {A : Around} {F : V → V → Prop} (ih : ∀ x y v u, F x y → RelV x v → RelV y u → EqAt A s v u true) {xs ys : List V} (hp : Paired F xs ys) :
    ∀ {us ws : List Value}, Vals xs us → Vals ys ws → ∀ j (h1 : j < us.length) (h2 : j < ws.length), EqAt A s us[j] ws[j] true := by
  induction hp with
  | nil =>
    intro us ws r1 r2 j h1 h2
    cases r1
    exact absurd h1 (Nat.not_lt_zero j)
  | cons h _ k =>
    intro us ws r1 r2 j h1 h2
    cases r1 with
    | cons a1 b1 =>
      cases r2 with
      | cons a2 b2 =>
        cases j with
        | zero => exact ih _ _ _ _ h a1 a2
        | succ j => exact k b1 b2 j (Nat.lt_of_succ_lt_succ h1) (Nat.lt_of_succ_lt_succ h2)
theorem smR_run (I : Inv X pins σ H s) {A : Around} {F : V → V → Prop} (hu : A.units < cLine) (ih : ∀ x y v u, F x y → RelV x v → RelV y u → EqAt A.in1 s v u true) {x y : V} {v u : Value} (h : SmR X.K H F x y) (rx : RelV x v) (ry : RelV y u) : RcAt A s v u true ∧ RcNeAt A s v u false := by
  rcases h with ⟨a, b, xs, ys, rfl, rfl, ha, hb, hp⟩ | ⟨a, b, xs, ys, rfl, rfl, ha, hb, hp⟩
  · cases (show v = Value.ref a from rx)
    cases (show u = Value.ref b from ry)
    obtain ⟨us, r1, p1, _⟩ := I.list ha
    obtain ⟨ws, r2, p2, _⟩ := I.list hb
    have hsz : us.toArray.size = ws.toArray.size := by
      rw [List.size_toArray, List.size_toArray, ← r1.length, ← r2.length]
      exact Paired.length hp
    have ee : ∀ j (h1 : j < us.toArray.size) (h2 : j < ws.toArray.size), EqAt A.in1 s us.toArray[j] ws.toArray[j] ((fun _ => true) j) := fun j h1 h2 => by
      have k := its_run ih hp r1 r2 j (by simpa using h1) (by simpa using h2)
      simpa using k
    have h1 := RcAt.lists (e := fun _ => true) p1.isList p2.isList hsz hu ee
    have h2 := RcNeAt.lists (e := fun _ => true) p1.isList p2.isList hsz hu ee
    rw [RY.all_tt] at h1 h2
    exact ⟨h1, h2⟩
  · cases (show v = Value.ref a from rx)
    cases (show u = Value.ref b from ry)
    obtain ⟨us, r1, p1, _⟩ := I.tuple ha
    obtain ⟨ws, r2, p2, _⟩ := I.tuple hb
    have hsz : (us.toArray.size == ws.toArray.size) = true := by
      rw [List.size_toArray, List.size_toArray, ← r1.length, ← r2.length]
      exact beq_iff_eq.mpr (Paired.length hp)
    have ee : ∀ j (h1 : j < us.toArray.size) (h2 : j < ws.toArray.size), EqAt A.in1 s us.toArray[j] ws.toArray[j] ((fun _ => true) j) := fun j h1 h2 => by
      have k := its_run ih hp r1 r2 j (by simpa using h1) (by simpa using h2)
      simpa using k
    have h1 := RcAt.tuples (e := fun _ => true) p1 p2 hu ee
    have h2 := RcNeAt.tuples (e := fun _ => true) p1 p2 hu ee
    rw [RY.all_tt, hsz] at h1 h2
    exact ⟨h1, h2⟩
theorem smV_run (I : Inv X pins σ H s) : ∀ (n : Nat) (A : Around), A.units + n < cLine → ∀ (x y : V) (v u : Value), SmV X.K H n x y → RelV x v → RelV y u → EqAt A s v u true
  | 0, _, _, x, y, v, u, h, rx, ry => by
    obtain ⟨rfl, f⟩ := h
    exact RY.eq_same rx ry f
  | n + 1, A, hu, x, y, v, u, h, rx, ry => by
    rcases h with ⟨rfl, f⟩ | h
    · exact RY.eq_same rx ry f
    · have step := (smR_run I (A := A) (by omega) (smV_run I n A.in1 (by show A.units + 1 + n < cLine; omega)) h rx ry).1
      obtain ⟨a, b, rfl, rfl⟩ : ∃ a b, x = .ref a ∧ y = .ref b := by
        rcases h with ⟨a, b, _, _, e1, e2, _⟩ | ⟨a, b, _, _, e1, e2, _⟩ <;> exact ⟨a, b, e1, e2⟩
      cases (show v = Value.ref a from rx)
      cases (show u = Value.ref b from ry)
      by_cases e : a = b
      · subst e; exact EqAt.same _
      · exact EqAt.of_refs e step
end
def rEqS (K : PySem.W.Frag) : R2 := fun x y H Q => ∃ n, n ≤ 60 ∧ SmR K H (SmV K H n) x y ∧ Q (.bl true) H
def rNeS (K : PySem.W.Frag) : R2 := fun x y H Q => ∃ n, n ≤ 60 ∧ SmR K H (SmV K H n) x y ∧ Q (.bl false) H
section
variable {X : Cx}
theorem op_eqS (hu : X.A.units + 64 < cLine) : OpR X (compareOp .Eq) (rEqS X.K) := by
  intro pins s σ H x y v u Q I rx ry h
  obtain ⟨n, hn, h, q⟩ := h
  exact (smR_run I (A := X.A) (by omega) (smV_run I n X.A.in1 (by show X.A.units + 1 + n < cLine; omega)) h rx ry).1 X.prog X.w _ _ ⟨.bl true, H, I, rfl, q⟩
theorem op_neS (hu : X.A.units + 64 < cLine) : OpR X (compareOp .NotEq) (rNeS X.K) := by
  intro pins s σ H x y v u Q I rx ry h
  obtain ⟨n, hn, h, q⟩ := h
  exact (smR_run I (A := X.A) (by omega) (smV_run I n X.A.in1 (by show X.A.units + 1 + n < cLine; omega)) h rx ry).2 X.prog X.w _ _ ⟨.bl false, H, I, rfl, q⟩
end
end RQE

set_option Elab.async false
set_option linter.all false
set_option maxRecDepth 100000
set_option maxHeartbeats 0

namespace K17
open PySem PySem.Spec PyProof.Rows L2 RC
section
variable {P : Program} {w : World} {K : PySem.W.Frag} {mg : Str → Option Value} {base : Heap}
/-! ### words that are none are refused -/
theorem OddW.dat {H : Hp} {v : V} (h : OddW H v) : ∃ d, RGd.DatV H v d ∧ d.showable = true ∧ d.shown.length ≤ sizeLine := by
  cases h with
  | flat h =>
    simp only [oddWL, List.mem_cons, List.not_mem_nil, or_false] at h
    rcases h with rfl | rfl | rfl | rfl | rfl | rfl | rfl | rfl | rfl | rfl | rfl | rfl
    · exact ⟨_, .flat (.str _), rfl, by decide +kernel⟩
    · exact ⟨_, .flat (.str _), rfl, by decide +kernel⟩
    · exact ⟨_, .flat (.str _), rfl, by decide +kernel⟩
    · exact ⟨_, .flat (.str _), rfl, by decide +kernel⟩
    · exact ⟨_, .flat (.str _), rfl, by decide +kernel⟩
    · exact ⟨_, .flat (.str _), rfl, by decide +kernel⟩
    · exact ⟨_, .flat (.str _), rfl, by decide +kernel⟩
    · exact ⟨_, .flat (.str _), rfl, by decide +kernel⟩
    · exact ⟨_, .flat (.str _), rfl, by decide +kernel⟩
    · exact ⟨_, .flat .non, rfl, by decide +kernel⟩
    · exact ⟨_, .flat (.bl _), rfl, by decide +kernel⟩
    · exact ⟨_, .flat (.int _), by decide +kernel, by decide +kernel⟩
  | lst h => exact ⟨.list [.str "S"], .lst h (.cons (.str _) .nil), by decide +kernel, by decide +kernel⟩
  | tup h => exact ⟨.tuple [.str "H"], .tup h (.cons (.str _) .nil), by decide +kernel, by decide +kernel⟩
  | dic h => exact ⟨.dict [(.str "when", .str "S")], .dic h (.cons ⟨.str _, .str _⟩ .nil), by decide +kernel, by decide +kernel⟩
def spRefused (K : PySem.W.Frag) : Sp := fun vs H Q _ => ∃ (s l : Addr) (n : Nat), vs = [.ref s] ∧ Stm H s l n ∧ n ≤ 900000 ∧ ∀ H', Old s l H H' → Stm H' s l (n + 1) → Q (.bl true) H'
theorem ok_refused {f : Addr} (T : Txt P w K mg) (F : Stands K "_law_is_refused" "_law_is_refused" s__law_is_refused [] f)
    (c__law_pick : Callable P w K mg base 2 (He.ga K "_law_pick") ["_law_stream", "_law_some"] [] (spPick K))
    (c_Yard_init : Callable P w K mg base 5 (He.ma K (He.ga K "Yard") "__init__") ["self", "now"] [] (spYardInit K))
    (c_TimedRotatingFileHandler_init_d3 : RQ.CallX P w K mg base 5 (He.ma K (He.ga K "TimedRotatingFileHandler") "__init__") ["self", "yard", "filename", "when", "interval", "backupCount", "delay"] [.int 1, .int 0, .bl false] (spTimX K))
    (c_Yard_files : Callable P w K mg base 2 (He.ma K (He.ga K "Yard") "files") ["self"] [] (spFiles K))
    (c_Yard_shutdown : Callable P w K mg base 4 (He.ma K (He.ga K "Yard") "shutdown") ["self"] [] (spShut0 K)) :
    RGd.CallG P w K mg base 7 f ["_law_stream"] (spRefused K) := by
  refine RGd.stands_callG0 F sc__law_is_refused (fun vs H Q E h => ?_) (fun cdv A outer s0 H vs Q E hr gd h => ?_) (fun _ _ _ _ _ _ us hl => match us, hl with | [_], _ => rfl)
  · obtain ⟨s, l, n, rfl, _⟩ := h; rfl
  obtain ⟨s, l, n, rfl, hs, hn, hQ⟩ := h
  generalize e1 : spTimX K = S1 at c_TimedRotatingFileHandler_init_d3
  refine ⟨_, (pss_cons (ps_set (i := 1) sc__law_is_refused.nd rfl (by first | exact Or.inl rfl | exact Or.inr rfl) (pe_lst (pa_cons pe_str (pa_cons pe_str (pa_cons pe_str (pa_cons pe_str (pa_cons pe_str (pa_cons pe_str (pa_cons pe_str (pa_cons pe_str (pa_cons pe_str (pa_cons pe_non (pa_cons pe_bl (pa_cons pe_int (pa_cons (pe_lst (pa_cons pe_str pa_nil)) (pa_cons (pe_tup (pa_cons pe_str pa_nil)) (pa_cons (pe_disp (pps_cons pe_str pe_str pps_nil) (by rfl) (by rfl) (fun z => by cases z) (by decide)) pa_nil)))))))))))))))))
      (pss_cons (ps_par3 (by rfl) sc__law_is_refused.nd (i := 2) (j := 3) (l := 4) rfl rfl rfl (by decide) (by decide) (by decide) rfl rfl rfl (pa_cons (pe_mk T.k_Yard T.g_Yard c_Yard_init (hr.mono (by first | decide | exact Nat.le_refl _)) (by rfl) (pa_cons pe_int pa_nil)) (pa_cons (pe_fn T.g__law_pick c__law_pick (hr.mono (by first | decide | exact Nat.le_refl _)) (by rfl) (pa_cons (pv 0) (pa_cons (pv 1) pa_nil))) (pa_cons pe_non pa_nil))) (by rfl))
      (pss_cons (RQ.ps_tryA rfl rfl takes_none5 (fun W pn xe tk _ => (pss_one (ps_expr (RQ.pe_mkX tk T.k_TimedRotatingFileHandler T.g_TimedRotatingFileHandler c_TimedRotatingFileHandler_init_d3 (hr.mono (by first | decide | exact Nat.le_refl _)) (by rfl) (pa_cons (pv 2) (pa_cons pe_str (pa_cons (pv 3) pa_nil))))))) (RQ.HdA.named (i := 5) sc__law_is_refused.nd rfl rfl ⟨by rfl, by decide, .inl T.g_BadWhen⟩ (fun a oe cls dd pn hz hf => (pss_one (ps_set (i := 4) sc__law_is_refused.nd rfl (by first | exact Or.inl rfl | exact Or.inr rfl) (pe_tup (pa_cons (pe_callB (RGd.call_repr_dat (RGd.gdm gd) (RGd.hu8m hr)) (by rfl) T.b_repr (by decide +kernel) (pa_cons (pe_xf T.x_BadWhen.xf T.x_BadWhen.no hz hf (pv 5)) pa_nil)) (pa_cons (pe_callB (RGd.call_isX T.x_BadWhen.xf T.ty_BadWhen hz hf) (by rfl) T.b_isinstance (by decide +kernel) (pa_cons (pv 5) (pa_cons (pe_glob (v := .ref _) (by rfl) T.g_YardError rfl) pa_nil))) pa_nil)))))) RQ.HdA.nil))
      (pss_one (ps_ret (pe_and (pe_cmpR (RQE.op_eqS hr.units) (pv 4) (pe_tup (pa_cons (pe_callB (RGd.call_repr_dat gd (RGd.hu8 hr)) (by rfl) T.b_repr (by decide +kernel) (pa_cons (pv 3) pa_nil)) (pa_cons pe_bl pa_nil))) (nomark _)) (pe_and (pe_cmpR (RDe.op_eq_dictE (Nat.lt_of_succ_lt (hu_of hr))) (pe_mt0 T.c_Yard T.m_Yard_files c_Yard_files (hr.mono (by first | decide | exact Nat.le_refl _)) (pv 2)) pe_dnewK (nomark _)) (pe_one (pe_cmpR op_isN (pe_mt0 T.c_Yard T.m_Yard_shutdown c_Yard_shutdown (hr.mono (by first | decide | exact Nat.le_refl _)) (pv 2)) pe_non (nomark _)))))))))), ?_⟩
  walk_at "in"
  refine seq_of (fun σ' H' => ∃ p p1 p2 p3, Same H H' ∧ RS.Wd H' s l n [RS.cell p (.lst [.str "", .str "X", .str "W7", .str "W", .str "w-1", .str "SS", .str "MIDNIGH", .str "W 0", .str "DAYS", .non, .bl true, .int 0, .ref p1, .ref p2, .ref p3]), RS.cell p3 (.dK [((Sum.inr "when" : Key), V.str "S")]), RS.cell p2 (.tup [.str "H"]), RS.cell p1 (.lst [.str "S"])] ∧ σ' = [some (.ref s), some (.ref p), none, none, none, none]) (fun b' kb => ?_) (fun σ' H1 hm => ?_)
  · walk_at "go"
    intro p1 f1
    walk_at "go"
    intro p2 f2
    walk_at "go"
    intro p3 f3
    walk_at "go"
    intro p4 f4
    rw [upd_upd] at f4 ⊢
    have W0 : RS.Wd H s l n [] := ⟨hs, (fun c h => by cases h), .nil, (fun c h => by cases h)⟩
    have W1 := W0.new (o := .lst [.str "S"]) f1
    have W2 := W1.new (o := .tup [.str "H"]) f2
    have W3 := W2.new (o := .dK (mergeK [] [((Sum.inr "when" : Key), V.str "S")])) f3
    have W4 := W3.new (o := .lst [.str "", .str "X", .str "W7", .str "W", .str "w-1", .str "SS", .str "MIDNIGH", .str "W 0", .str "DAYS", .non, .bl true, .int 0, .ref p1, .ref p2, .ref p3]) f4
    exact kb _ _ ⟨p4, p1, p2, p3, ((same_new f1 _).trans (same_new f2 _)).trans ((same_new f3 _).trans (same_new f4 _)), W4, rfl⟩
  obtain ⟨p, p1, p2, p3, s1, W1, rfl⟩ := hm
  refine seq_of (fun σ' H' => ∃ (v : V) (ad : Ro → Addr), OddW H' v ∧ Old s l H H' ∧ RS.Wd H' s l (n + 1) [cF K (FS.s0 5) ad] ∧ σ' = [some (.ref s), some (.ref p), some (.ref (ad .y)), some v, some .non, none]) (fun b' kb => ?_) (fun σ' H2 hm => ?_)
  · walk_at "go"
    intro y dy hy hdy hne
    refine ⟨y, dy, 5, rfl, upd_same, fun H2 q N' => ⟨rfl, ?_⟩⟩
    obtain ⟨ad, ea, R2, f2, S2⟩ := YNew.repF hy hdy hne N'
    have W2 := W1.add (c := cF K (FS.s0 5) ad) S2 R2 f2
    have sH := s1.trans S2
    clear N' W1 S2 R2 f2 hy hdy hne
    subst ea
    have WP := W2.up1
    obtain ⟨m1, m2⟩ := WP.stmNe
    refine ⟨_, rfl, _, rfl, s, l, p, n, _, rfl, W2.stm, by omega, m1, m2, WP.c0, by show 1 ≤ 15; decide, by show 15 ≤ 1000; decide, fun H3 x o3 st3 hx => ?_⟩
    have W3 := W2.old o3 st3
    have W4 : RS.Wd H3 s l (n + 1) [cF K (FS.s0 5) ad] := W3.up1.tl.up1.tl.up1.tl.up1.tl
    refine ⟨_, _, _, rfl, ?_⟩
    refine kb _ _ ⟨x, ad, ?_, (Old.of_same sH).trans o3, W4, rfl⟩
    simp only [List.mem_cons, List.not_mem_nil, or_false] at hx
    rcases hx with rfl | rfl | rfl | rfl | rfl | rfl | rfl | rfl | rfl | rfl | rfl | rfl | rfl | rfl | rfl
    · exact .flat (by simp [oddWL])
    · exact .flat (by simp [oddWL])
    · exact .flat (by simp [oddWL])
    · exact .flat (by simp [oddWL])
    · exact .flat (by simp [oddWL])
    · exact .flat (by simp [oddWL])
    · exact .flat (by simp [oddWL])
    · exact .flat (by simp [oddWL])
    · exact .flat (by simp [oddWL])
    · exact .flat (by simp [oddWL])
    · exact .flat (by simp [oddWL])
    · exact .flat (by simp [oddWL])
    · exact .lst W3.up4.c0
    · exact .tup W3.up3.c0
    · exact .dic W3.up2.c0
  obtain ⟨v, ad, ov, o2, W2, rfl⟩ := hm
  clear W1 s1
  refine seq_of (fun σ' H' => ∃ p9 t, (∃ d, RGd.DatV H' v d ∧ d.showable = true ∧ d.shown.length ≤ sizeLine ∧ t = d.shown) ∧ Old s l H H' ∧ RS.Wd H' s l (n + 1) [cF K (FS.s0 5) ad] ∧ H' p9 = some (.tup [.str t, .bl true]) ∧ σ' = [some (.ref s), some (.ref p), some (.ref (ad .y)), some v, some (.ref p9), none]) (fun b' kb => ?_) (fun σ' H3 hm => ?_)
  · obtain ⟨dt, dv, sh, sz⟩ := ov.dat
    walk_at "go"
    intro x dx hx hdx hne
    rw [← e1]
    have sm := (same_new hdx (.own x)).trans (same_new (by rw [upd_ne (Ne.symm hne)]; exact hx) (.ins (He.ga K "TimedRotatingFileHandler") dx []))
    refine ⟨_, _, v, _, _, _, _, rfl, ov.same sm, fun H4 d s4 hd => ?_⟩
    have s5 := sm.trans s4
    have s6 := s5.trans (same_new hd (.xd [("when", v)]))
    have hd5 := upd_same (H := H4) (a := d) (o := .xd [("when", v)])
    generalize upd H4 d (.xd [("when", v)]) = H5 at s6 hd5 ⊢
    refine ⟨true, T.e_BadWhen_BadWhen, fun _ a fa => ?_, fun z => nomatch z⟩
    refine ⟨_, rfl, rfl, rfl, d, _, v, rfl, hd5, rfl, v, dt, rfl, dv.same s6, sh, sz, _, rfl, _, true, d, _, rfl, rfl, rfl, hd5, T.kit_BadWhen_YardError, (by show 2 ≤ sizeLine; decide), fun q fq => ?_⟩
    have s7 := s6.trans (same_new fq (.tup [.str dt.shown, .bl true]))
    exact kb _ _ ⟨q, dt.shown, ⟨dt, dv.same s7, sh, sz, rfl⟩, o2.trans (Old.of_same s7), W2.same s7, upd_same, rfl⟩
  obtain ⟨p9, t, ⟨dt, dv, sh, sz, rfl⟩, o3, W3, hp, rfl⟩ := hm
  clear W2 o2
  refine ⟨_, rfl, _, rfl, _, dt, rfl, dv, sh, sz, (by show 2 ≤ sizeLine; decide), fun q fq => ?_⟩
  have s4 := same_new fq (.tup [.str dt.shown, .bl true])
  have W4 := W3.same s4
  have o4 := o3.trans (Old.of_same s4)
  refine ⟨1, by decide, .inr ⟨p9, q, [.str dt.shown, .bl true], [.str dt.shown, .bl true], rfl, rfl, SqT.of (s4 _ _ hp), SqT.of upd_same, RQE.paired_flat rfl⟩, ?_⟩
  generalize upd H3 q (.tup [.str dt.shown, .bl true]) = H4 at W4 o4 ⊢
  refine ⟨true, rfl, ?_⟩
  rw [if_pos rfl]
  have R4 : YR K (FS.s0 5) ad H4 := W4.hd
  refine ⟨_, rfl, ad .y, _, _, rfl, R4.y_, rfl, FS.s0 5, ad, rfl, R4, by show 0 ≤ 1000; decide, .nil, fun p5 H5 s5 f5 h5 => ?_⟩
  intro q6 f6
  have s6 := s5.trans (same_new f6 (.dK []))
  have h6 := same_new f6 (.dK []) _ _ h5
  refine ⟨p5, q6, _, _, rfl, rfl, h6, upd_same, rfl, ?_⟩
  have W6 := W4.same s6
  have R6 : YR K (FS.s0 5) ad _ := W6.hd
  refine ⟨true, rfl, ?_⟩
  rw [if_pos rfl]
  refine ⟨_, rfl, ad .y, _, _, rfl, R6.y_, rfl, FS.s0 5, ad, rfl, R6, rfl, fun H7 s7 => ?_⟩
  refine ⟨rfl, ?_⟩
  exact hQ H7 (o4.trans (Old.of_same (s6.trans s7))) (W6.same s7).stm
end
end K17

set_option Elab.async false
set_option linter.all false
set_option maxRecDepth 100000
set_option maxHeartbeats 0

namespace K17
open PySem PySem.Spec PyProof.Rows L2 RC
section
variable {P : Program} {w : World} {K : PySem.W.Frag} {mg : Str → Option Value} {base : Heap}
/-! ### a drawn time; the time that is due -/
def momB : Int := 253370808000000
def spMom : Sp := fun vs H Q _ => ∃ (s l : Addr) (n : Nat), vs = [.ref s] ∧ Stm H s l n ∧ n ≤ 900000 ∧ ∀ (H' : Hp) (t : Int), Old s l H H' → Stm H' s l (n + 3) → 0 ≤ t → t ≤ momB → Q (.int t) H'
theorem ok_moment {f : Addr} (T : Txt P w K mg) (F : Stands K "_law_moment" "_law_moment" s__law_moment [] f)
    (c__law_draw : Callable P w K mg base 1 (He.ga K "_law_draw") ["_law_stream", "_law_many"] [] spDraw)
    (c__law_pick : Callable P w K mg base 2 (He.ga K "_law_pick") ["_law_stream", "_law_some"] [] (spPick K)) : Callable P w K mg base 3 f ["_law_stream"] [] spMom := by
  refine F.call0 sc__law_moment (fun vs H Q E h => ?_) (fun cdv A outer s0 H vs Q E hr h => ?_) (fun _ _ _ _ _ _ us hl => match us, hl with | [_], _ => rfl)
  · obtain ⟨s, l, n, rfl, _⟩ := h; rfl
  obtain ⟨s, l, n, rfl, hs, hn, hQ⟩ := h
  refine ⟨_, (pss_cons (ps_set (i := 1) sc__law_moment.nd rfl (by first | exact Or.inl rfl | exact Or.inr rfl) (pe_lst (pa_cons pe_int (pa_cons pe_int (pa_cons pe_int (pa_cons pe_int (pa_cons pe_int (pa_cons pe_int (pa_cons pe_int pa_nil)))))))))
      (pss_cons (ps_set (i := 2) sc__law_moment.nd rfl (by first | exact Or.inl rfl | exact Or.inr rfl) (pe_lst (pa_cons pe_int (pa_cons pe_int (pa_cons (pe_un un_neg pe_int) (pa_cons pe_int (pa_cons pe_int (pa_cons (pe_un un_neg pe_int) (pa_cons pe_int (pa_cons pe_int (pa_cons pe_int pa_nil)))))))))))
      (pss_cons (ps_set (i := 3) sc__law_moment.nd rfl (by first | exact Or.inl rfl | exact Or.inr rfl) (pe_fn T.g__law_draw c__law_draw (hr.mono (by first | decide | exact Nat.le_refl _)) (by rfl) (pa_cons (pv 0) (pa_cons pe_int pa_nil))))
      (pss_cons (ps_if (pt_cmpR op_eq (pv 3) pe_int (nomark _)) (pss_one (ps_ret (pe_callB (call_max2 rfl) (by rfl) T.b_max (by decide +kernel) (pa_cons pe_int (pa_cons (pe_op op_add (pe_fn T.g__law_pick c__law_pick (hr.mono (by first | decide | exact Nat.le_refl _)) (by rfl) (pa_cons (pv 0) (pa_cons (pv 1) pa_nil))) (pe_fn T.g__law_pick c__law_pick (hr.mono (by first | decide | exact Nat.le_refl _)) (by rfl) (pa_cons (pv 0) (pa_cons (pv 2) pa_nil)))) pa_nil))))) pss_nil)
      (pss_cons (ps_if (pt_cmpR op_eq (pv 3) pe_int (nomark _)) (pss_one (ps_ret (pe_op op_add (pe_op op_mul pe_int (pe_fn T.g__law_draw c__law_draw (hr.mono (by first | decide | exact Nat.le_refl _)) (by rfl) (pa_cons (pv 0) (pa_cons pe_int pa_nil)))) (pe_callB (call_max2 rfl) (by rfl) T.b_max (by decide +kernel) (pa_cons pe_int (pa_cons (pe_fn T.g__law_pick c__law_pick (hr.mono (by first | decide | exact Nat.le_refl _)) (by rfl) (pa_cons (pv 0) (pa_cons (pv 2) pa_nil))) pa_nil)))))) pss_nil)
      (pss_one (ps_ret (pe_op op_add (pe_op op_mul pe_int (pe_fn T.g__law_draw c__law_draw (hr.mono (by first | decide | exact Nat.le_refl _)) (by rfl) (pa_cons (pv 0) (pa_cons (pe_op op_mul pe_int (pe_op op_pow pe_int pe_int)) pa_nil)))) (pe_fn T.g__law_draw c__law_draw (hr.mono (by first | decide | exact Nat.le_refl _)) (by rfl) (pa_cons (pv 0) (pa_cons pe_int pa_nil))))))))))), ?_⟩
  walk_at "in"
  have W0 : RS.Wd H s l n [] := ⟨hs, (fun c h => by cases h), .nil, (fun c h => by cases h)⟩
  refine seq_of (fun σ' H' => ∃ p1 : Addr, Same H H' ∧ RS.Wd H' s l n [RS.cell p1 (.lst [.int 0, .int 86400000, .int 951782400000, .int 951868800000, .int 1709164800000, .int 253370764800000, .int 4107542400000])] ∧ σ' = [some (.ref s), some (.ref p1), none, none]) (fun b' kb => ?_) (fun σ' H1 hm => ?_)
  · walk_at "go"
    intro p1 f1
    exact kb _ _ ⟨p1, same_new f1 _, W0.new f1, rfl⟩
  obtain ⟨p1, s1, W1, rfl⟩ := hm
  refine seq_of (fun σ' H' => ∃ p2 : Addr, Same H H' ∧ RS.Wd H' s l n [RS.cell p2 (.lst [.int 0, .int 1, .int (-1), .int 999, .int 1000, .int (-1000), .int 3600000, .int 43200000, .int 59999]), RS.cell p1 (.lst [.int 0, .int 86400000, .int 951782400000, .int 951868800000, .int 1709164800000, .int 253370764800000, .int 4107542400000])] ∧ σ' = [some (.ref s), some (.ref p1), some (.ref p2), none]) (fun b' kb => ?_) (fun σ' H2 hm => ?_)
  · walk_at "go"
    intro p2 f2
    exact kb _ _ ⟨p2, s1.trans (same_new f2 _), W1.new f2, rfl⟩
  obtain ⟨p2, s2, W2, rfl⟩ := hm
  clear W0 W1 s1
  have O2 : Old s l H H2 := Old.of_same s2
  refine seq_of (fun σ' H' => ∃ c : Int, Old s l H H' ∧ RS.Wd H' s l (n + 1) [RS.cell p2 (.lst [.int 0, .int 1, .int (-1), .int 999, .int 1000, .int (-1000), .int 3600000, .int 43200000, .int 59999]), RS.cell p1 (.lst [.int 0, .int 86400000, .int 951782400000, .int 951868800000, .int 1709164800000, .int 253370764800000, .int 4107542400000])] ∧ σ' = [some (.ref s), some (.ref p1), some (.ref p2), some (.int c)]) (fun b' kb => ?_) (fun σ' H3 hm => ?_)
  · refine ⟨_, rfl, s, l, n, 3, rfl, W2.stm, by omega, by decide, by decide, fun H3 c o3 st3 c0 c1 => ?_⟩
    exact kb _ _ ⟨c, O2.trans o3, W2.old o3 st3, rfl⟩
  obtain ⟨c, O3, W3, rfl⟩ := hm
  clear W2 O2 s2
  have near : ∀ {x : V}, x ∈ ([.int 0, .int 1, .int (-1), .int 999, .int 1000, .int (-1000), .int 3600000, .int 43200000, .int 59999] : List V) → ∃ i : Int, x = .int i ∧ -1000 ≤ i ∧ i ≤ 43200000 := fun {x} h => by
    simp only [List.mem_cons, List.not_mem_nil, or_false] at h
    rcases h with rfl | rfl | rfl | rfl | rfl | rfl | rfl | rfl | rfl <;> exact ⟨_, rfl, by decide, by decide⟩
  have some_ : ∀ {x : V}, x ∈ ([.int 0, .int 86400000, .int 951782400000, .int 951868800000, .int 1709164800000, .int 253370764800000, .int 4107542400000] : List V) → ∃ i : Int, x = .int i ∧ 0 ≤ i ∧ i ≤ 253370764800000 := fun {x} h => by
    simp only [List.mem_cons, List.not_mem_nil, or_false] at h
    rcases h with rfl | rfl | rfl | rfl | rfl | rfl | rfl <;> exact ⟨_, rfl, by decide, by decide⟩
  unfold momB at hQ
  refine seq_of (fun σ' H' => H3 = H' ∧ σ' = [some (.ref s), some (.ref p1), some (.ref p2), some (.int c)]) (fun b' kb => ?_) (fun σ' H' hm => ?_)
  · by_cases cz : c = 0
    · subst cz
      have e0 : decide (V.int 0 = V.int 0) = true := decide_eq_true rfl
      refine ⟨_, rfl, rfl, _, rfl, iteT' e0 ?_⟩
      obtain ⟨m3, m4⟩ := W3.up1.stmNe
      refine ⟨_, rfl, _, rfl, s, l, p1, n + 1, _, rfl, W3.stm, by omega, m3, m4, W3.up1.c0, by decide, by decide, fun H4 x o4 st4 hx => ?_⟩
      obtain ⟨i, rfl, i0, i1⟩ := some_ hx
      have W4 := W3.old o4 st4
      obtain ⟨m1, m2⟩ := W4.stmNe
      refine ⟨_, rfl, _, rfl, s, l, p2, n + 1 + 1, _, rfl, W4.stm, by omega, m1, m2, W4.c0, by decide, by decide, fun H5 x o5 st5 hx => ?_⟩
      obtain ⟨j, rfl, j0, j1⟩ := near hx
      have fin := hQ H5 (if i + j > 0 then i + j else 0) ((O3.trans o4).trans o5) st5 (by split <;> omega) (by split <;> omega)
      walk_at "go"
      exact fin
    · have e0 : decide (V.int c = V.int 0) = false := decide_eq_false fun z => cz (V.int.inj z)
      walk_at "go"
      exact kb _ _ ⟨rfl, rfl⟩
  obtain ⟨rfl, rfl⟩ := hm
  refine seq_of (fun σ' H' => H3 = H' ∧ σ' = [some (.ref s), some (.ref p1), some (.ref p2), some (.int c)]) (fun b' kb => ?_) (fun σ' H' hm => ?_)
  · by_cases cz : c = 1
    · subst cz
      have e0 : decide (V.int 1 = V.int 1) = true := decide_eq_true rfl
      refine ⟨_, rfl, rfl, _, rfl, iteT' e0 ?_⟩
      refine ⟨_, rfl, s, l, n + 1, 40000, rfl, W3.stm, by omega, by decide, by decide, fun H4 d o4 st4 d0 d1 => ?_⟩
      have W4 := W3.old o4 st4
      obtain ⟨m1, m2⟩ := W4.stmNe
      refine ⟨_, _, rfl, rfl, .inl ⟨by decide, by decide⟩, ?_⟩
      refine ⟨_, rfl, _, rfl, s, l, p2, n + 1 + 1, _, rfl, W4.stm, by omega, m1, m2, W4.c0, by decide, by decide, fun H5 x o5 st5 hx => ?_⟩
      obtain ⟨j, rfl, j0, j1⟩ := near hx
      have fin := hQ H5 (86400000 * d + (if j > 0 then j else 0)) ((O3.trans o4).trans o5) st5 (by split <;> omega) (by split <;> omega)
      walk_at "go"
      exact fin
    · have e0 : decide (V.int c = V.int 1) = false := decide_eq_false fun z => cz (V.int.inj z)
      walk_at "go"
      exact kb _ _ ⟨rfl, rfl⟩
  obtain ⟨rfl, rfl⟩ := hm
  refine ⟨_, rfl, _, _, rfl, rfl, ⟨by decide, by decide, by decide⟩, _, _, rfl, rfl, .inl ⟨by decide, by decide⟩, ?_⟩
  refine ⟨s, l, n + 1, 4000000000, rfl, W3.stm, by omega, by decide, by decide, fun H4 d o4 st4 d0 d1 => ?_⟩
  refine ⟨_, _, rfl, rfl, .inl ⟨by decide, by decide⟩, ?_⟩
  refine ⟨_, rfl, s, l, n + 1 + 1, 1000, rfl, st4, by omega, by decide, by decide, fun H5 d' o5 st5 d0' d1' => ?_⟩
  have fin := hQ H5 (1000 * d + d') ((O3.trans o4).trans o5) st5 (by omega) (by omega)
  walk_at "go"
  exact fin
end
end K17

set_option Elab.async false
set_option linter.all false
set_option maxRecDepth 100000
set_option maxHeartbeats 0

namespace K17
open PySem PySem.Spec PyProof.Rows L2 RC
section
variable {P : Program} {w : World} {K : PySem.W.Frag} {mg : Str → Option Value} {base : Heap}
/-! ### the law's end of a file -/
open DT
def spDue : Sp := fun vs H Q _ => ∃ (wi : Nat) (iv n : Int), vs = [.str (whN wi), .int iv, .int n] ∧ wi < 12 ∧ 1 ≤ iv ∧ iv ≤ 1000 ∧ 0 ≤ n ∧ ∀ H', Same H H' → Q (.int (TL.next ⟨wi, iv, 0, 0⟩ n)) H'
theorem sizes_val : ∀ wi : Nat, wi < 12 → valV (mergeK [] [(Sum.inr ("S" : Str), V.int 1), (Sum.inr ("M" : Str), V.int 60), (Sum.inr ("H" : Str), V.int 3600), (Sum.inr ("D" : Str), V.int 86400)]) (Sum.inr (whN wi)) = if wi < 4 then some (.int (unitI wi)) else none := fun wi h =>
  match wi, h with
  | 0, _ => rfl
  | 1, _ => rfl
  | 2, _ => rfl
  | 3, _ => rfl
  | 4, _ => rfl
  | 5, _ => rfl
  | 6, _ => rfl
  | 7, _ => rfl
  | 8, _ => rfl
  | 9, _ => rfl
  | 10, _ => rfl
  | 11, _ => rfl
theorem wk_int : ∀ wi : Nat, wi < 12 → 5 ≤ wi → ∃ c, (whN wi).cps.toList[1]? = some c ∧ PySem.intText? ⟨#[c]⟩ = some ((wi - 5 : Nat) : Int) ∧ (whN wi).length = 2 := fun wi h h5 =>
  match wi, h, h5 with
  | 5, _, _ => ⟨48, by decide +kernel, by decide +kernel, by decide +kernel⟩
  | 6, _, _ => ⟨49, by decide +kernel, by decide +kernel, by decide +kernel⟩
  | 7, _, _ => ⟨50, by decide +kernel, by decide +kernel, by decide +kernel⟩
  | 8, _, _ => ⟨51, by decide +kernel, by decide +kernel, by decide +kernel⟩
  | 9, _, _ => ⟨52, by decide +kernel, by decide +kernel, by decide +kernel⟩
  | 10, _, _ => ⟨53, by decide +kernel, by decide +kernel, by decide +kernel⟩
  | 11, _, _ => ⟨54, by decide +kernel, by decide +kernel, by decide +kernel⟩
theorem unit_wk : ∀ wi : Nat, wi < 12 → 5 ≤ wi → unitI wi = 604800 := fun wi h h5 =>
  match wi, h, h5 with
  | 5, _, _ => rfl
  | 6, _, _ => rfl
  | 7, _, _ => rfl
  | 8, _, _ => rfl
  | 9, _, _ => rfl
  | 10, _, _ => rfl
  | 11, _, _ => rfl
structure DueI (H1 : Hp) (wi : Nat) (iv n : Int) (p : Addr) (d m : Int) (i : Nat) (σ : L2.St) (H' : Hp) : Prop where
  ex : H' = H1 ∧ ∃ o, σ = [some (.str (whN wi)), some (.int iv), some (.int n), some (.ref p), some (.int (d + m * i)), some (.int m), o]
theorem ok_due {f : Addr} (T : Txt P w K mg) (F : Stands K "_law_due" "_law_due" s__law_due [] f) : Callable P w K mg base 1 f ["_law_when", "_law_interval", "_law_seconds"] [] spDue := by
  refine F.call0 sc__law_due (fun vs H Q E h => ?_) (fun cdv A outer s0 H vs Q E hr h => ?_) (fun _ _ _ _ _ _ us hl => match us, hl with | [_, _, _], _ => rfl)
  · obtain ⟨wi, iv, n, rfl, _⟩ := h; rfl
  obtain ⟨wi, iv, n, rfl, hw, iv0, iv1, n0, hQ⟩ := h
  refine ⟨_, (pss_cons (ps_set (i := 3) sc__law_due.nd rfl (by first | exact Or.inl rfl | exact Or.inr rfl) (pe_disp (pps_cons pe_str pe_int (pps_cons pe_str pe_int (pps_cons pe_str pe_int (pps_cons pe_str pe_int pps_nil)))) (by rfl) (by rfl) (fun z => by cases z) (by decide)))
      (pss_cons (ps_if (pt_cmp (pc_din (hu_of hr) (pv 0) (pv 3))) (pss_one (ps_ret (pe_op op_add (pv 2) (pe_op op_mul (pv 1) (pe_dget (hu_of hr) (pv 3) (pv 0) (fun _ _ => rfl)))))) pss_nil)
      (pss_cons (ps_par (by rfl) sc__law_due.nd (i := 4) (j := 5) rfl rfl (by decide) rfl rfl (pa_cons (pe_op op_add (pe_op op_fdiv (pv 2) pe_int) pe_int) (pa_cons pe_int pa_nil)) (by rfl))
      (pss_cons (ps_if (pt_cmpR op_ne (pv 0) pe_str (nomark _)) (pss_cons (ps_set (i := 5) sc__law_due.nd rfl (by first | exact Or.inl rfl | exact Or.inr rfl) pe_int)
      (pss_one (ps_while PassesOwn.never (pt_cmpR op_ne (pe_op op_mod (pe_op op_sub (pe_op op_sub (pv 4) pe_int) (pe_callTy call_int_str (by rfl) T.b_int (by decide +kernel) (pa_cons (pe_ix ix_str (pv 0) pe_int (fun _ _ => rfl)) pa_nil))) pe_int) pe_int (nomark _)) (pss_one (ps_set (i := 4) sc__law_due.nd rfl (by first | exact Or.inl rfl | exact Or.inr rfl) (pe_op op_add (pv 4) pe_int)))))) pss_nil)
      (pss_cons (ps_for PassesOwn.never rfl (pi_range1 (by rfl) T.b_range (pa_cons (pe_op op_sub (pv 1) pe_int) pa_nil)) (pg_name (i := 6) sc__law_due.nd rfl (by first | exact Or.inl rfl | exact Or.inr rfl)) (pss_one (ps_set (i := 4) sc__law_due.nd rfl (by first | exact Or.inl rfl | exact Or.inr rfl) (pe_op op_add (pv 4) (pv 5)))))
      (pss_one (ps_ret (pe_op op_mul pe_int (pv 4))))))))), ?_⟩
  walk_at "in"
  have hv := sizes_val wi hw
  unfold TL.next TL.span at hQ
  dsimp only at hQ
  refine seq_of (fun σ' H' => ∃ p : Addr, Same H H' ∧ H' p = some (.dK (mergeK [] [(Sum.inr ("S" : Str), V.int 1), (Sum.inr ("M" : Str), V.int 60), (Sum.inr ("H" : Str), V.int 3600), (Sum.inr ("D" : Str), V.int 86400)])) ∧ σ' = [some (.str (whN wi)), some (.int iv), some (.int n), some (.ref p), none, none, none]) (fun b' kb => ?_) (fun σ' H1 hm => ?_)
  · walk_at "go"
    intro p fp
    have s1 := same_new fp (.dK (mergeK [] [(Sum.inr ("S" : Str), V.int 1), (Sum.inr ("M" : Str), V.int 60), (Sum.inr ("H" : Str), V.int 3600), (Sum.inr ("D" : Str), V.int 86400)]))
    walk_at "go"
    refine kb _ _ ⟨p, ?_, upd_same, rfl⟩
    rw [upd_upd]; exact s1
  obtain ⟨p, s1, hp, rfl⟩ := hm
  refine seq_of (fun σ' H' => H1 = H' ∧ ¬ wi < 4 ∧ σ' = [some (.str (whN wi)), some (.int iv), some (.int n), some (.ref p), none, none, none]) (fun b' kb => ?_) (fun σ' H' hm => ?_)
  · by_cases c4 : wi < 4
    · rw [if_pos c4] at hv hQ
      have hQ1 := hQ _ s1
      walk_at "go"
      refine ⟨.inl ⟨by omega, by omega⟩, ?_⟩
      walk_at "go"
      exact hQ1
    · rw [if_neg c4] at hv
      walk_at "go"
      exact kb _ _ ⟨rfl, c4, rfl⟩
  obtain ⟨rfl, c4, rfl⟩ := hm
  rw [if_neg c4] at hQ
  have hQ1 := hQ _ s1
  clear hQ hv
  have em := not_mid wi hw
  refine seq_of (fun σ' H' => H1 = H' ∧ σ' = [some (.str (whN wi)), some (.int iv), some (.int n), some (.ref p), some (.int (n / 86400 + 1)), some (.int 1), none]) (fun b' kb => ?_) (fun σ' H' hm => ?_)
  · walk_at "go"
    refine ⟨⟨by decide, by decide⟩, ?_⟩
    walk_at "go"
    exact kb _ _ ⟨rfl, rfl⟩
  obtain ⟨rfl, rfl⟩ := hm
  refine seq_of (fun σ' H' => H1 = H' ∧ ∃ d m : Int, σ' = [some (.str (whN wi)), some (.int iv), some (.int n), some (.ref p), some (.int d), some (.int m), none] ∧ 86400 * (d + m * (iv - 1)) = (if wi = 4 then (n / 86400 + 1) * 86400 + iv * unitI wi - 86400 else (n / 86400 + ((((wi - 5 : Nat) : Int) - n / 86400 - 3) % 7) + 1) * 86400 + iv * unitI wi - 604800)) (fun b' kb => ?_) (fun σ' H' hm => ?_)
  · by_cases cm : wi = 4
    · rw [if_pos cm] at kb
      rw [decide_eq_true cm] at em
      have u4 : unitI wi = 86400 := by rw [cm]; rfl
      rw [u4] at kb
      have en : (!decide (V.str (whN wi) = V.str ("MIDNIGHT" : Str))) = false := by rw [em]; rfl
      walk_at "go"
      exact kb _ _ ⟨rfl, _, _, rfl, by omega⟩
    · rw [if_neg cm] at kb
      rw [decide_eq_false cm] at em
      have c5 : 5 ≤ wi := by omega
      rw [unit_wk wi hw c5] at kb
      have en : (!decide (V.str (whN wi) = V.str ("MIDNIGHT" : Str))) = true := by rw [em]; rfl
      obtain ⟨c, hc, hi, hlw⟩ := wk_int wi hw c5
      have hk7 : ((wi - 5 : Nat) : Int) < 7 := by omega
      have hk0 : (0 : Int) ≤ ((wi - 5 : Nat) : Int) := by omega
      have hix : atI (whN wi).cps.toList 1 = some c := atI_nat (j := 1) hc
      have lw : (whN wi).length ≤ PySem.sizeLine := by rw [hlw]; decide
      have l1 : Str.length ⟨#[c]⟩ ≤ 640 := by show 1 ≤ 640; decide
      generalize ((wi - 5 : Nat) : Int) = k at kb hi hk7 hk0
      generalize n / 86400 = d at kb ⊢
      walk_at "go"
      refine ⟨fun m σ H' => H' = H1 ∧ ∃ z : Int, d + 1 ≤ z ∧ z ≤ d + (k - d - 3) % 7 + 1 ∧ m = (d + (k - d - 3) % 7 + 1 - z).toNat ∧ σ = [some (.str (whN wi)), some (.int iv), some (.int n), some (.ref p), some (.int z), some (.int 7), none], ⟨_, rfl, d + 1, by omega, by omega, rfl, rfl⟩, fun m σ H' hP => ?_⟩
      obtain ⟨rfl, z, z1, z2, rfl, rfl⟩ := hP
      by_cases cz : z < d + (k - d - 3) % 7 + 1
      · have e0 : decide (V.int ((z - 5 - k) % 7) = V.int 0) = false := decide_eq_false fun q => by have := V.int.inj q; omega
        have e9 : (!decide (V.int ((z - 5 - k) % 7) = V.int 0)) = true := by rw [e0]; rfl
        walk_at "go"
        refine ⟨fun σ H9 => H9 = H' ∧ σ = [some (.str (whN wi)), some (.int iv), some (.int n), some (.ref p), some (.int (z + 1)), some (.int 7), none], fun σ' H9 h => ⟨(d + (k - d - 3) % 7 + 1 - (z + 1)).toNat, by omega, h.1, z + 1, by omega, by omega, rfl, h.2⟩, ?_⟩
        walk_at "go"
        rfl
      · have ez : z = d + (k - d - 3) % 7 + 1 := by omega
        have e0 : decide (V.int ((z - 5 - k) % 7) = V.int 0) = true := decide_eq_true (by congr 1; omega)
        have e9 : (!decide (V.int ((z - 5 - k) % 7) = V.int 0)) = false := by rw [e0]; rfl
        walk_at "go"
        exact kb _ _ ⟨rfl, _, _, rfl, by omega⟩
  obtain ⟨rfl, d, m, rfl, hfin⟩ := hm
  rw [← hfin] at hQ1
  walk_at "go"
  refine for_it walk_range (fun i σ H' => DueI H1 wi iv n p d m i σ H') ⟨⟨rfl, none, by simp⟩⟩ (fun _ _ _ _ _ => trivial) (fun i x σ HA HB hi hP hx => ?_) (fun σ HB hP => ?_)
  · obtain ⟨rfl, rfl⟩ := hx
    obtain ⟨⟨rfl, o, rfl⟩⟩ := hP
    walk_at "go"
    exact ⟨⟨rfl, _, by rw [show d + m * ((i + 1 : Nat) : Int) = d + m * (i : Int) + m from by rw [Int.natCast_add, Int.mul_add]; omega]; rfl⟩⟩
  · obtain ⟨⟨rfl, o, rfl⟩⟩ := hP
    have e1 : (((iv - 1).toNat : Nat) : Int) = iv - 1 := by omega
    rw [← e1] at hQ1
    walk_at "go"
    refine ⟨.inl ⟨by decide, by decide⟩, ?_⟩
    exact hQ1
end
end K17

set_option Elab.async false
set_option linter.all false
set_option maxRecDepth 100000
set_option maxHeartbeats 0
namespace K17
open PySem PySem.Spec PyProof.Rows L2 RC
section
variable {P : Program} {w : World} {K : PySem.W.Frag} {mg : Str → Option Value} {base : Heap}
/-! ### levels -/
/-- what a level may be here -/
inductive LvIn where
  | int (i : Int)
  | nm (x : Str)
def LvIn.v : LvIn → V
  | .int i => .int i
  | .nm x => .str x
def spIsInt : Sp := fun vs H Q _ => ∃ v : LvIn, vs = [v.v] ∧ Q (.bl (match v with | .int _ => true | .nm _ => false)) H
theorem ok_is_integer {f : Addr} (T : Txt P w K mg) (F : Stands K "is_integer" "is_integer" s_is_integer [] f) : Callable P w K mg base 1 f ["thing"] [] spIsInt := by
  refine F.call0 sc_is_integer (fun vs H Q E h => ?_) (fun cdv A outer s H vs Q E hr h => ?_) (fun _ _ _ _ _ _ us hl => match us, hl with | [_], _ => rfl)
  · obtain ⟨v, rfl, _⟩ := h; rfl
  obtain ⟨v, rfl, hQ⟩ := h
  refine ⟨_, (pss_one (ps_ret (pe_and (pe_callB call_isi (by rfl) T.b_isinstance (by decide +kernel) (pa_cons (pv 0) (pa_cons (pe_bltn (v := .ty "int") (u := .type "int") (by rfl) T.b_int (by decide +kernel) rfl) pa_nil))) (pe_one (pe_not (pe_callB call_isi (by rfl) T.b_isinstance (by decide +kernel) (pa_cons (pv 0) (pa_cons (pe_bltn (v := .ty "bool") (u := .type "bool") (by rfl) T.b_bool (by decide +kernel) rfl) pa_nil)))))))), ?_⟩
  cases v with
  | int i =>
    refine ⟨_, rfl, _, _, _, _, true, rfl, .ty _, .base (.int i), kit_ty (b := "int") (by decide +kernel), _, rfl, iteT ?_⟩
    exact ⟨_, rfl, _, _, _, _, false, rfl, .ty _, .base (.int i), kit_ty (b := "bool") (by decide +kernel), _, rfl, hQ⟩
  | nm x =>
    exact ⟨_, rfl, _, _, _, _, false, rfl, .ty _, .base (.str x), kit_ty (b := "int") (by decide +kernel), _, rfl, iteF hQ⟩
/-- the number of a level by the yard's table -/
def lvNum (nums : List (Key × V)) : LvIn → Option V
  | .int i => some (.int i)
  | .nm x => valV nums (Sum.inr x)
def spLevelOf (K : PySem.W.Frag) : Sp := fun vs H Q _ => ∃ (y dy nu : Addr) (fs : List (Str × V)) (nums : List (Key × V)) (v : LvIn) (r : V), vs = [.ref y, v.v] ∧ H y = some (.ins (CY K) dy fs) ∧ fs.lookup ("numbers_of" : Str) = some (.ref nu) ∧ H nu = some (.dK nums) ∧ lvNum nums v = some r ∧ Q r H
theorem ok_level_of {f : Addr} (T : Txt P w K mg) (F : Stands K "level_of" "Yard.level_of" s_Yard_level_of [] f) (c_is_integer : Callable P w K mg base 1 (He.ga K "is_integer") ["thing"] [] spIsInt) : Callable P w K mg base 2 f ["self", "level"] [] (spLevelOf K) := by
  refine F.call0 sc_Yard_level_of (fun vs H Q E h => ?_) (fun cdv A outer s H vs Q E hr h => ?_) (fun _ _ _ _ _ _ us hl => match us, hl with | [_, _], _ => rfl)
  · obtain ⟨y, dy, nu, fs, nums, v, r, rfl, _⟩ := h; rfl
  obtain ⟨y, dy, nu, fs, nums, v, r, rfl, hy, hnu, hnums, hr2, hQ⟩ := h
  refine ⟨_, (pss_cons (ps_if (pt_val (pe_fn T.g_is_integer c_is_integer (hr.mono (by first | decide | exact Nat.le_refl _)) (by rfl) (pa_cons (pv 1) pa_nil))) (pss_one (ps_ret (pv 1))) pss_nil)
      (pss_cons (ps_if (PW.pt (pw_and (pt_val (pe_callB call_isi (by rfl) T.b_isinstance (by decide +kernel) (pa_cons (pv 1) (pa_cons (pe_bltn (v := .ty "str") (u := .type "str") (by rfl) T.b_str (by decide +kernel) rfl) pa_nil)))) (pw_and1 (pt_cmp (pc_din (hu_of hr) (pv 1) (pe_fld (pv 0) rfl)))))) (pss_one (ps_ret (pe_dget (hu_of hr) (pe_fld (pv 0) rfl) (pv 1) (fun _ _ => rfl)))) pss_nil)
      (pss_one ps_never))), ?_⟩
  cases v with
  | int i =>
    cases hr2
    exact ⟨_, rfl, .int i, rfl, _, rfl, iteT ⟨_, rfl, hQ⟩⟩
  | nm x =>
    have g := DGet.k (k := Sum.inr x) hnums
    rw [show valV nums (Sum.inr x) = some r from hr2] at g
    refine ⟨_, rfl, .nm x, rfl, _, rfl, iteF ?_⟩
    refine ⟨_, rfl, _, _, _, _, true, rfl, .ty _, .base (.str x), kit_ty (b := "str") (by decide +kernel), _, rfl, iteT ?_⟩
    refine ⟨_, rfl, _, rfl, y, _, dy, fs, _, rfl, hy, T.c_Yard, T.n_Yard_numbers_of, hnu, nu, _, rfl, g, _, rfl, iteT' (by rfl) ?_⟩
    exact ⟨_, rfl, y, _, dy, fs, _, rfl, hy, T.c_Yard, T.n_Yard_numbers_of, hnu, _, rfl, nu, _, rfl, g, hQ⟩
end
end K17

set_option Elab.async false
set_option linter.all false
set_option maxRecDepth 100000
set_option maxHeartbeats 0

namespace K17
open PySem PySem.Spec PyProof.Rows L2 RC
section
variable {P : Program} {w : World} {K : PySem.W.Frag} {mg : Str → Option Value} {base : Heap}
/-! ### copies -/
inductive PlainV : V → Prop
  | int (i : Int) : PlainV (.int i)
  | str (z : Str) : PlainV (.str z)
def spCopied (K : PySem.W.Frag) (n : Nat) : Sp := fun vs H Q _ =>
  (∃ x : V, vs = [x] ∧ 1 ≤ n ∧ PlainV x ∧ Q x H) ∨
  (∃ (a : Addr) (xs : List V), vs = [.ref a] ∧ 2 ≤ n ∧ SqT K H a xs ∧ (∀ x ∈ xs, PlainV x) ∧ xs.length ≤ 1000 ∧ ∀ (H' : Hp) (t : Addr), Same H H' → H t = none → H' t = some (.tup xs) → Q (.ref t) H') ∨
  (∃ a : Addr, vs = [.ref a] ∧ 2 ≤ n ∧ H a = some (.dK []) ∧ ∀ (H' : Hp) (t : Addr), Same H H' → H t = none → H' t = some (.dK []) → Q (.ref t) H')
theorem take_more {α : Type} {xs : List α} {i : Nat} {x : α} (h : xs[i]? = some x) : xs.take (i + 1) = xs.take i ++ [x] := by rw [List.take_add_one, h]; rfl
theorem ok_copied {f : Addr} (T : Txt P w K mg) (F : Stands K "copied_value" "copied_value" s_copied_value [] f) (e : f = He.ga K "copied_value") : ∀ n : Nat, Callable P w K mg base (n + 1) f ["thing"] [] (spCopied K n)
  | 0 => by
    refine F.call0 sc_copied_value (fun vs H Q E h => ?_) (fun cdv A outer s H vs Q E hr h => ?_) (fun _ _ _ _ _ _ us hl => match us, hl with | [_], _ => rfl)
    · rcases h with ⟨x, rfl, _⟩ | ⟨a, xs, rfl, _⟩ | ⟨a, rfl, _⟩ <;> rfl
    · rcases h with ⟨x, rfl, h, _⟩ | ⟨a, xs, rfl, h, _⟩ | ⟨a, rfl, h, _⟩ <;> omega
  | n + 1 => by
    have c_copied_value := ok_copied T F e n
    rw [e] at c_copied_value
    refine F.call0 sc_copied_value (fun vs H Q E h => ?_) (fun cdv A outer s H vs Q E hr h => ?_) (fun _ _ _ _ _ _ us hl => match us, hl with | [_], _ => rfl)
    · rcases h with ⟨x, rfl, _⟩ | ⟨a, xs, rfl, _⟩ | ⟨a, rfl, _⟩ <;> rfl
    refine ⟨_, (pss_cons (ps_if (pt_val (pe_callB call_isi (by rfl) T.b_isinstance (by decide +kernel) (pa_cons (pv 0) (pa_cons (pe_bltn (v := .ty "list") (u := .type "list") (by rfl) T.b_list (by decide +kernel) rfl) pa_nil)))) (pss_one ps_never) pss_nil)
      (pss_cons (ps_if (pt_val (pe_callB call_isi (by rfl) T.b_isinstance (by decide +kernel) (pa_cons (pv 0) (pa_cons (pe_bltn (v := .ty "tuple") (u := .type "tuple") (by rfl) T.b_tuple (by decide +kernel) rfl) pa_nil)))) (pss_one (ps_ret (pe_callTy call_tuple_of (by rfl) T.b_tuple (by decide +kernel) (pa_cons (pe_lc (own := [("part", 1)]) (by rfl) sc_copied_value.nd (pi_tup (pv 0)) (blkOk_by (own := [("part", 1)]) (N := nm_copied_value) (sc := defScope s_copied_value) (by decide +kernel)) (fun _ _ _ _ _ => (pg_name (i := 1) sc_copied_value.nd rfl (by first | exact Or.inl rfl | exact Or.inr rfl))) (fun _ _ _ _ _ => pts_nil) (fun _ _ _ _ _ => (pe_fn T.g_copied_value c_copied_value (hr.mono (by first | decide | exact Nat.le_refl _)) (by rfl) (pa_cons (pv 1) pa_nil)))) pa_nil)))) pss_nil)
      (pss_cons (ps_if (pt_val (pe_callB call_isi (by rfl) T.b_isinstance (by decide +kernel) (pa_cons (pv 0) (pa_cons (pe_bltn (v := .ty "dict") (u := .type "dict") (by rfl) T.b_dict (by decide +kernel) rfl) pa_nil)))) (pss_one (ps_ret (pe_callTy (call_dictP rfl) (by rfl) T.b_dict (by decide +kernel) (pa_cons (pe_lock (pe_lc (own := [("name", 2)]) (by rfl) sc_copied_value.nd (pi_keys (pv 0)) (blkOk_by (own := [("name", 2)]) (N := nm_copied_value) (sc := defScope s_copied_value) (by decide +kernel)) (fun _ _ _ _ _ => (pg_name (i := 2) sc_copied_value.nd rfl (by first | exact Or.inl rfl | exact Or.inr rfl))) (fun _ _ _ _ _ => pts_nil) (fun _ _ _ _ _ => pe_never))) pa_nil)))) pss_nil)
      (pss_one (ps_ret (pv 0)))))), ?_⟩
    walk_at "in"
    rcases h with ⟨x, rfl, _, hx, hQ⟩ | ⟨a, xs, rfl, hn, hT, hx, hl, hQ⟩ | ⟨a, rfl, hn, hD, hQ⟩
    · cases hx with
      | int i => walk_at "go"; exact hQ
      | str z => walk_at "go"; exact hQ
    · refine ⟨_, rfl, _, _, _, _, _, rfl, .ty _, tyx_tup hT, kit_ty (b := "list") (by decide +kernel), _, rfl, iteF ?_⟩
      refine ⟨_, rfl, _, _, _, _, _, rfl, .ty _, tyx_tup hT, kit_ty (b := "tuple") (by decide +kernel), _, rfl, iteT ?_⟩
      refine ⟨_, rfl, a, rfl, ⟨_, hT⟩, fun D hD => ?_⟩
      have tS : ∀ {H' : Hp}, Same H H' → SqT K H' a xs := fun {H'} s => by
        rcases hT with (z | ⟨o, z⟩) | z
        · exact .inl (.inl (s _ _ z))
        · exact .inl (.inr ⟨o, s _ _ z⟩)
        · exact .inr z
      refine lc_it (walk_tup (xs := xs)) (fun i H' => Same H H' ∧ H' D = some (.lst (xs.take i))) ⟨same_new hD _, upd_same⟩ (fun i H' _ h => tS h.1) (fun i x H2 H3 hi hP hy => ?_) (fun H2 hP => ?_)
      · obtain ⟨rfl, hy⟩ := hy
        obtain ⟨s2, d2⟩ := hP
        have hm : x ∈ xs := List.mem_of_getElem? hy
        have hll : (xs.take i).length < sizeLine := by rw [List.length_take, sizeLine_eq]; omega
        refine ⟨rfl, yes_if ?_⟩
        refine ⟨_, rfl, .inl ⟨x, rfl, by omega, hx x hm, ?_⟩⟩
        refine ⟨_, d2, hll, fun c o hc => ?_, by rw [upd_same, take_more hy]⟩
        rw [upd_ne (ne_of_none hc hD)]; exact s2 _ _ hc
      · obtain ⟨s2, d2⟩ := hP
        rw [List.take_length] at d2
        refine ⟨D, xs, rfl, .inl ⟨SqL.of d2, fun t ht => ?_⟩⟩
        exact hQ _ t (s2.trans (same_new ht _)) (s2.free ht) upd_same
    · refine ⟨_, rfl, _, _, _, _, _, rfl, .ty _, .base (.dK hD), kit_ty (b := "list") (by decide +kernel), _, rfl, iteF ?_⟩
      refine ⟨_, rfl, _, _, _, _, _, rfl, .ty _, .base (.dK hD), kit_ty (b := "tuple") (by decide +kernel), _, rfl, iteF ?_⟩
      refine ⟨_, rfl, _, _, _, _, _, rfl, .ty _, .base (.dK hD), kit_ty (b := "dict") (by decide +kernel), _, rfl, iteT ?_⟩
      refine ⟨a, _, hD, trivial, fun od => ?_⟩
      refine ⟨_, rfl, a, od, rfl, .inl ⟨[], upd_same, fun D hD2 => ?_⟩⟩
      refine lc_it walk_keys (fun i H' => H' = upd (upd H a (.frz od (.dK []))) D (.lst [])) rfl (fun i H' _ h => ?_) (fun i x H' H'' hi => nomatch hi) (fun H' h => ?_)
      · subst h; rw [upd_ne (Ne.symm (upd_none hD2).1)]; exact upd_same
      · subst h
        refine ⟨by rw [upd_ne (Ne.symm (upd_none hD2).1)]; exact upd_same, ?_⟩
        rw [unlock hD hD2]
        have hD3 := (upd_none hD2).2
        refine ⟨D, [], [], rfl, SqL.of upd_same, .nil, fun t ht => ?_⟩
        exact hQ _ t ((same_new hD3 _).trans (same_new ht _)) (upd_none ht).2 upd_same
end
end K17

set_option Elab.async false
set_option linter.all false
set_option maxRecDepth 100000
set_option maxHeartbeats 0
namespace K17
open PySem PySem.Spec PyProof.Rows L2 RC
section
variable {P : Program} {w : World} {K : PySem.W.Frag} {mg : Str → Option Value} {base : Heap}
/-! ### records -/
/-- a list or a tuple -/
def AX (K : PySem.W.Frag) (H : Hp) (a : Addr) (xs : List V) : Prop := H a = some (.lst xs) ∨ SqT K H a xs
theorem AX.but {H H' : Hp} {a p : Addr} {xs : List V} {C dx : Addr} {fs : List (Str × V)} (e : SameBut p H H') (hp : H p = some (.ins C dx fs)) (h : AX K H a xs) : AX K H' a xs := by
  rcases h with h | (h | ⟨o, h⟩) | h
  · exact .inl (e _ _ (fun z => by rw [z, hp] at h; cases h) h)
  · exact .inr (.inl (.inl (e _ _ (fun z => by rw [z, hp] at h; cases h) h)))
  · exact .inr (.inl (.inr ⟨o, e _ _ (fun z => by rw [z, hp] at h; cases h) h⟩))
  · exact .inr (.inr h)
theorem AX.same {H H' : Hp} {a : Addr} {xs : List V} (e : Same H H') (h : AX K H a xs) : AX K H' a xs := by
  rcases h with h | (h | ⟨o, h⟩) | h
  · exact .inl (e _ _ h)
  · exact .inr (.inl (.inl (e _ _ h)))
  · exact .inr (.inl (.inr ⟨o, e _ _ h⟩))
  · exact .inr (.inr h)
def recF (name : Str) (lv : Int) (ln msg : Str) (g : Addr) (clk : Int) (e : Addr) : List (Str × V) := [("name", .str name), ("levelno", .int lv), ("levelname", .str ln), ("msg", .str msg), ("given", .ref g), ("created", .int clk), ("extra", .ref e)]
def spRecInit (K : PySem.W.Frag) : Sp := fun vs H Q _ => ∃ (p dx a d : Addr) (name ln msg : Str) (lv clk : Int) (xs : List V), vs = [.ref p, .str name, .int lv, .str ln, .str msg, .ref a, .int clk, .ref d] ∧ H p = some (.ins (CR K) dx []) ∧ AX K H a xs ∧ (∀ x ∈ xs, PlainV x) ∧ xs.length ≤ 1000 ∧ H d = some (.dK []) ∧
  ∀ (H' : Hp) (g e : Addr), SameBut p H H' → H' p = some (.ins (CR K) dx (recF name lv ln msg g clk e)) → H' g = some (.tup xs) → H' e = some (.dK []) → H g = none → H e = none → Q .non H'
theorem SameBut.free {p t : Addr} {H H' : Hp} (b : SameBut p H H') (n : t ≠ p) (h : H' t = none) : H t = none := by
  cases z : H t with
  | none => rfl
  | some o => rw [b _ _ n z] at h; cases h
theorem ok_rec_init {f : Addr} (T : Txt P w K mg) (F : Stands K "__init__" "LogRecord.__init__" s_LogRecord_init [] f) (c_copied_value : Callable P w K mg base 3 (He.ga K "copied_value") ["thing"] [] (spCopied K 2)) :
    Callable P w K mg base 4 f ["self", "name", "levelno", "levelname", "msg", "args", "created", "extra"] [] (spRecInit K) := by
  refine F.call0 sc_LogRecord_init (fun vs H Q E h => ?_) (fun cdv A outer s H vs Q E hr h => ?_) (fun _ _ _ _ _ _ us hl => match us, hl with | [_, _, _, _, _, _, _, _], _ => rfl)
  · obtain ⟨p, dx, a, d, name, ln, msg, lv, clk, xs, rfl, _⟩ := h; rfl
  obtain ⟨p, dx, a, d, name, ln, msg, lv, clk, xs, rfl, hp, hT, hx, hl, hD, hQ⟩ := h
  refine ⟨_, (pss_cons (ps_fld (pv 0) (pv 1) rfl)
      (pss_cons (ps_fld (pv 0) (pv 2) rfl)
      (pss_cons (ps_fld (pv 0) (pv 3) rfl)
      (pss_cons (ps_fld (pv 0) (pv 4) rfl)
      (pss_cons (ps_fld (pv 0) (pe_fn T.g_copied_value c_copied_value (hr.mono (by first | decide | exact Nat.le_refl _)) (by rfl) (pa_cons (pe_callTy call_tuple_of (by rfl) T.b_tuple (by decide +kernel) (pa_cons (pv 5) pa_nil)) pa_nil)) rfl)
      (pss_cons (ps_fld (pv 0) (pv 6) rfl)
      (pss_one (ps_fld (pv 0) (pe_fn T.g_copied_value c_copied_value (hr.mono (by first | decide | exact Nat.le_refl _)) (by rfl) (pa_cons (pv 7) pa_nil)) rfl)))))))), ?_⟩
  refine ⟨_, rfl, _, rfl, p, _, dx, _, rfl, hp, T.c_LogRecord, T.n_LogRecord_name, (by show 0 < 1000; decide), ?_⟩
  refine ⟨_, rfl, _, rfl, p, _, dx, _, rfl, upd_same, T.c_LogRecord, T.n_LogRecord_levelno, (by show 1 < 1000; decide), ?_⟩
  rw [upd_upd]
  refine ⟨_, rfl, _, rfl, p, _, dx, _, rfl, upd_same, T.c_LogRecord, T.n_LogRecord_levelname, (by show 2 < 1000; decide), ?_⟩
  rw [upd_upd]
  refine ⟨_, rfl, _, rfl, p, _, dx, _, rfl, upd_same, T.c_LogRecord, T.n_LogRecord_msg, (by show 3 < 1000; decide), ?_⟩
  rw [upd_upd]
  generalize e1 : upd H p _ = H1
  have b1 : SameBut p H H1 := by rw [← e1]; exact SameBut.put
  have p1 : H1 p = some (.ins (CR K) dx [("name", .str name), ("levelno", .int lv), ("levelname", .str ln), ("msg", .str msg)]) := by rw [← e1]; exact upd_same
  clear e1
  dsimp only
  refine seq_of (fun σ' H3 => σ' = L2.start nm_LogRecord_init [.ref p, .str name, .int lv, .str ln, .str msg, .ref a, .int clk, .ref d] ∧ ∃ t, SameBut p H1 H3 ∧ H1 t = none ∧ H3 t = some (.tup xs) ∧ H3 p = some (.ins (CR K) dx [("name", .str name), ("levelno", .int lv), ("levelname", .str ln), ("msg", .str msg), ("given", .ref t)])) (fun b' kb => ?_) (fun σ' H3 hm => ?_)
  · have fin : ∀ (H2 : Hp) (t u : Addr), Same H1 H2 → H1 t = none → H2 t = some (.tup xs) → t ≠ p ∧ SameBut p H1 (upd H2 p (.ins (CR K) dx [("name", .str name), ("levelno", .int lv), ("levelname", .str ln), ("msg", .str msg), ("given", .ref u)])) := fun H2 t u s2 n2 t2 => ⟨fun z => (by rw [z, p1] at n2; cases n2), (SameBut.of s2).trans SameBut.put⟩
    rcases AX.but b1 hp hT with hT1 | hT1
    · refine ⟨_, rfl, a, xs, rfl, .inl ⟨SqL.of hT1, fun t ht => ?_⟩⟩
      refine .inr (.inl ⟨t, xs, rfl, (by decide), SqT.of upd_same, hx, hl, fun H2 g s2 n2 g2 => ?_⟩)
      have s12 := (same_new ht _).trans s2
      have n1 : H1 g = none := (same_new ht (.tup xs)).free n2
      obtain ⟨ng, sb⟩ := fin H2 g g s12 n1 g2
      refine ⟨_, rfl, p, _, dx, _, rfl, s12 _ _ p1, T.c_LogRecord, T.n_LogRecord_given, (by show 4 < 1000; decide), ?_⟩
      exact kb _ _ ⟨rfl, g, sb, n1, by rw [upd_ne ng]; exact g2, upd_same⟩
    · refine ⟨_, rfl, a, xs, rfl, .inr ⟨hT1, ?_⟩⟩
      refine .inr (.inl ⟨a, xs, rfl, (by decide), hT1, hx, hl, fun H2 g s2 n2 g2 => ?_⟩)
      obtain ⟨ng, sb⟩ := fin H2 g g s2 n2 g2
      refine ⟨_, rfl, p, _, dx, _, rfl, s2 _ _ p1, T.c_LogRecord, T.n_LogRecord_given, (by show 4 < 1000; decide), ?_⟩
      exact kb _ _ ⟨rfl, g, sb, n2, by rw [upd_ne ng]; exact g2, upd_same⟩
  obtain ⟨rfl, t, b3, n3, t3, p3⟩ := hm
  refine ⟨_, rfl, _, rfl, p, _, dx, _, rfl, p3, T.c_LogRecord, T.n_LogRecord_created, (by show 5 < 1000; decide), ?_⟩
  have ntp : t ≠ p := fun z => by rw [z, p1] at n3; cases n3
  have ndp : d ≠ p := fun z => by rw [z, hp] at hD; cases hD
  generalize e3 : upd H3 p _ = H5
  have b5 : SameBut p H3 H5 := by rw [← e3]; exact SameBut.put
  have p5 : H5 p = some (.ins (CR K) dx [("name", .str name), ("levelno", .int lv), ("levelname", .str ln), ("msg", .str msg), ("given", .ref t), ("created", .int clk)]) := by rw [← e3]; exact upd_same
  clear e3
  have d5 : H5 d = some (.dK []) := b5 _ _ ndp (b3 _ _ ndp (b1 _ _ ndp hD))
  refine ⟨_, rfl, .inr (.inr ⟨d, rfl, (by decide), d5, fun H4 e s4 n4 e4 => ?_⟩)⟩
  refine ⟨_, rfl, p, _, dx, _, rfl, s4 _ _ p5, T.c_LogRecord, T.n_LogRecord_extra, (by show 6 < 1000; decide), ?_⟩
  have nep : e ≠ p := fun z => by rw [z, p5] at n4; cases n4
  refine hQ _ t e ?_ upd_same ?_ ?_ ?_ ?_
  · exact ((b1.trans b3).trans (b5.trans (SameBut.of s4))).trans SameBut.put
  · rw [upd_ne ntp]; exact s4 _ _ (b5 _ _ ntp t3)
  · rw [upd_ne nep]; exact e4
  · exact b1.free ntp n3
  · exact b1.free nep (b3.free nep (b5.free nep n4))
end
end K17

set_option Elab.async false
set_option linter.all false
set_option maxRecDepth 100000
set_option maxHeartbeats 0

namespace K17
open PySem PySem.Spec PyProof.Rows L2 RC
section
variable {P : Program} {w : World} {K : PySem.W.Frag} {mg : Str → Option Value} {base : Heap}
/-! ### make_record, of a number and no args -/
def NmsOk (nms : List (Key × V)) : Prop := ∀ k v, valV nms k = some v → ∃ z : Str, v = .str z
def lvName (nms : List (Key × V)) (i : Int) : Str := match valV nms (Sum.inl i) with
  | some (.str z) => z
  | _ => ("Level " : Str) ++ (toString i : Str)
def spLevelName (K : PySem.W.Frag) : Sp := fun vs H Q _ => ∃ (y dy na : Addr) (fs : List (Str × V)) (nms : List (Key × V)) (i : Int), vs = [.ref y, .int i] ∧ H y = some (.ins (CY K) dy fs) ∧ fs.lookup ("names_of" : Str) = some (.ref na) ∧ H na = some (.dK nms) ∧ NmsOk nms ∧ i.natAbs < 2 ^ 63 ∧ Q (.str (lvName nms i)) H
theorem ok_level_name {f : Addr} (T : Txt P w K mg) (F : Stands K "level_name" "Yard.level_name" s_Yard_level_name [] f) : Callable P w K mg base 1 f ["self", "level"] [] (spLevelName K) := by
  refine F.call0 sc_Yard_level_name (fun vs H Q E h => ?_) (fun cdv A outer s H vs Q E hr h => ?_) (fun _ _ _ _ _ _ us hl => match us, hl with | [_, _], _ => rfl)
  · obtain ⟨y, dy, na, fs, nms, i, rfl, _⟩ := h; rfl
  obtain ⟨y, dy, na, fs, nms, i, rfl, hy, hn, hna, hz, hi, hQ⟩ := h
  refine ⟨_, (pss_one (ps_ret (pe_ifExp (pt_cmp (pc_din (hu_of hr) (pv 1) (pe_fld (pv 0) rfl))) (pe_dget (hu_of hr) (pe_fld (pv 0) rfl) (pv 1) (fun _ _ => rfl)) (pe_op op_add_str pe_str (pe_callTy call_str_int (by rfl) T.b_str (by decide +kernel) (pa_cons (pv 1) pa_nil)))))), ?_⟩
  walk_at "in"
  unfold lvName at hQ
  cases e : valV nms (Sum.inl i) with
  | some v =>
    obtain ⟨z, rfl⟩ := hz _ _ e
    rw [e] at hQ
    walk_at "go"
    exact hQ
  | none =>
    rw [e] at hQ
    walk_at "go"
    have hl := RN.len_toString i
    have hl2 : i.natAbs.log2 < 63 := by
      by_cases c : i.natAbs = 0
      · rw [c]; decide
      · exact (Nat.log2_lt c).mpr hi
    refine ⟨by omega, _, _, rfl, rfl, ?_, hQ⟩
    show 6 + (Str.ofString (toString i)).length ≤ sizeLine
    rw [sizeLine_eq]; omega
/-- a record as the yard makes it, without extra -/
def RecAt (K : PySem.W.Frag) (H : Hp) (r : Addr) (name : Str) (lv : Int) (ln msg : Str) (clk : Int) (xs : List V) : Prop := ∃ dx g e, H r = some (.ins (CR K) dx (recF name lv ln msg g clk e)) ∧ H g = some (.tup xs) ∧ H e = some (.dK [])
theorem RecAt.same {H H' : Hp} {r : Addr} {name : Str} {lv : Int} {ln msg : Str} {clk : Int} {xs : List V} (h : RecAt K H r name lv ln msg clk xs) (s : Same H H') : RecAt K H' r name lv ln msg clk xs := by
  obtain ⟨dx, g, e, h1, h2, h3⟩ := h
  exact ⟨dx, g, e, s _ _ h1, s _ _ h2, s _ _ h3⟩
theorem RecAt.name {H : Hp} {r : Addr} {name : Str} {lv : Int} {ln msg : Str} {clk : Int} {xs : List V} (h : RecAt K H r name lv ln msg clk xs) : RecName K H r name := by
  obtain ⟨dx, g, e, h1, _⟩ := h
  exact ⟨dx, _, h1, rfl⟩
def spMakeRecord (K : PySem.W.Frag) : Sp := fun vs H Q _ => ∃ (y dy na nu a : Addr) (fs : List (Str × V)) (nms nums : List (Key × V)) (name msg : Str) (lv clk : Int) (xs : List V), vs = [.ref y, .str name, .int lv, .str msg, .ref a, .non] ∧ AX K H a xs ∧ (∀ x ∈ xs, PlainV x) ∧ xs.length ≤ 1000 ∧ H y = some (.ins (CY K) dy fs) ∧
  fs.lookup ("names_of" : Str) = some (.ref na) ∧ fs.lookup ("numbers_of" : Str) = some (.ref nu) ∧ fs.lookup ("clock" : Str) = some (.int clk) ∧ fs.lookup ("level_of" : Str) = none ∧ fs.lookup ("level_name" : Str) = none ∧ H na = some (.dK nms) ∧ H nu = some (.dK nums) ∧ NmsOk nms ∧ lv.natAbs < 2 ^ 63 ∧
  ∀ (H' : Hp) (r g e : Addr), Same H H' → H r = none → H g = none → H e = none → (∃ dx, H' r = some (.ins (CR K) dx (recF name lv (lvName nms lv) msg g clk e))) → H' g = some (.tup xs) → H' e = some (.dK []) → Q (.ref r) H'
theorem body_make_record {f : Addr} (T : Txt P w K mg) {cdv : Value} {A : Around} {outer : List Env} {st0 : Shared} {E : XK} {vs : List V} {H : Hp} {Q : VK} (hr : Room 5 (A.deeper (envOfC "Yard.make_record" (defScope s_Yard_make_record) st0.heap.objs.size f cdv))) (h : spMakeRecord K vs H Q E)
    (c_Yard_level_of : Callable P w K mg base 2 (He.ma K (He.ga K "Yard") "level_of") ["self", "level"] [] (spLevelOf K)) (c_Yard_level_name : Callable P w K mg base 1 (He.ma K (He.ga K "Yard") "level_name") ["self", "level"] [] (spLevelName K))
    (c_LogRecord_init : Callable P w K mg base 4 (He.ma K (He.ga K "LogRecord") "__init__") ["self", "name", "levelno", "levelname", "msg", "args", "created", "extra"] [] (spRecInit K)) :
    ∃ t, PSs (cxOf CX0 P w K mg base nm_Yard_make_record "Yard.make_record" (defScope s_Yard_make_record) f cdv A outer st0 H E).nox (defBody s_Yard_make_record) t ∧ t { nx := fun _ H' => Q .non H', rt := Q } (start nm_Yard_make_record vs) H := by
  obtain ⟨y, dy, na, nu, a, fs, nms, nums, name, msg, lv, clk, xs, rfl, hT, hx, hl, hy, hna, hnu, hck, hlo, hln, gna, gnu, hz, hlv, hQ⟩ := h
  refine ⟨_, (pss_cons (ps_set (i := 6) sc_Yard_make_record.nd rfl (by first | exact Or.inl rfl | exact Or.inr rfl) (pe_mt T.c_Yard T.m_Yard_level_of c_Yard_level_of (hr.mono (by first | decide | exact Nat.le_refl _)) (pv 0) (pa_cons (pv 2) pa_nil)))
      (pss_cons (ps_set (i := 7) sc_Yard_make_record.nd rfl (by first | exact Or.inl rfl | exact Or.inr rfl) (pe_ifExp (pt_cmpR op_isN (pv 5) pe_non (nomark _)) pe_dnewK (pv 5)))
      (pss_cons (ps_set (i := 8) sc_Yard_make_record.nd rfl (by first | exact Or.inl rfl | exact Or.inr rfl) (pe_callB cr_sortedS (by rfl) T.b_sorted (by decide +kernel) (pa_cons (pe_lock (pe_lc (own := [("key", 9)]) (by rfl) sc_Yard_make_record.nd (pi_keys (pv 7)) (blkOk_by (own := [("key", 9)]) (N := nm_Yard_make_record) (sc := defScope s_Yard_make_record) (by decide +kernel)) (fun _ _ _ _ _ => (pg_name (i := 9) sc_Yard_make_record.nd rfl (by first | exact Or.inl rfl | exact Or.inr rfl))) (fun _ _ _ _ _ => (pts_one pt_never)) (fun _ _ _ _ _ => (pv 9)))) pa_nil)))
      (pss_cons (ps_if (pt_cmpR (op_neD hr.units) (pv 8) (pe_lst pa_nil) (nomark _)) (pss_one ps_never) pss_nil)
      (pss_one (ps_ret (pe_mk T.k_LogRecord T.g_LogRecord c_LogRecord_init (hr.mono (by first | decide | exact Nat.le_refl _)) (by rfl) (pa_cons (pv 1) (pa_cons (pv 6) (pa_cons (pe_mt T.c_Yard T.m_Yard_level_name c_Yard_level_name (hr.mono (by first | decide | exact Nat.le_refl _)) (pv 0) (pa_cons (pv 6) pa_nil)) (pa_cons (pv 3) (pa_cons (pv 4) (pa_cons (pe_fld (pv 0) rfl) (pa_cons (pv 7) pa_nil)))))))))))))), ?_⟩
  -- number = self.level_of(level)
  refine ⟨_, rfl, y, dy, fs, rfl, hy, hlo, _, rfl, y, dy, nu, fs, nums, .int lv, .int lv, rfl, hy, hnu, gnu, rfl, ?_⟩
  -- more = {}
  refine ⟨_, rfl, rfl, _, rfl, iteT' (by rfl) fun m hm => ?_⟩
  have s1 : Same H (upd H m (.dK [])) := same_new hm _
  -- bad = sorted([..])
  refine ⟨m, _, upd_same, trivial, fun od => ?_⟩
  refine ⟨_, rfl, m, od, rfl, .inl ⟨[], upd_same, fun D hD => ?_⟩⟩
  have hD' : upd H m (.dK []) D = none := (upd_none hD).2
  refine lc_it walk_keys (fun i H' => H' = upd (upd (upd H m (.dK [])) m (.frz od (.dK []))) D (.lst [])) rfl (fun i H' _ h => ?_) (fun i x H' H'' hi => nomatch hi) (fun H' h => ?_)
  · subst h; rw [upd_ne (Ne.symm (upd_none hD).1)]; exact upd_same
  subst h
  refine ⟨by rw [upd_ne (Ne.symm (upd_none hD).1)]; exact upd_same, ?_⟩
  rw [unlock upd_same hD]
  have s2 := s1.trans (same_new hD' (.lst []))
  refine ⟨D, [], rfl, SqL.of upd_same, (by decide), fun ys q hp _ hq => ?_⟩
  have e0 : ys = [] := hp.eq_nil
  subst e0
  have s3 := s2.trans (same_new hq (.lst ([].map V.str)))
  -- if bad != []
  refine ⟨_, rfl, (by show 0 ≤ sizeLine; decide), fun q2 hq2 => ?_⟩
  have s4 := s3.trans (same_new hq2 (.lst []))
  refine ⟨_, _, Dp.lst (SqL.of (by rw [upd_ne (ne_of_none upd_same hq2)]; exact upd_same)) .nil, Dp.lst (SqL.of upd_same) .nil, by decide +kernel, by decide +kernel, _, rfl, iteF' (by decide +kernel) ?_⟩
  have m4 : (upd (upd (upd (upd H m (.dK [])) D (.lst [])) q (.lst ([].map V.str))) q2 (.lst [])) m = some (.dK []) := by
    have k1 : upd H m (.dK []) m = some (.dK []) := upd_same
    exact (same_new hq2 _) _ _ ((same_new hq _) _ _ ((same_new hD' _) _ _ k1))
  generalize upd (upd (upd (upd H m (.dK [])) D (.lst [])) q (.lst ([].map V.str))) q2 (.lst []) = H4 at s4 m4
  have hT4 := hT.same s4
  have g1 := s4 _ _ hy
  have g2 := s4 _ _ gna
  refine ⟨_, rfl, _, rfl, _, rfl, y, dy, fs, rfl, g1, hln, _, rfl, y, dy, na, fs, nms, lv, rfl, g1, hna, g2, hz, hlv, _, rfl, _, rfl, _, rfl, y, _, dy, fs, _, rfl, g1, T.c_Yard, T.n_Yard_clock, hck, _, rfl, fun x dx hx2 hdx hne => ?_⟩
  have sx : Same H4 (upd (upd H4 dx (.own x)) x (.ins (CR K) dx [])) := made_same hx2 hdx (fun _ _ _ e => e)
  refine ⟨x, dx, a, m, name, _, msg, lv, clk, xs, rfl, upd_same, hT4.same sx, hx, hl, sx _ _ m4, fun H' g e b5 h5' hg he g0 e0 => ⟨rfl, ?_⟩⟩
  have f0 : ∀ b, upd (upd H4 dx (.own x)) x (.ins (CR K) dx []) b = none → H b = none := fun b hb => s4.free (upd_none (upd_none hb).2).2
  exact hQ H' x g e (s4.trans (made_same hx2 hdx b5)) (s4.free hx2) (f0 _ g0) (f0 _ e0) ⟨dx, h5'⟩ hg he
theorem ok_make_record {f : Addr} (T : Txt P w K mg) (F : Stands K "make_record" "Yard.make_record" s_Yard_make_record [.ref (He.dflAt ("Yard", some "make_record") 0 K), .non] f)
    (c_Yard_level_of : Callable P w K mg base 2 (He.ma K (He.ga K "Yard") "level_of") ["self", "level"] [] (spLevelOf K)) (c_Yard_level_name : Callable P w K mg base 1 (He.ma K (He.ga K "Yard") "level_name") ["self", "level"] [] (spLevelName K))
    (c_LogRecord_init : Callable P w K mg base 4 (He.ma K (He.ga K "LogRecord") "__init__") ["self", "name", "levelno", "levelname", "msg", "args", "created", "extra"] [] (spRecInit K)) :
    Callable P w K mg base 6 f ["self", "name", "level", "msg", "args", "extra"] [.non] (spMakeRecord K) := by
  have len : ∀ vs H Q E, spMakeRecord K vs H Q E → vs.length = 6 := fun vs H Q E h => by
    obtain ⟨y, dy, na, nu, a, fs, nms, nums, name, msg, lv, clk, xs, rfl, _⟩ := h; rfl
  exact F.call sc_Yard_make_record 5 1 len (fun cdv A outer s H vs Q E hr h => body_make_record T hr h c_Yard_level_of c_Yard_level_name c_LogRecord_init) (fun z => nomatch z) fun _ => ⟨rfl, fun _ _ _ _ _ _ _ us its hl hi => match us, hl, its, hi with | [_, _, _, _, _], _, [_, _], _ => ⟨_, rfl, rfl⟩⟩
end
end K17

set_option Elab.async false
set_option linter.all false
set_option maxRecDepth 100000
set_option maxHeartbeats 0

namespace K17
open PySem PySem.Spec PyProof.Rows L2 RC
section
variable {P : Program} {w : World} {K : PySem.W.Frag} {mg : Str → Option Value} {base : Heap}
/-! ### a turn -/
open DT
def bodyFor : Stmt → List Stmt
  | .For _ _ b _ _ => b
  | _ => []
abbrev b_turn : List Stmt := bodyFor ((defBody s_law).getD 2 (.Pass ⟨0, 0, 0, 0⟩))
abbrev whL : List V := [.str "S", .str "M", .str "H", .str "D", .str "MIDNIGHT", .str "W0", .str "W1", .str "W2", .str "W3", .str "W4", .str "W5", .str "W6"]
theorem wh_len : ∀ wi : Nat, wi < 12 → (whN wi).length ≤ 8 := by decide +kernel
structure WdB (z : Str) (wi : Nat) : Prop where
  len : z.length ≤ 100
  ok : z.cps.toList.all okC = true
  up : Txt.upper z = whN wi
instance (z : Str) (wi : Nat) : Decidable (WdB z wi) := decidable_of_iff (z.length ≤ 100 ∧ z.cps.toList.all okC = true ∧ Txt.upper z = whN wi) ⟨fun ⟨a, b, c⟩ => ⟨a, b, c⟩, fun ⟨a, b, c⟩ => ⟨a, b, c⟩⟩
theorem WdB.word {z : Str} {wi : Nat} (h : WdB z wi) (hw : wi < 12) : Word z wi := ⟨hw, h.len, fun c hc => of_decide_eq_true (List.all_eq_true.mp h.ok c hc), h.up⟩
theorem wd_all : ∀ wi : Nat, wi < 12 → WdB (whN wi) wi ∧ WdB (Txt.lower (whN wi)) wi ∧ WdB (Txt.lower (cutS (whN wi) none (some 1)) ++ cutS (whN wi) (some 1) none) wi ∧ (cutS (whN wi) none (some 1)).length ≤ 8 ∧ (Txt.lower (cutS (whN wi) none (some 1))).length ≤ 100 ∧ (cutS (whN wi) (some 1) none).length ≤ 100 := by decide +kernel
theorem wh_of {x : V} (h : x ∈ whL) : ∃ wi : Nat, wi < 12 ∧ x = .str (whN wi) := by
  simp only [whL, List.mem_cons, List.not_mem_nil, or_false] at h
  rcases h with rfl | rfl | rfl | rfl | rfl | rfl | rfl | rfl | rfl | rfl | rfl | rfl
  · exact ⟨0, by decide, rfl⟩
  · exact ⟨1, by decide, rfl⟩
  · exact ⟨2, by decide, rfl⟩
  · exact ⟨3, by decide, rfl⟩
  · exact ⟨4, by decide, rfl⟩
  · exact ⟨5, by decide, rfl⟩
  · exact ⟨6, by decide, rfl⟩
  · exact ⟨7, by decide, rfl⟩
  · exact ⟨8, by decide, rfl⟩
  · exact ⟨9, by decide, rfl⟩
  · exact ⟨10, by decide, rfl⟩
  · exact ⟨11, by decide, rfl⟩
abbrev sgT (a s WH : Addr) (o : List (Option V)) : L2.St := some (.ref a) :: some (.ref s) :: some (.ref WH) :: o
/-- what stands ahead of the handler -/
structure Beg (M : FS) (fs : List (Str × Str)) (now beg mn : Int) : Prop where
  files : M.files = fs
  md : M.md = []
  hs : M.hs = []
  clk : M.now = mn
  way : (fs = [] ∧ beg = now) ∨ (fs = [(("f" : Str), ("old" : Str))] ∧ beg = mn ∧ M.tim "f" = mn)
theorem valV_mem {kvs : List (Key × V)} {k : Key} {v : V} (h : valV kvs k = some v) : ∃ e ∈ kvs, e.2 = v := by
  unfold valV at h
  obtain ⟨e, he, z⟩ := Option.map_eq_some_iff.mp h
  exact ⟨e, List.mem_of_find?_eq_some he, z⟩
theorem nms0_ok (K : PySem.W.Frag) : NmsOk (nms0 K) := fun k v h => by
  obtain ⟨e, he, rfl⟩ := valV_mem h
  obtain ⟨q, hq, rfl⟩ := List.mem_map.mp he
  simp only [kv_FIRST_NAMES, List.mem_cons, List.not_mem_nil, or_false] at hq
  rcases hq with rfl | rfl | rfl | rfl | rfl | rfl <;> exact ⟨_, rfl⟩
theorem turn (T : Txt P w K mg) {f : Addr} {cdv : Value} {A : Around} {outer : List Env} {st0 : Shared} {E : XK} {H : Hp} (hr : Room 14 (A.deeper (envOfC "law" (defScope s_law) st0.heap.objs.size f cdv))) (gd : (A.deeper (envOfC "law" (defScope s_law) st0.heap.objs.size f cdv)).guards = some [])
    (c__law_draw : Callable P w K mg base 1 (He.ga K "_law_draw") ["_law_stream", "_law_many"] [] spDraw)
    (c__law_pick : Callable P w K mg base 2 (He.ga K "_law_pick") ["_law_stream", "_law_some"] [] (spPick K))
    (c__law_moment : Callable P w K mg base 3 (He.ga K "_law_moment") ["_law_stream"] [] spMom)
    (c__law_due : Callable P w K mg base 1 (He.ga K "_law_due") ["_law_when", "_law_interval", "_law_seconds"] [] spDue)
    (c__law_same : Callable P w K mg base 5 (He.ga K "_law_same") ["_law_found", "_law_due_here"] [] (spSame 4))
    (c__law_is_refused : RGd.CallG P w K mg base 7 (He.ga K "_law_is_refused") ["_law_stream"] (spRefused K))
    (c_Yard_init : Callable P w K mg base 5 (He.ma K (He.ga K "Yard") "__init__") ["self", "now"] [] (spYardInit K))
    (c_Yard_put_file : Callable P w K mg base 1 (He.ma K (He.ga K "Yard") "put_file") ["self", "name", "text"] [] (spPut K))
    (c_Yard_advance : Callable P w K mg base 1 (He.ma K (He.ga K "Yard") "advance") ["self", "milliseconds"] [] (spAdv K))
    (c_Yard_files : Callable P w K mg base 2 (He.ma K (He.ga K "Yard") "files") ["self"] [] (spFiles K))
    (c_TimedRotatingFileHandler_init : Callable P w K mg base 5 (He.ma K (He.ga K "TimedRotatingFileHandler") "__init__") ["self", "yard", "filename", "when", "interval", "backupCount", "delay"] [] (spTimInit K))
    (c_TimedRotatingFileHandler_shouldRollover : Callable P w K mg base 2 (He.ma K (He.ga K "TimedRotatingFileHandler") "shouldRollover") ["self", "record"] [] (spShould K))
    (c_Yard_make_record_d2 : Callable P w K mg base 6 (He.ma K (He.ga K "Yard") "make_record") ["self", "name", "level", "msg", "args", "extra"] [.ref (He.dflAt ("Yard", some "make_record") 0 K), .non] (spMakeRecord K)) :
    ∃ t, PSs (cxOf CX0 P w K mg base nm_law "law" (defScope s_law) f cdv A outer st0 H E).nox b_turn t ∧ ∀ {a s l WH : Addr} {n : Nat} (H5 : Hp) (D' : Ends), RS.Wd H5 s l n [RS.cell WH (.lst whL)] → n ≤ 800000 →
      ∀ o3 o4 o5 o6 o7 o8 o9 o10 o11 o12 o13 o14 o15 o16 o17, (∀ σ H' n', n' ≤ n + 20 → RS.Wd H' s l n' [RS.cell WH (.lst whL)] → (∃ o : List (Option V), o.length = 15 ∧ σ = sgT a s WH o) → D'.nx σ H') → t D' (sgT a s WH [o3, o4, o5, o6, o7, o8, o9, o10, o11, o12, o13, o14, o15, o16, o17]) H5 := by
  refine ⟨_, (pss_cons (ps_par (by rfl) sc_law.nd (i := 4) (j := 5) rfl rfl (by decide) rfl rfl (pa_cons (pe_fn T.g__law_moment c__law_moment (hr.mono (by first | decide | exact Nat.le_refl _)) (by rfl) (pa_cons (pv 1) pa_nil)) (pa_cons (pe_fn T.g__law_moment c__law_moment (hr.mono (by first | decide | exact Nat.le_refl _)) (by rfl) (pa_cons (pv 1) pa_nil)) pa_nil)) (by rfl))
      (pss_cons (ps_par (by rfl) sc_law.nd (i := 6) (j := 7) rfl rfl (by decide) rfl rfl (pa_cons (pe_fn T.g__law_pick c__law_pick (hr.mono (by first | decide | exact Nat.le_refl _)) (by rfl) (pa_cons (pv 1) (pa_cons (pv 2) pa_nil))) (pa_cons (pe_fn T.g__law_pick c__law_pick (hr.mono (by first | decide | exact Nat.le_refl _)) (by rfl) (pa_cons (pv 1) (pa_cons (pe_lst (pa_cons pe_int (pa_cons pe_int (pa_cons pe_int (pa_cons pe_int (pa_cons pe_int (pa_cons pe_int (pa_cons pe_int pa_nil)))))))) pa_nil))) pa_nil)) (by rfl))
      (pss_cons (ps_par3 (by rfl) sc_law.nd (i := 8) (j := 9) (l := 10) rfl rfl rfl (by decide) (by decide) (by decide) rfl rfl rfl (pa_cons (pe_mk T.k_Yard T.g_Yard c_Yard_init (hr.mono (by first | decide | exact Nat.le_refl _)) (by rfl) (pa_cons (pe_callB (call_min2 rfl) (by rfl) T.b_min (by decide +kernel) (pa_cons (pv 4) (pa_cons (pv 5) pa_nil))) pa_nil)) (pa_cons pe_dnewK (pa_cons (pv 4) pa_nil))) (by rfl))
      (pss_cons (ps_if (pt_cmpR op_eq (pe_fn T.g__law_draw c__law_draw (hr.mono (by first | decide | exact Nat.le_refl _)) (by rfl) (pa_cons (pv 1) (pa_cons pe_int pa_nil))) pe_int (nomark _)) (pss_cons (ps_par (by rfl) sc_law.nd (i := 9) (j := 10) rfl rfl (by decide) rfl rfl (pa_cons (pe_disp (pps_cons pe_str pe_str pps_nil) (by rfl) (by rfl) (fun z => by cases z) (by decide)) (pa_cons (pe_callB (call_min2 rfl) (by rfl) T.b_min (by decide +kernel) (pa_cons (pv 4) (pa_cons (pv 5) pa_nil))) pa_nil)) (by rfl))
      (pss_one (ps_expr (pe_mt T.c_Yard T.m_Yard_put_file c_Yard_put_file (hr.mono (by first | decide | exact Nat.le_refl _)) (pv 8) (pa_cons pe_str (pa_cons pe_str pa_nil)))))) pss_nil)
      (pss_cons (ps_expr (pe_mt T.c_Yard T.m_Yard_advance c_Yard_advance (hr.mono (by first | decide | exact Nat.le_refl _)) (pv 8) (pa_cons (pe_op op_sub (pv 4) (pe_callB (call_min2 rfl) (by rfl) T.b_min (by decide +kernel) (pa_cons (pv 4) (pa_cons (pv 5) pa_nil)))) pa_nil)))
      (pss_cons (ps_set (i := 11) sc_law.nd rfl (by first | exact Or.inl rfl | exact Or.inr rfl) (pe_fn T.g__law_pick c__law_pick (hr.mono (by first | decide | exact Nat.le_refl _)) (by rfl) (pa_cons (pv 1) (pa_cons (pe_lst (pa_cons (pv 6) (pa_cons (pe_lower (pv 6)) (pa_cons (pe_op op_add_str (pe_lower (pe_slice sl_str (pv 6) po_none (po_some pe_int))) (pe_slice sl_str (pv 6) (po_some pe_int) po_none)) pa_nil)))) pa_nil))))
      (pss_cons (ps_set (i := 12) sc_law.nd rfl (by first | exact Or.inl rfl | exact Or.inr rfl) (pe_cmpR op_eq (pe_fn T.g__law_draw c__law_draw (hr.mono (by first | decide | exact Nat.le_refl _)) (by rfl) (pa_cons (pv 1) (pa_cons pe_int pa_nil))) pe_int (nomark _)))
      (pss_cons (ps_set (i := 13) sc_law.nd rfl (by first | exact Or.inl rfl | exact Or.inr rfl) (pe_mk T.k_TimedRotatingFileHandler T.g_TimedRotatingFileHandler c_TimedRotatingFileHandler_init (hr.mono (by first | decide | exact Nat.le_refl _)) (by rfl) (pa_cons (pv 8) (pa_cons pe_str (pa_cons (pv 11) (pa_cons (pv 7) (pa_cons pe_int (pa_cons (pv 12) pa_nil))))))))
      (pss_cons (ps_set (i := 14) sc_law.nd rfl (by first | exact Or.inl rfl | exact Or.inr rfl) (pe_fn T.g__law_due c__law_due (hr.mono (by first | decide | exact Nat.le_refl _)) (by rfl) (pa_cons (pv 6) (pa_cons (pv 7) (pa_cons (pe_op op_fdiv (pv 10) pe_int) pa_nil)))))
      (pss_cons (ps_if (PW.pt (pw_and (pt_not (pt_val (pv 12))) (pw_and1 (pt_cmpR (RDe.op_eq_dictE (Nat.lt_of_succ_lt (hu_of hr))) (pv 9) pe_dnewK (nomark _))))) (pss_one (ps_set (i := 9) sc_law.nd rfl (by first | exact Or.inl rfl | exact Or.inr rfl) (pe_disp (pps_cons pe_str pe_str pps_nil) (by rfl) (by rfl) (fun z => by cases z) (by decide)))) pss_nil)
      (pss_cons (ps_if (PW.pt (pw_or (pt_not (pt_val (pe_fn T.g__law_same c__law_same (hr.mono (by first | decide | exact Nat.le_refl _)) (by rfl) (pa_cons (pe_fld (pv 13) rfl) (pa_cons (pv 14) pa_nil))))) (pw_or1 (pt_not (pt_val (pe_fn T.g__law_same c__law_same (hr.mono (by first | decide | exact Nat.le_refl _)) (by rfl) (pa_cons (pe_mt0 T.c_Yard T.m_Yard_files c_Yard_files (hr.mono (by first | decide | exact Nat.le_refl _)) (pv 8)) (pa_cons (pv 9) pa_nil)))))))) (pss_one (ps_ret pe_bl)) pss_nil)
      (pss_cons (ps_set (i := 15) sc_law.nd rfl (by first | exact Or.inl rfl | exact Or.inr rfl) (pe_mt T.c_Yard T.m_Yard_make_record c_Yard_make_record_d2 (hr.mono (by first | decide | exact Nat.le_refl _)) (pv 8) (pa_cons pe_str (pa_cons pe_int (pa_cons pe_str pa_nil)))))
      (pss_cons (ps_if (pt_not (pt_val (pe_fn T.g__law_same c__law_same (hr.mono (by first | decide | exact Nat.le_refl _)) (by rfl) (pa_cons (pe_mt T.c_TimedRotatingFileHandler T.m_TimedRotatingFileHandler_shouldRollover c_TimedRotatingFileHandler_shouldRollover (hr.mono (by first | decide | exact Nat.le_refl _)) (pv 13) (pa_cons (pv 15) pa_nil)) (pa_cons (pe_cmpR op_ge (pe_op op_fdiv (pv 4) pe_int) (pv 14) (nomark _)) pa_nil))))) (pss_one (ps_ret pe_bl)) pss_nil)
      (pss_cons (ps_set (i := 16) sc_law.nd rfl (by first | exact Or.inl rfl | exact Or.inr rfl) (pe_op op_sub (pe_op op_sub (pe_op op_mul pe_int (pv 14)) pe_int) (pv 4)))
      (pss_cons (ps_if (PW.pt (pw_and (pt_cmpR op_ge (pv 16) pe_int (nomark _)) (pw_and1 (pt_cmpR op_le (pe_op op_mul pe_int (pv 14)) pe_int (nomark _))))) (pss_cons (ps_expr (pe_mt T.c_Yard T.m_Yard_advance c_Yard_advance (hr.mono (by first | decide | exact Nat.le_refl _)) (pv 8) (pa_cons (pv 16) pa_nil)))
      (pss_cons (ps_set (i := 17) sc_law.nd rfl (by first | exact Or.inl rfl | exact Or.inr rfl) (pe_lst (pa_cons (pe_mt T.c_TimedRotatingFileHandler T.m_TimedRotatingFileHandler_shouldRollover c_TimedRotatingFileHandler_shouldRollover (hr.mono (by first | decide | exact Nat.le_refl _)) (pv 13) (pa_cons (pv 15) pa_nil)) pa_nil)))
      (pss_cons (ps_expr (pe_mt T.c_Yard T.m_Yard_advance c_Yard_advance (hr.mono (by first | decide | exact Nat.le_refl _)) (pv 8) (pa_cons pe_int pa_nil)))
      (pss_one (ps_if (pt_not (pt_val (pe_fn T.g__law_same c__law_same (hr.mono (by first | decide | exact Nat.le_refl _)) (by rfl) (pa_cons (pe_op op_cat (pv 17) (pe_lst (pa_cons (pe_mt T.c_TimedRotatingFileHandler T.m_TimedRotatingFileHandler_shouldRollover c_TimedRotatingFileHandler_shouldRollover (hr.mono (by first | decide | exact Nat.le_refl _)) (pv 13) (pa_cons (pv 15) pa_nil)) pa_nil))) (pa_cons (pe_lst (pa_cons pe_bl (pa_cons pe_bl pa_nil))) pa_nil))))) (pss_one (ps_ret pe_bl)) pss_nil))))) pss_nil)
      (pss_one (ps_if (pt_not (pt_val (RGd.pe_fnG gd T.g__law_is_refused c__law_is_refused (hr.mono (by first | decide | exact Nat.le_refl _)) (by rfl) (pa_cons (pv 1) pa_nil)))) (pss_one (ps_ret pe_bl)) pss_nil))))))))))))))))), ?_⟩
  walk_at "in"
  intro a s l WH n H5 D' W5 hn o3 o4 o5 o6 o7 o8 o9 o10 o11 o12 o13 o14 o15 o16 o17 k'
  refine seq_of (fun σ' H' => ∃ now old : Int, 0 ≤ now ∧ now ≤ momB ∧ 0 ≤ old ∧ old ≤ momB ∧ RS.Wd H' s l (n + 6) [RS.cell WH (.lst whL)] ∧ σ' = sgT a s WH [o3, some (.int now), some (.int old), o6, o7, o8, o9, o10, o11, o12, o13, o14, o15, o16, o17]) (fun b' kb => ?_) (fun σ' H6 hm => ?_)
  · refine ⟨_, rfl, s, l, n, rfl, W5.stm, by omega, fun H1 t1 q1 st1 a0 a1 => ?_⟩
    have W1 := W5.old q1 st1
    refine ⟨_, rfl, s, l, n + 3, rfl, W1.stm, by omega, fun H2 t2 q2 st2 b0 b1 => ?_⟩
    refine ⟨_, _, rfl, ?_⟩
    exact kb _ _ ⟨t1, t2, a0, a1, b0, b1, W1.old q2 st2, rfl⟩
  obtain ⟨now, old, n0, n1, l0, l1, W6, rfl⟩ := hm
  clear W5
  refine seq_of (fun σ' H' => ∃ (wi : Nat) (iv : Int), wi < 12 ∧ 1 ≤ iv ∧ iv ≤ 1000 ∧ RS.Wd H' s l (n + 8) [RS.cell WH (.lst whL)] ∧ σ' = sgT a s WH [o3, some (.int now), some (.int old), some (.str (whN wi)), some (.int iv), o8, o9, o10, o11, o12, o13, o14, o15, o16, o17]) (fun b' kb => ?_) (fun σ' H7 hm => ?_)
  · obtain ⟨m1, m2⟩ := W6.stmNe
    refine ⟨_, rfl, _, rfl, s, l, WH, n + 6, _, rfl, W6.stm, by omega, m1, m2, W6.c0, by decide, by decide, fun H1 x q1 st1 hx => ?_⟩
    obtain ⟨wi, hw, rfl⟩ := wh_of hx
    have W1 := W6.old q1 st1
    refine ⟨_, rfl, by show 7 ≤ sizeLine; decide, fun p fp => ?_⟩
    have W2 := W1.new (o := .lst [.int 1, .int 1, .int 1, .int 2, .int 3, .int 7, .int 1000]) fp
    obtain ⟨m3, m4⟩ := W2.stmNe
    refine ⟨s, l, p, n + 6 + 1, _, rfl, W2.stm, by omega, m3, m4, W2.c0, by decide, by decide, fun H3 x q3 st3 hx => ?_⟩
    have W3 := (W2.old q3 st3).tl
    obtain ⟨iv, rfl, i0, i1⟩ : ∃ iv : Int, x = .int iv ∧ 1 ≤ iv ∧ iv ≤ 1000 := by
      simp only [List.mem_cons, List.not_mem_nil, or_false] at hx
      rcases hx with rfl | rfl | rfl | rfl | rfl | rfl | rfl <;> exact ⟨_, rfl, by decide, by decide⟩
    refine ⟨_, _, rfl, ?_⟩
    exact kb _ _ ⟨wi, iv, hw, i0, i1, W3, rfl⟩
  obtain ⟨wi, iv, hw, i0, i1, W7, rfl⟩ := hm
  clear W6
  obtain ⟨mn, emn, mn0, mnl⟩ : ∃ mn : Int, (if old < now then old else now) = mn ∧ 0 ≤ mn ∧ mn ≤ now := ⟨_, rfl, by split <;> omega, by split <;> omega⟩
  refine seq_of (fun σ' H' => ∃ (ad : Ro → Addr) (FD : Addr), RS.Wd H' s l (n + 8) [RS.cell FD (.dK []), cF K (FS.s0 mn) ad, RS.cell WH (.lst whL)] ∧ σ' = sgT a s WH [o3, some (.int now), some (.int old), some (.str (whN wi)), some (.int iv), some (.ref (ad .y)), some (.ref FD), some (.int now), o11, o12, o13, o14, o15, o16, o17]) (fun b' kb => ?_) (fun σ' H8 hm => ?_)
  · refine ⟨_, rfl, _, rfl, ?_⟩
    refine ⟨_, _, rfl, ?_⟩
    rw [emn]
    intro y dy hy hdy hne
    refine ⟨y, dy, mn, rfl, upd_same, fun H8 q N' => ⟨rfl, ?_⟩⟩
    obtain ⟨ad, ea, R8, f8, S8⟩ := YNew.repF hy hdy hne N'
    have W8 := W7.add (c := cF K (FS.s0 mn) ad) S8 R8 f8
    clear N' S8 R8 f8 hy hdy hne
    subst ea
    intro FD fFD
    refine ⟨_, rfl, _, _, _, rfl, ?_⟩
    exact kb _ _ ⟨ad, FD, W8.new fFD, rfl⟩
  obtain ⟨ad, FD, W8, rfl⟩ := hm
  clear W7
  refine seq_of (fun σ' H' => ∃ (M : FS) (ad : Ro → Addr) (FD : Addr) (fs : List (Str × Str)) (beg : Int), Beg M fs now beg mn ∧ RS.Wd H' s l (n + 9) [RS.cell FD (.dK (strK fs)), cF K M ad, RS.cell WH (.lst whL)] ∧ σ' = sgT a s WH [o3, some (.int now), some (.int old), some (.str (whN wi)), some (.int iv), some (.ref (ad .y)), some (.ref FD), some (.int beg), o11, o12, o13, o14, o15, o16, o17]) (fun b' kb => ?_) (fun σ' H9 hm => ?_)
  · refine ⟨_, rfl, s, l, n + 8, 2, rfl, W8.stm, by omega, by decide, by decide, fun H9 c q9 st9 c0 c1 => ?_⟩
    have W9 := W8.old q9 st9
    clear q9 st9
    by_cases cz : c = 0
    · subst cz
      have e0 : decide (V.int 0 = V.int 0) = true := decide_eq_true rfl
      refine ⟨rfl, _, rfl, iteT' (by rw [e0]) ?_⟩
      walk_at "go"
      intro FD2 fFD
      refine ⟨upd_same, [(Sum.inr "f", .str "old")], rfl, by show 1 ≤ 15; decide, ?_⟩
      rw [upd_upd]
      refine ⟨_, rfl, _, rfl, _, _, rfl, _, _, rfl, ?_⟩
      rw [emn]
      have W10 : RS.Wd _ s l (n + 9) [RS.cell FD2 (.dK (strK [(("f" : Str), ("old" : Str))])), cF K (FS.s0 mn) ad, RS.cell WH (.lst whL)] := (W9.new (o := .dK (mergeK [] [((Sum.inr "f" : Key), V.str "old")])) fFD).up1.tl
      generalize upd H9 FD2 (.dK (mergeK [] [((Sum.inr "f" : Key), V.str "old")])) = H10 at W10 ⊢
      have R10 : YR K (FS.s0 mn) ad H10 := W10.up1.hd
      refine ⟨_, rfl, ad .y, _, _, rfl, R10.y_, rfl, FS.s0 mn, ad, "f", "old", rfl, R10, by show 0 ≤ 1000; decide, fun ad' H11 R' M' X' => ?_⟩
      have W11 := (W10.up1.mv (c' := cF K ((FS.s0 mn).put "f" "old") ad') R' M').up1
      have ey : ad' .y = ad .y := X' .y (fun _ h => nomatch h) (fun _ h => nomatch h)
      rw [← ey]
      exact kb _ _ ⟨(FS.s0 mn).put "f" "old", ad', FD2, [(("f" : Str), ("old" : Str))], mn, ⟨rfl, rfl, rfl, rfl, .inr ⟨rfl, rfl, (show (if ("f" : Str) = "f" then (FS.s0 mn).now else (FS.s0 mn).tim "f") = mn from if_pos rfl)⟩⟩, W11, rfl⟩
    · have e0 : decide (V.int c = V.int 0) = false := decide_eq_false fun z => cz (V.int.inj z)
      refine ⟨rfl, _, rfl, iteF' (by rw [e0]) ?_⟩
      exact kb _ _ ⟨FS.s0 mn, ad, FD, [], now, ⟨rfl, rfl, rfl, rfl, .inl ⟨rfl, rfl⟩⟩, W9, rfl⟩
  obtain ⟨M, ad, FD, fs, beg, B, W9, rfl⟩ := hm
  clear W8
  refine seq_of (fun σ' H' => RS.Wd H' s l (n + 9) [RS.cell FD (.dK (strK fs)), cF K (M.adv (now - mn)) ad, RS.cell WH (.lst whL)] ∧ σ' = sgT a s WH [o3, some (.int now), some (.int old), some (.str (whN wi)), some (.int iv), some (.ref (ad .y)), some (.ref FD), some (.int beg), o11, o12, o13, o14, o15, o16, o17]) (fun b' kb => ?_) (fun σ' H10 hm => ?_)
  · have R9 : YR K M ad H9 := W9.up1.hd
    refine ⟨_, rfl, ad .y, _, _, rfl, R9.y_, rfl, ?_⟩
    refine ⟨_, rfl, _, rfl, _, rfl, _, _, rfl, ?_⟩
    refine ⟨_, _, rfl, rfl, ?_⟩
    rw [emn]
    refine ⟨M, ad, now - mn, rfl, R9, fun H' R' M' => ?_⟩
    exact kb _ _ ⟨(W9.up1.mv (c' := cF K (M.adv (now - mn)) ad) R' M').up1, rfl⟩
  obtain ⟨W10, rfl⟩ := hm
  clear W9
  refine seq_of (fun σ' H' => ∃ z : Str, Word z wi ∧ RS.Wd H' s l (n + 10) [RS.cell FD (.dK (strK fs)), cF K (M.adv (now - mn)) ad, RS.cell WH (.lst whL)] ∧ σ' = sgT a s WH [o3, some (.int now), some (.int old), some (.str (whN wi)), some (.int iv), some (.ref (ad .y)), some (.ref FD), some (.int beg), some (.str z), o12, o13, o14, o15, o16, o17]) (fun b' kb => ?_) (fun σ' H11 hm => ?_)
  · have wl := wh_len wi hw
    walk_at "go"
    obtain ⟨x1, x2, x3, x4, x6, x7⟩ := wd_all wi hw
    refine ⟨⟨_, rfl⟩, whN wi, rfl, rfl, by omega, ?_⟩
    have ws : (whN wi).length ≤ sizeLine := by rw [sizeLine_eq]; omega
    walk_at "go"
    have x5 : (Txt.lower (cutS (whN wi) none (some 1))).length + (cutS (whN wi) (some 1) none).length ≤ sizeLine := by rw [sizeLine_eq]; omega
    refine ⟨⟨_, rfl⟩, cutS (whN wi) none (some 1), rfl, rfl, by omega, ?_⟩
    walk_at "go"
    intro P fP
    have W2 := W10.new (o := .lst [.str (whN wi), .str (Txt.lower (whN wi)), .str (Txt.lower (cutS (whN wi) none (some 1)) ++ cutS (whN wi) (some 1) none)]) fP
    obtain ⟨m3, m4⟩ := W2.stmNe
    refine ⟨s, l, P, n + 9, _, rfl, W2.stm, by omega, m3, m4, W2.c0, by show 1 ≤ 3; decide, by show 3 ≤ 1000; decide, fun H3 x q3 st3 hx => ?_⟩
    have W3 := (W2.old q3 st3).tl
    simp only [List.mem_cons, List.not_mem_nil, or_false] at hx
    rcases hx with rfl | rfl | rfl
    · exact kb _ _ ⟨_, x1.word hw, W3, rfl⟩
    · exact kb _ _ ⟨_, x2.word hw, W3, rfl⟩
    · exact kb _ _ ⟨_, x3.word hw, W3, rfl⟩
  obtain ⟨z, hz, W11, rfl⟩ := hm
  clear W10
  refine seq_of (fun σ' H' => ∃ dl : Bool, RS.Wd H' s l (n + 11) [RS.cell FD (.dK (strK fs)), cF K (M.adv (now - mn)) ad, RS.cell WH (.lst whL)] ∧ σ' = sgT a s WH [o3, some (.int now), some (.int old), some (.str (whN wi)), some (.int iv), some (.ref (ad .y)), some (.ref FD), some (.int beg), some (.str z), some (.bl dl), o13, o14, o15, o16, o17]) (fun b' kb => ?_) (fun σ' H12 hm => ?_)
  · refine ⟨_, rfl, s, l, n + 10, 2, rfl, W11.stm, by omega, by decide, by decide, fun H12 c q12 st12 c0 c1 => ?_⟩
    have W12 := W11.old q12 st12
    walk_at "go"
    exact kb _ _ ⟨decide (V.int c = V.int 0), W12, rfl⟩
  obtain ⟨dl, W12, rfl⟩ := hm
  clear W11
  have B2 : (M.adv (now - mn)).beg "f" = beg := by
    obtain ⟨b1, b2, b3, b4, b5⟩ := B
    have c1 : (M.adv (now - mn)).now = now := by show M.now + (now - mn) = now; rw [b4]; omega
    unfold FS.beg
    show (if (M.files.lookup ("f" : Str)).isSome = true then M.tim "f" else (M.adv (now - mn)).now) = beg
    rw [b1, c1]
    rcases b5 with ⟨rfl, rfl⟩ | ⟨rfl, rfl, e⟩
    · rfl
    · rw [e]; rfl
  refine seq_of (fun σ' H' => ∃ (p : Addr) (ad' : Ro → Addr), RS.Wd H' s l (n + 11) [cF K ((M.adv (now - mn)).mkT p "f" wi iv 0 dl) ad', RS.cell FD (.dK (strK fs)), RS.cell WH (.lst whL)] ∧ σ' = sgT a s WH [o3, some (.int now), some (.int old), some (.str (whN wi)), some (.int iv), some (.ref (ad' .y)), some (.ref FD), some (.int beg), some (.str z), some (.bl dl), some (.ref (ad' (.h 0))), o14, o15, o16, o17]) (fun b' kb => ?_) (fun σ' H13 hm => ?_)
  · walk_at "go"
    intro h dx hh hdx hne
    have hlM : (M.adv (now - mn)).hs.length = 0 := by show M.hs.length = 0; rw [B.hs]; rfl
    refine ⟨M.adv (now - mn), ad, h, dx, "f", z, wi, iv, 0, dl, H12, rfl, hz, by omega, by omega, W12.up1.hd, hh, hdx, Ne.symm hne, rfl, by show M.md.length ≤ 1000; rw [B.md]; decide, by show M.files.length ≤ 900; rw [B.files]; rcases B.way with ⟨rfl, _⟩ | ⟨rfl, _⟩ <;> decide, fun ad' H13 s' R' M' e1 e2 e3 e4 => ⟨rfl, ?_⟩⟩
    subst e4
    rw [hlM] at e1
    have W13 := W12.up1.mv (c' := cF K ((M.adv (now - mn)).mkT h "f" wi iv 0 dl) ad') R' M'
    rw [← e3]
    have := kb _ _ ⟨h, ad', W13, rfl⟩
    rw [e1] at this
    exact this
  obtain ⟨p, ad2, W13, rfl⟩ := hm
  clear W12
  have hlM : (M.adv (now - mn)).hs.length = 0 := by show M.hs.length = 0; rw [B.hs]; rfl
  obtain ⟨g1, _, g3, g4⟩ := mkf_hs (M.adv (now - mn)) p "f" false dl
  have hd2 : ((M.adv (now - mn)).mkT p "f" wi iv 0 dl).hs[0]? = some { hd0 "f" false dl with op := !dl, tl := some ⟨wi, iv, 0, TL.next ⟨wi, iv, 0, 0⟩ (beg / 1000)⟩ } := by
    show ((((M.adv (now - mn)).mkf p "f" false dl).hs.set (M.adv (now - mn)).hs.length (hdT (M.adv (now - mn)) "f" wi iv 0 dl)))[0]? = _
    rw [g1, hlM, List.getElem?_set_self (by rw [List.length_append]; show 0 < _ + 1; omega)]
    show some { hd0 "f" false dl with op := !dl, tl := some ⟨wi, iv, 0, TL.next ⟨wi, iv, 0, 0⟩ ((M.adv (now - mn)).beg "f" / 1000)⟩ } = _
    rw [B2]
  have hnow2 : ((M.adv (now - mn)).mkT p "f" wi iv 0 dl).now = now := by
    show ((M.adv (now - mn)).mkf p "f" false dl).now = now
    rw [g3]; show M.now + (now - mn) = now; rw [B.clk]; omega
  obtain ⟨fs2, hfs2, hfd, hf2, hf3⟩ : ∃ fs2 : List (Str × Str), ((M.adv (now - mn)).mkT p "f" wi iv 0 dl).files = fs2 ∧ ((dl = true ∨ fs ≠ []) → fs2 = fs) ∧ ((dl = false ∧ fs = []) → fs2 = [(("f" : Str), ("" : Str))]) ∧ fs2.length ≤ 1 := by
    refine ⟨_, rfl, ?_, ?_, ?_⟩
    · intro h
      show ((M.adv (now - mn)).mkf p "f" false dl).files = fs
      rw [g4]
      cases dl with
      | true => exact B.files
      | false =>
        rcases h with h | h
        · cases h
        · rcases B.way with ⟨e, _⟩ | ⟨e, _⟩
          · exact absurd e h
          · show ((M.adv (now - mn)).opn "f" false).files = fs
            unfold FS.opn
            have e2 : (M.adv (now - mn)).files = [(("f" : Str), ("old" : Str))] := B.files.trans e
            rw [e2]
            exact B.files
    · rintro ⟨rfl, e⟩
      show ((M.adv (now - mn)).mkf p "f" false false).files = _
      rw [g4]
      show ((M.adv (now - mn)).opn "f" false).files = _
      unfold FS.opn
      have e2 : (M.adv (now - mn)).files = [] := B.files.trans e
      rw [e2]
      show (putS (M.adv (now - mn)).files "f" "") = _
      rw [e2]; rfl
    · show ((M.adv (now - mn)).mkf p "f" false dl).files.length ≤ 1
      rw [g4]
      have e2 : (M.adv (now - mn)).files = fs := B.files
      cases dl with
      | true => show (M.adv (now - mn)).files.length ≤ 1; rw [e2]; rcases B.way with ⟨e, _⟩ | ⟨e, _⟩ <;> (rw [e]; decide)
      | false =>
        show ((M.adv (now - mn)).opn "f" false).files.length ≤ 1
        unfold FS.opn
        rw [e2]
        rcases B.way with ⟨e, _⟩ | ⟨e, _⟩
        · rw [e]; show (putS (M.adv (now - mn)).files "f" "").length ≤ 1; rw [e2, e]; decide
        · rw [e]; show (M.adv (now - mn)).files.length ≤ 1; rw [e2, e]; decide
  have hnd : (fs2.map (·.1)).Nodup := by
    cases fs2 with
    | nil => exact .nil
    | cons x r => cases r with
      | nil => exact List.nodup_cons.mpr ⟨(fun h => nomatch h), .nil⟩
      | cons y r => exact absurd hf3 (by show ¬ (_ + 1 + 1 ≤ 1); omega)
  have hbeg : 0 ≤ beg / 1000 := by
    have : 0 ≤ beg := by rcases B.way with ⟨_, e⟩ | ⟨_, e, _⟩ <;> omega
    omega
  generalize (M.adv (now - mn)).mkT p "f" wi iv 0 dl = M2 at W13 hd2 hnow2 hfs2
  generalize hdue : TL.next ⟨wi, iv, 0, 0⟩ (beg / 1000) = due at hd2
  refine seq_of (fun σ' H' => RS.Wd H' s l (n + 11) [cF K M2 ad2, RS.cell FD (.dK (strK fs)), RS.cell WH (.lst whL)] ∧ σ' = sgT a s WH [o3, some (.int now), some (.int old), some (.str (whN wi)), some (.int iv), some (.ref (ad2 .y)), some (.ref FD), some (.int beg), some (.str z), some (.bl dl), some (.ref (ad2 (.h 0))), some (.int due), o15, o16, o17]) (fun b' kb => ?_) (fun σ' H14 hm => ?_)
  · refine ⟨_, rfl, _, rfl, _, rfl, _, _, rfl, rfl, ⟨by decide, by decide⟩, wi, iv, beg / 1000, rfl, hw, i0, i1, hbeg, fun H14 s14 => ?_⟩
    rw [hdue]
    exact kb _ _ ⟨W13.same s14, rfl⟩
  obtain ⟨W14, rfl⟩ := hm
  clear W13
  refine seq_of (fun σ' H' => ∃ FD : Addr, RS.Wd H' s l (n + 11) [cF K M2 ad2, RS.cell FD (.dK (strK fs2)), RS.cell WH (.lst whL)] ∧ σ' = sgT a s WH [o3, some (.int now), some (.int old), some (.str (whN wi)), some (.int iv), some (.ref (ad2 .y)), some (.ref FD), some (.int beg), some (.str z), some (.bl dl), some (.ref (ad2 (.h 0))), some (.int due), o15, o16, o17]) (fun b' kb => ?_) (fun σ' H15 hm => ?_)
  · cases dl with
    | true =>
      rw [hfd (.inl rfl)] at kb
      walk_at "go"
      exact kb _ _ ⟨FD, W14, rfl⟩
    | false =>
      walk_at "go"
      intro q fq
      have sq := same_new fq (.dK [])
      have hFD := sq _ _ W14.up1.c0
      refine ⟨FD, q, _, _, rfl, rfl, hFD, upd_same, rfl, ?_⟩
      have W15 := W14.same sq
      rcases B.way with ⟨e, _⟩ | ⟨e, _⟩
      · rw [hf2 ⟨rfl, e⟩] at kb
        rw [e]
        refine ⟨_, rfl, iteT' rfl ?_⟩
        walk_at "go"
        intro FD2 fFD
        refine ⟨upd_same, [(Sum.inr "f", .str "")], rfl, by show 1 ≤ 15; decide, ?_⟩
        rw [upd_upd]
        have W16 := (W15.new (o := .dK (mergeK [] [((Sum.inr "f" : Key), V.str "")])) fFD)
        exact kb _ _ ⟨FD2, W16.up2.tl.up1, rfl⟩
      · rw [hfd (.inr (by rw [e]; exact fun z => nomatch z))] at kb
        rw [e]
        refine ⟨_, rfl, iteF' rfl ?_⟩
        rw [e] at kb W15
        exact kb _ _ ⟨FD, W15, rfl⟩
  obtain ⟨FD, W15, rfl⟩ := hm
  clear W14
  have R15 : YR K M2 ad2 H15 := W15.hd
  have ha15 := R15.h_ hd2
  refine seq_of (fun σ' H' => RS.Wd H' s l (n + 11) [cF K M2 ad2, RS.cell FD (.dK (strK fs2)), RS.cell WH (.lst whL)] ∧ σ' = sgT a s WH [o3, some (.int now), some (.int old), some (.str (whN wi)), some (.int iv), some (.ref (ad2 .y)), some (.ref FD), some (.int beg), some (.str z), some (.bl dl), some (.ref (ad2 (.h 0))), some (.int due), o15, o16, o17]) (fun b' kb => ?_) (fun σ' H16 hm => ?_)
  · have d1 : SameD H15 4 (.int due) (.int due) := .int _ _
    walk_at "go"
    intro H16 s16
    have W16 := W15.same s16
    have R16 : YR K M2 ad2 H16 := W16.hd
    refine ⟨_, rfl, ?_⟩
    refine iteF' rfl ?_
    refine ⟨_, rfl, ad2 .y, _, _, rfl, R16.y_, rfl, M2, ad2, rfl, R16, by rw [hfs2]; omega, by rw [hfs2]; exact hnd, fun p5 H17 s17 f17 h17 => ?_⟩
    have W17 := W16.same s17
    have hFD := W17.up1.c0
    rw [hfs2] at h17
    refine ⟨_, rfl, _, _, rfl, .dic h17 hFD hnd (by omega) (by decide), fun H18 s18 => ?_⟩
    walk_at "go"
    exact kb _ _ ⟨W17.same s18, rfl⟩
  obtain ⟨W16, rfl⟩ := hm
  clear W15 R15 ha15
  refine seq_of (fun σ' H' => ∃ r : Addr, RS.Wd H' s l (n + 11) [cF K M2 ad2, RS.cell FD (.dK (strK fs2)), RS.cell WH (.lst whL)] ∧ σ' = sgT a s WH [o3, some (.int now), some (.int old), some (.str (whN wi)), some (.int iv), some (.ref (ad2 .y)), some (.ref FD), some (.int beg), some (.str z), some (.bl dl), some (.ref (ad2 (.h 0))), some (.int due), some (.ref r), o16, o17]) (fun b' kb => ?_) (fun σ' H17 hm => ?_)
  · have R16 : YR K M2 ad2 H16 := W16.hd
    refine ⟨_, rfl, ad2 .y, _, _, rfl, R16.y_, rfl, ?_⟩
    refine ⟨ad2 .y, _, ad2 .na, ad2 .nu, _, _, nms0 K, nums0 K, "a", "b", 10, M2.now, [], rfl, .inr (T.dt_Yard_make_record_0 H16), (fun x h => nomatch h), by decide, R16.y_, rfl, rfl, rfl, rfl, rfl, R16.na_, R16.nu_, nms0_ok K, by decide, fun H17 r g e s17 _ _ _ _ _ _ => ?_⟩
    exact kb _ _ ⟨r, W16.same s17, rfl⟩
  obtain ⟨r, W17, rfl⟩ := hm
  clear W16
  have shd : ∀ (M3 : FS) (H0 : Hp) (Q2 : VK), YR K M3 ad2 H0 → M3.hs = M2.hs → Q2 (.bl (decide (due ≤ M3.now / 1000))) H0 → spShould K [.ref (ad2 (.h 0)), .ref r] H0 Q2 E0 := fun M3 H0 Q2 R0 e q =>
    ⟨M3, ad2, 0, _, _, _, rfl, R0, by rw [e]; exact hd2, rfl, q⟩
  refine seq_of (fun σ' H' => RS.Wd H' s l (n + 11) [cF K M2 ad2, RS.cell FD (.dK (strK fs2)), RS.cell WH (.lst whL)] ∧ σ' = sgT a s WH [o3, some (.int now), some (.int old), some (.str (whN wi)), some (.int iv), some (.ref (ad2 .y)), some (.ref FD), some (.int beg), some (.str z), some (.bl dl), some (.ref (ad2 (.h 0))), some (.int due), some (.ref r), o16, o17]) (fun b' kb => ?_) (fun σ' H18 hm => ?_)
  · have R17 : YR K M2 ad2 H17 := W17.hd
    have ha := R17.h_ hd2
    refine ⟨_, rfl, _, _, _, rfl, ha, rfl, _, rfl, ?_⟩
    dsimp only [tNil]
    refine shd M2 H17 _ R17 rfl ?_
    rw [hnow2]
    refine ⟨_, rfl, _, _, rfl, rfl, ⟨by decide, by decide⟩, _, rfl, _, _, rfl, rfl, ?_⟩
    refine ⟨_, _, rfl, .bl _ _, fun H18 s18 => ?_⟩
    walk_at "go"
    exact kb _ _ ⟨W17.same s18, rfl⟩
  obtain ⟨W18, rfl⟩ := hm
  clear W17
  refine seq_of (fun σ' H' => H18 = H' ∧ σ' = sgT a s WH [o3, some (.int now), some (.int old), some (.str (whN wi)), some (.int iv), some (.ref (ad2 .y)), some (.ref FD), some (.int beg), some (.str z), some (.bl dl), some (.ref (ad2 (.h 0))), some (.int due), some (.ref r), some (.int (1000 * due - 1 - now)), o17]) (fun b' kb => ?_) (fun σ' H' hm => ?_)
  · walk_at "go"
    refine ⟨.inl ⟨by decide, by decide⟩, ?_⟩
    walk_at "go"
    exact kb _ _ ⟨rfl, rfl⟩
  obtain ⟨rfl, rfl⟩ := hm
  generalize hrest : 1000 * due - 1 - now = rest
  refine seq_of (fun σ' H' => ∃ (M3 : FS) (o17 : Option V), RS.Wd H' s l (n + 11) [cF K M3 ad2, RS.cell FD (.dK (strK fs2)), RS.cell WH (.lst whL)] ∧ σ' = sgT a s WH [o3, some (.int now), some (.int old), some (.str (whN wi)), some (.int iv), some (.ref (ad2 .y)), some (.ref FD), some (.int beg), some (.str z), some (.bl dl), some (.ref (ad2 (.h 0))), some (.int due), some (.ref r), some (.int rest), o17]) (fun b' kb => ?_) (fun σ' H19 hm => ?_)
  · by_cases c1 : 0 ≤ rest
    · have e1 : decide (0 ≤ rest) = true := decide_eq_true c1
      by_cases c2 : 1000 * due ≤ 253402300799999
      · have e2 : decide (1000 * due ≤ 253402300799999) = true := decide_eq_true c2
        walk_at "go"
        refine ⟨.inl ⟨by decide, by decide⟩, ?_⟩
        refine ⟨_, _, rfl, rfl, _, rfl, iteT' e2 ?_⟩
        refine seq_of (fun σ' H' => RS.Wd H' s l (n + 11) [cF K (M2.adv rest) ad2, RS.cell FD (.dK (strK fs2)), RS.cell WH (.lst whL)] ∧ σ' = sgT a s WH [o3, some (.int now), some (.int old), some (.str (whN wi)), some (.int iv), some (.ref (ad2 .y)), some (.ref FD), some (.int beg), some (.str z), some (.bl dl), some (.ref (ad2 (.h 0))), some (.int due), some (.ref r), some (.int rest), o17]) (fun b2 kb2 => ?_) (fun σ' H20 hm => ?_)
        · have R18 : YR K M2 ad2 H18 := W18.hd
          refine ⟨_, rfl, ad2 .y, _, _, rfl, R18.y_, rfl, _, rfl, ?_⟩
          dsimp only [tNil]
          refine ⟨M2, ad2, rest, rfl, R18, fun H' R' M' => ?_⟩
          exact kb2 _ _ ⟨W18.mv (c' := cF K (M2.adv rest) ad2) R' M', rfl⟩
        obtain ⟨W20, rfl⟩ := hm
        have f0 : decide (due ≤ (M2.adv rest).now / 1000) = false := decide_eq_false (by show ¬ due ≤ (M2.now + rest) / 1000; rw [hnow2]; omega)
        have f1 : decide (due ≤ ((M2.adv rest).adv 1).now / 1000) = true := decide_eq_true (by show due ≤ (M2.now + rest + 1) / 1000; rw [hnow2]; omega)
        refine seq_of (fun σ' H' => ∃ L, RS.Wd H' s l (n + 11) [RS.cell L (.lst [.bl false]), cF K (M2.adv rest) ad2, RS.cell FD (.dK (strK fs2)), RS.cell WH (.lst whL)] ∧ σ' = sgT a s WH [o3, some (.int now), some (.int old), some (.str (whN wi)), some (.int iv), some (.ref (ad2 .y)), some (.ref FD), some (.int beg), some (.str z), some (.bl dl), some (.ref (ad2 (.h 0))), some (.int due), some (.ref r), some (.int rest), some (.ref L)]) (fun b2 kb2 => ?_) (fun σ' H21 hm => ?_)
        · have R20 : YR K (M2.adv rest) ad2 H20 := W20.hd
          have ha := R20.h_ hd2
          refine ⟨_, rfl, _, _, _, rfl, ha, rfl, _, rfl, ?_⟩
          dsimp only [tNil]
          refine shd (M2.adv rest) H20 _ R20 rfl ?_
          rw [f0]
          refine ⟨by show 1 ≤ sizeLine; decide, fun L fL => ?_⟩
          exact kb2 _ _ ⟨L, W20.new fL, rfl⟩
        obtain ⟨L, W21, rfl⟩ := hm
        refine seq_of (fun σ' H' => RS.Wd H' s l (n + 11) [cF K ((M2.adv rest).adv 1) ad2, RS.cell L (.lst [.bl false]), RS.cell FD (.dK (strK fs2)), RS.cell WH (.lst whL)] ∧ σ' = sgT a s WH [o3, some (.int now), some (.int old), some (.str (whN wi)), some (.int iv), some (.ref (ad2 .y)), some (.ref FD), some (.int beg), some (.str z), some (.bl dl), some (.ref (ad2 (.h 0))), some (.int due), some (.ref r), some (.int rest), some (.ref L)]) (fun b2 kb2 => ?_) (fun σ' H22 hm => ?_)
        · have R21 : YR K (M2.adv rest) ad2 H21 := W21.up1.hd
          refine ⟨_, rfl, ad2 .y, _, _, rfl, R21.y_, rfl, ?_⟩
          dsimp only [tNil]
          refine ⟨M2.adv rest, ad2, 1, rfl, R21, fun H' R' M' => ?_⟩
          exact kb2 _ _ ⟨W21.up1.mv (c' := cF K ((M2.adv rest).adv 1) ad2) R' M', rfl⟩
        obtain ⟨W22, rfl⟩ := hm
        have R22 : YR K ((M2.adv rest).adv 1) ad2 H22 := W22.hd
        have ha := R22.h_ hd2
        have hL := W22.up1.c0
        refine ⟨_, rfl, _, rfl, _, _, _, rfl, ha, rfl, _, rfl, ?_⟩
        dsimp only [tNil]
        refine shd ((M2.adv rest).adv 1) H22 _ R22 rfl ?_
        rw [f1]
        refine ⟨by show 1 ≤ sizeLine; decide, fun L2 fL2 => ?_⟩
        have W23 := W22.new (o := .lst [.bl true]) fL2
        have hL3 := same_new fL2 (.lst [.bl true]) _ _ hL
        have hL2 := W23.c0
        generalize upd H22 L2 (.lst [.bl true]) = H23 at W23 hL3 hL2 ⊢
        refine ⟨L, L2, _, _, rfl, rfl, hL3, hL2, by show 2 ≤ sizeLine; decide, fun P fP => ?_⟩
        have hP := upd_same (H := H23) (a := P) (o := .lst ([.bl false] ++ [.bl true]))
        have W24 := W23.same (same_new fP (.lst ([.bl false] ++ [.bl true])))
        generalize upd H23 P (.lst ([.bl false] ++ [.bl true])) = H24 at W24 hP ⊢
        refine ⟨by show 2 ≤ sizeLine; decide, fun P2 fP2 => ?_⟩
        have s25 := same_new fP2 (.lst [.bl false, .bl true])
        have W25 := W24.same s25
        refine ⟨_, _, rfl, .lst (s25 _ _ hP) upd_same rfl (by show 2 ≤ 1000000; decide) (fun i x y hx hy => ?_), fun H26 s26 => ?_⟩
        · match i, hx, hy with
          | 0, hx, hy => cases hx; cases hy; exact .bl _ _
          | 1, hx, hy => cases hx; cases hy; exact .bl _ _
        · have W26 := W25.same s26
          walk_at "go"
          exact kb _ _ ⟨(M2.adv rest).adv 1, _, W26.tl.up1.tl, rfl⟩
      · have e2 : decide (1000 * due ≤ 253402300799999) = false := decide_eq_false c2
        walk_at "go"
        refine ⟨.inl ⟨by decide, by decide⟩, ?_⟩
        walk_at "go"
        exact kb _ _ ⟨M2, _, W18, rfl⟩
    · have e1 : decide (0 ≤ rest) = false := decide_eq_false c1
      walk_at "go"
      exact kb _ _ ⟨M2, _, W18, rfl⟩
  obtain ⟨M3, o17', W19, rfl⟩ := hm
  refine ⟨_, rfl, s, l, n + 11, rfl, W19.stm, by omega, fun H20 o20 st20 => ?_⟩
  have W20 := (W19.old o20 st20).tl.tl
  walk_at "go"
  exact k' _ _ (n + 11 + 1) (by omega) W20 ⟨_, rfl, rfl⟩
end
end K17

set_option Elab.async false
set_option linter.all false
set_option maxRecDepth 100000
set_option maxHeartbeats 0

namespace K17
open PySem PySem.Spec PyProof.Rows L2 RC
section
variable {P : Program} {w : World} {K : PySem.W.Frag} {mg : Str → Option Value} {base : Heap}
/-! ### the law -/
def spLaw (K : PySem.W.Frag) : Sp := fun vs H Q _ => ∃ (a : Addr) (ns : List Int), vs = [.ref a] ∧ ns.length ≤ 63 ∧ SqL K H a (ns.map V.int) ∧ ∀ H', Q (.bl true) H'
theorem law_body (T : Txt P w K mg) {f : Addr} {cdv : Value} {A : Around} {outer : List Env} {st0 : Shared} {E : XK} {vs : List V} {H : Hp} {Q : VK} (hr : Room 14 (A.deeper (envOfC "law" (defScope s_law) st0.heap.objs.size f cdv))) (gd : (A.deeper (envOfC "law" (defScope s_law) st0.heap.objs.size f cdv)).guards = some []) (hsp : spLaw K vs H Q E)
    (c__law_draw : Callable P w K mg base 1 (He.ga K "_law_draw") ["_law_stream", "_law_many"] [] spDraw)
    (c__law_pick : Callable P w K mg base 2 (He.ga K "_law_pick") ["_law_stream", "_law_some"] [] (spPick K))
    (c__law_moment : Callable P w K mg base 3 (He.ga K "_law_moment") ["_law_stream"] [] spMom)
    (c__law_due : Callable P w K mg base 1 (He.ga K "_law_due") ["_law_when", "_law_interval", "_law_seconds"] [] spDue)
    (c__law_same : Callable P w K mg base 5 (He.ga K "_law_same") ["_law_found", "_law_due_here"] [] (spSame 4))
    (c__law_is_refused : RGd.CallG P w K mg base 7 (He.ga K "_law_is_refused") ["_law_stream"] (spRefused K))
    (c_Yard_init : Callable P w K mg base 5 (He.ma K (He.ga K "Yard") "__init__") ["self", "now"] [] (spYardInit K))
    (c_Yard_put_file : Callable P w K mg base 1 (He.ma K (He.ga K "Yard") "put_file") ["self", "name", "text"] [] (spPut K))
    (c_Yard_advance : Callable P w K mg base 1 (He.ma K (He.ga K "Yard") "advance") ["self", "milliseconds"] [] (spAdv K))
    (c_Yard_files : Callable P w K mg base 2 (He.ma K (He.ga K "Yard") "files") ["self"] [] (spFiles K))
    (c_TimedRotatingFileHandler_init : Callable P w K mg base 5 (He.ma K (He.ga K "TimedRotatingFileHandler") "__init__") ["self", "yard", "filename", "when", "interval", "backupCount", "delay"] [] (spTimInit K))
    (c_TimedRotatingFileHandler_shouldRollover : Callable P w K mg base 2 (He.ma K (He.ga K "TimedRotatingFileHandler") "shouldRollover") ["self", "record"] [] (spShould K))
    (c_Yard_make_record_d2 : Callable P w K mg base 6 (He.ma K (He.ga K "Yard") "make_record") ["self", "name", "level", "msg", "args", "extra"] [.ref (He.dflAt ("Yard", some "make_record") 0 K), .non] (spMakeRecord K)) :
    ∃ t, PSs (cxOf CX0 P w K mg base nm_law "law" (defScope s_law) f cdv A outer st0 H E).nox (defBody s_law) t ∧ t { nx := fun _ H' => Q .non H', rt := Q } (start nm_law vs) H := by
  obtain ⟨a, ns, rfl, hn, hS, hQ⟩ := hsp
  obtain ⟨t1, hturn, qturn⟩ := turn (f := f) (cdv := cdv) (outer := outer) (st0 := st0) (H := H) (E := E) T hr gd c__law_draw c__law_pick c__law_moment c__law_due c__law_same c__law_is_refused c_Yard_init c_Yard_put_file c_Yard_advance c_Yard_files c_TimedRotatingFileHandler_init c_TimedRotatingFileHandler_shouldRollover c_Yard_make_record_d2
  refine ⟨_, (pss_cons (ps_set (i := 1) sc_law.nd rfl (by first | exact Or.inl rfl | exact Or.inr rfl) (pe_lst (pa_cons (pe_callTy call_list_of (by rfl) T.b_list (by decide +kernel) (pa_cons (pv 0) pa_nil)) (pa_cons pe_int (pa_cons pe_int (pa_cons pe_int pa_nil))))))
      (pss_cons (ps_set (i := 2) sc_law.nd rfl (by first | exact Or.inl rfl | exact Or.inr rfl) (pe_lst (pa_cons pe_str (pa_cons pe_str (pa_cons pe_str (pa_cons pe_str (pa_cons pe_str (pa_cons pe_str (pa_cons pe_str (pa_cons pe_str (pa_cons pe_str (pa_cons pe_str (pa_cons pe_str (pa_cons pe_str pa_nil))))))))))))))
      (pss_cons (ps_for PassesOwn.never rfl (pi_range1 (by rfl) T.b_range (pa_cons pe_int pa_nil)) (pg_name (i := 3) sc_law.nd rfl (by first | exact Or.inl rfl | exact Or.inr rfl)) hturn)
      (pss_one (ps_ret pe_bl))))), ?_⟩
  walk_at "in"
  refine ⟨_, rfl, a, ns.map V.int, rfl, .inl hS, fun l hl => ⟨(by show 4 ≤ sizeLine; decide), fun s hs => ?_⟩⟩
  have st1 : Stm (upd (upd H l (.lst (ns.map V.int))) s (.lst [.ref l, .int 0, .int 0, .int 0])) s l 0 := by
    have n1 := (upd_none hs).1
    exact ⟨n1, ns, 0, 0, 0, upd_same, by rw [upd_ne (Ne.symm n1)]; exact upd_same, hn, by decide, by decide, by decide, by decide, by decide⟩
  generalize upd (upd H l (.lst (ns.map V.int))) s (.lst [.ref l, .int 0, .int 0, .int 0]) = H1 at st1
  have W0 : RS.Wd H1 s l 0 [] := ⟨st1, (fun c h => by cases h), .nil, (fun c h => by cases h)⟩
  clear st1 hs hl hS
  dsimp only [gName]
  refine seq_of (fun σ' H' => ∃ WH, RS.Wd H' s l 0 [RS.cell WH (.lst whL)] ∧ σ' = sgT a s WH [none, none, none, none, none, none, none, none, none, none, none, none, none, none, none]) (fun b' kb => ?_) (fun σ' H2 hm => ?_)
  · refine ⟨by show 12 ≤ sizeLine; decide, fun WH fWH => ?_⟩
    exact kb _ _ ⟨WH, W0.new fWH, rfl⟩
  obtain ⟨WH, W1, rfl⟩ := hm
  clear W0
  walk_at "go"
  refine for_it walk_range (fun i σ H' => ∃ n' o, n' ≤ 20 * i ∧ RS.Wd H' s l n' [RS.cell WH (.lst whL)] ∧ o.length = 15 ∧ σ = sgT a s WH o) ⟨0, _, Nat.le_refl _, W1, rfl, rfl⟩ (fun _ _ _ _ _ => trivial) (fun i x σ H11 H12 hi hP hx => ?_) (fun σ H12 hP => ?_)
  · obtain ⟨rfl, rfl⟩ := hx
    obtain ⟨n', o, hn', W4, hl, rfl⟩ := hP
    have hi : i < (12 : Int).toNat := hi
    have e12 : (12 : Int).toNat = 12 := rfl
    obtain ⟨o3, o4, o5, o6, o7, o8, o9, o10, o11, o12, o13, o14, o15, o16, o17, rfl⟩ : ∃ o3 o4 o5 o6 o7 o8 o9 o10 o11 o12 o13 o14 o15 o16 o17, o = [o3, o4, o5, o6, o7, o8, o9, o10, o11, o12, o13, o14, o15, o16, o17] := by
      match o, hl with
      | [a3, a4, a5, a6, a7, a8, a9, a10, a11, a12, a13, a14, a15, a16, a17], _ => exact ⟨_, _, _, _, _, _, _, _, _, _, _, _, _, _, _, rfl⟩
    refine qturn (n := n') H12 _ W4 (by omega) _ _ _ _ _ _ _ _ _ _ _ _ _ _ _ (fun σ' H' n2 h0 h1 h3 => ?_)
    obtain ⟨o', hl', rfl⟩ := h3
    exact ⟨n2, o', by omega, h1, hl', rfl⟩
  · obtain ⟨n', o, hn', W4, hl, rfl⟩ := hP
    walk_at "go"
    exact hQ _
theorem ok_make_record2 {f : Addr} (T : Txt P w K mg) (F : Stands K "make_record" "Yard.make_record" s_Yard_make_record [.ref (He.dflAt ("Yard", some "make_record") 0 K), .non] f)
    (c_Yard_level_of : Callable P w K mg base 2 (He.ma K (He.ga K "Yard") "level_of") ["self", "level"] [] (spLevelOf K)) (c_Yard_level_name : Callable P w K mg base 1 (He.ma K (He.ga K "Yard") "level_name") ["self", "level"] [] (spLevelName K))
    (c_LogRecord_init : Callable P w K mg base 4 (He.ma K (He.ga K "LogRecord") "__init__") ["self", "name", "levelno", "levelname", "msg", "args", "created", "extra"] [] (spRecInit K)) :
    Callable P w K mg base 6 f ["self", "name", "level", "msg", "args", "extra"] [.ref (He.dflAt ("Yard", some "make_record") 0 K), .non] (spMakeRecord K) := by
  have len : ∀ vs H Q E, spMakeRecord K vs H Q E → vs.length = 6 := fun vs H Q E h => by
    obtain ⟨y, dy, na, nu, a, fs, nms, nums, name, msg, lv, clk, xs, rfl, _⟩ := h; rfl
  exact F.call sc_Yard_make_record 4 0 len (fun cdv A outer s H vs Q E hr h => body_make_record T hr h c_Yard_level_of c_Yard_level_name c_LogRecord_init) (fun z => nomatch z) fun _ => ⟨rfl, fun _ _ _ _ _ _ _ us its hl hi => match us, hl, its, hi with | [_, _, _, _], _, [_, _], _ => ⟨_, rfl, rfl⟩⟩
theorem ok_yard_init2 {f : Addr} (T : Txt P w K mg) (F : Stands K "__init__" "Yard.__init__" s_Yard_init [.int 0] f)
    (c_Logger_init : Callable P w K mg base 2 (He.ma K (He.ga K "Logger") "__init__") ["self", "yard", "name", "level"] [] (spLoggerInit K))
    (c_StreamHandler_init_d1 : Callable P w K mg base 3 (He.ma K (He.ga K "StreamHandler") "__init__") ["self", "yard", "stream"] [.str "stderr"] (spStreamInit K)) : Callable P w K mg base 5 f ["self", "now"] [] (spYardInit K) :=
  F.call sc_Yard_init 2 1 len_yard_init (fun cdv A outer s H vs Q E hr h => body_yard_init T hr h c_Logger_init c_StreamHandler_init_d1) (fun z => nomatch z) fun _ => ⟨rfl, fun _ _ _ _ _ _ _ us its hl hi => match us, hl, its, hi with | [_, _], _, [_], _ => ⟨_, rfl, rfl⟩⟩
end
end K17

set_option Elab.async false
set_option linter.all false
set_option maxRecDepth 100000
set_option maxHeartbeats 0
namespace K17
open PySem PySem.Spec PyProof.Rows L2 RC
section
variable {P : Program} {w : World} {K : PySem.W.Frag} {mg : Str → Option Value} {base : Heap}
/-! ### all together -/
theorem ok_law {f : Addr} {fd : FuncData} (T : Txt P w K mg) (F : FunD K "law" "law" (defArgs s_law) (defBody s_law) (defScope s_law) [] [] f fd) : RGd.FnG P w K mg base CX0 15 f fd ["_law_script"] (spLaw K) := by
  have c__law_draw := ok_draw (base := base) T T.d__law_draw
  have c__law_pick := ok_pick (base := base) T T.d__law_pick c__law_draw
  have c__law_moment := ok_moment (base := base) T T.d__law_moment c__law_draw c__law_pick
  have c__law_due := ok_due (base := base) T T.d__law_due
  have c__law_same := ok_same (base := base) T T.d__law_same rfl 4
  have c_Filterer_init := ok_filterer_init (base := base) T T.d_Filterer_init
  have c_Logger_init := ok_logger_init (base := base) T T.d_Logger_init c_Filterer_init
  have c_Yard_enrol := ok_enrol (base := base) T T.d_Yard_enrol
  have c_Handler_init := ok_handler_init (base := base) T T.d_Handler_init c_Filterer_init c_Yard_enrol
  have c_StreamHandler_init_d1 := ok_stream_init (base := base) T T.d_StreamHandler_init c_Handler_init
  have c_Yard_init := ok_yard_init2 (base := base) T T.d_Yard_init c_Logger_init c_StreamHandler_init_d1
  have c_BadWhen_init := ok_badwhen_init (base := base) T T.d_BadWhen_init
  have x_checked_when := ok_checkx (base := base) T T.d_checked_when c_BadWhen_init
  have c_Yard_has_file := ok_has (base := base) T T.d_Yard_has_file
  have c_Yard_put_file := ok_put (base := base) T T.d_Yard_put_file
  have c_Yard_make_file := ok_makef (base := base) T T.d_Yard_make_file c_Yard_put_file
  have c_TimedRotatingFileHandler_open_file := ok_open (base := base) T T.d_TimedRotatingFileHandler_open_file c_Yard_has_file c_Yard_make_file
  have c_FileHandler_init := ok_file_init (base := base) T T.d_FileHandler_init c_Handler_init c_TimedRotatingFileHandler_open_file
  have c_Yard_file_time := ok_ftime (base := base) T T.d_Yard_file_time
  have c_Yard_now := ok_now (base := base) T T.d_Yard_now
  have c_TimedRotatingFileHandler_span := ok_span (base := base) T T.d_TimedRotatingFileHandler_span
  have c_TimedRotatingFileHandler_next_of := ok_next_of (base := base) T T.d_TimedRotatingFileHandler_next_of c_TimedRotatingFileHandler_span
  have c_TimedRotatingFileHandler_init_d3 := ok_timx3 (base := base) T T.d_TimedRotatingFileHandler_init x_checked_when c_FileHandler_init c_Yard_has_file c_Yard_file_time c_Yard_now c_TimedRotatingFileHandler_next_of
  have c_Yard_file_text := ok_file_text (base := base) T T.d_Yard_file_text
  have c_Yard_files := ok_files (base := base) T T.d_Yard_files c_Yard_file_text
  have c_Yard_shutdown := ok_shut0 (base := base) T T.d_Yard_shutdown
  have c__law_is_refused := ok_refused (base := base) T T.d__law_is_refused c__law_pick c_Yard_init c_TimedRotatingFileHandler_init_d3 c_Yard_files c_Yard_shutdown
  have c_Yard_advance := ok_adv (base := base) T T.d_Yard_advance
  have c_checked_when := ok_checked (base := base) T T.d_checked_when
  have c_TimedRotatingFileHandler_init := ok_tim_init (base := base) T T.d_TimedRotatingFileHandler_init c_FileHandler_init c_checked_when c_Yard_has_file c_Yard_file_time c_Yard_now c_TimedRotatingFileHandler_next_of
  have c_TimedRotatingFileHandler_shouldRollover := ok_should (base := base) T T.d_TimedRotatingFileHandler_shouldRollover c_Yard_now
  have c_is_integer := ok_is_integer (base := base) T T.d_is_integer
  have c_Yard_level_of := ok_level_of (base := base) T T.d_Yard_level_of c_is_integer
  have c_Yard_level_name := ok_level_name (base := base) T T.d_Yard_level_name
  have c_copied_value := ok_copied (base := base) T T.d_copied_value rfl 2
  have c_LogRecord_init := ok_rec_init (base := base) T T.d_LogRecord_init c_copied_value
  have c_Yard_make_record_d2 := ok_make_record2 (base := base) T T.d_Yard_make_record c_Yard_level_of c_Yard_level_name c_LogRecord_init
  refine RGd.fnG F sc_law (fun vs H Q E h => ?_) (fun cdv A outer s H vs Q E hr gd hsp => ?_)
  · obtain ⟨a, ns, rfl, _⟩ := h; rfl
  obtain ⟨t, h, q⟩ := law_body T hr gd hsp c__law_draw c__law_pick c__law_moment c__law_due c__law_same c__law_is_refused c_Yard_init c_Yard_put_file c_Yard_advance c_Yard_files c_TimedRotatingFileHandler_init c_TimedRotatingFileHandler_shouldRollover c_Yard_make_record_d2
  exact ⟨t, h.nox, q⟩
theorem facts {f : Addr} {h : Heap} (X : K.In h) (G : h.Ns mainGlobals mg) (hfa : mg ("law" : Str) = some (.ref f)) (c : RB.SaysB fa fx fn ts w K) :
    ∃ fd : FuncData, (∀ (s : Shared) (v : Value), BindsTo s fd ⟨[v], []⟩ [("_law_script", v)]) ∧ ∀ base : Heap, RGd.FnG P w K mg base CX0 15 f fd ["_law_script"] (spLaw K) := by
  have T : Txt P w K mg := Txt.of X G c
  obtain ⟨fd, F⟩ := T.d_law
  have e := hfa.symm.trans T.g_law
  cases e
  have b := FunD.bindsA (ps := ["_law_script"]) F fun _ _ _ _ _ _ us hl => match us, hl with | [_], _ => rfl
  exact ⟨fd, fun s v => b s [v] rfl, fun base => ok_law T F⟩
end
end K17
open PySem PySem.W PySem.Calls PyProof.Rows
set_option maxHeartbeats 0
theorem PySem.Challenge.cw_recordyard_k44_ends_of_times_holds : PySem.Challenge.rw_recordyard_k44_ends_of_times.Holds := by
  w_on; o_law
  refine HandSHeadRun.head_any (r := OpenLaw.row PySem.Challenge.rw_recordyard_k44_ends_of_times) (q := view (OpenLaw.row PySem.Challenge.rw_recordyard_k44_ends_of_times).prog [65]) (H := K17.hk) (ob := K17.ob) (M := 15000) (loose := K17.names) (d := HandSHeadRun.topDef (OpenLaw.row PySem.Challenge.rw_recordyard_k44_ends_of_times).prog 65) (kwd := []) K17.ob_eq
    (by kernel_rfl) (fun s => by kernel_rfl) K17.run (by kernel_rfl) (by kernel_rfl) (by kernel_rfl) (by rfl) (by first | assumption | decide +kernel) (by decide +kernel) ⟨rfl, rfl, rfl, rfl, rfl, by decide +kernel⟩ ?hw ?hc
  case hw => w_witness2
  case hc =>
    refine RGd.walk_ofG (l := PySem.Challenge.rw_recordyard_k44_ends_of_times) (n := 63) (k := 15) (x := "_law_script") rfl (by decide) (by kernel_rfl) ⟨rfl, by decide, by decide⟩ ?F
    intro w mg fa h Y G hmg0
    obtain ⟨K, KX, c⟩ := Y
    have hmg : mg ("law" : PySem.Str) = some (.ref fa) := by
      have e : (HandSHeadRun.topDef (OpenLaw.row PySem.Challenge.rw_recordyard_k44_ends_of_times).prog 65).name = ("law" : PySem.Str) := by kernel_rfl
      rw [← e]
      exact hmg0
    obtain ⟨fd, hb, hF⟩ := K17.facts (P := (PySem.Challenge.rw_recordyard_k44_ends_of_times).prog) (w := w) KX G hmg c
    exact ⟨K, fd, K17.spLaw K, KX, hb, fun H a ns hl _ hS => ⟨a, ns, rfl, hl, hS, fun _ => rfl⟩, fun base _ _ => hF base⟩
