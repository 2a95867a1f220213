import PyProof.Rows.All
import Wide.All
import OpenK.AllK
import Wide.FinOn
import PyProof.EqAt
import PyProof.EqKinds
import PyProof.TupleCall
import HandS.Base
import HandS.Call
import HandS.List
import HandS.Dict
import HandS.More
import HandS.Slots
import HandS.ClsMeth
import KE.KStateDown
import HandS.Exc
import HandS.IsInst
import HandS.Defaults
import HandS.HeadHook1
import HandS.HeadHook2
import HandS.Head0
import HandS.Head1
import HandS.Head2
import HandS.HeadEnd
import HandS.ExcInit
import HandS.ExcField
import HandS.ForMost
import HandS.Walk
import PyProof.NeKinds
import PyProof.StrBlock2
import HandS.Sort
import HandS.Text
import PyProof.DictUpdate
import HandS.Iter
import HandS.Conv
import HandS.Flow
import HandS.Style
import HandS.Steps
import HandS.ExcOwn
import HandS.TryMany
import HandS.CallSlots
import HandS.Replace
import HandS.ReplaceLit
import HandS.ReplaceDef
import PyProof.ListStr
import HandS.ReplaceList
import HandS.Zip
import HandS.StrMore
import PySem.Challenge.RW_recordyard_k08_formats_in_braces_refused
set_option Elab.async false
set_option linter.all false
set_option maxRecDepth 100000
set_option maxHeartbeats 4000000
/-! Rules beyond the layer: == and != of instances of classes without an own __eq__ (by identity), in and not in over lists of such, a def read off its class. -/
namespace RA
open PySem PySem.Spec PyProof.Rows PySem.SeqAt
/-- a class whose instances are equal by identity -/
structure PlainC (K : PySem.W.Frag) (C : Addr) : Prop where
  mro : PySem.W.mroIn K C (.type "object") = some true
  eq : PySem.W.findIn K (.ref C) "__eq__" = some (some (.builtin "object.__eq__"))
  ne : PySem.W.findIn K (.ref C) "__ne__" = some (some (.builtin "object.__ne__"))
def PairC (K : PySem.W.Frag) (C D : Addr) : Prop := C = D ∨ ∃ b, PySem.W.subIn K (.ref D) (.ref C) = some b
section
variable {M : Model} {prog : Program} {w : World} {A : Around} {E : Value → Shared → Prop} {s : Shared} {K : PySem.W.Frag} {x y C D : Addr} {ox oy : Obj} {od od' : Option Obj}
theorem inst_get (I : PySem.W.InstAt s.heap x ox C od) : s.heap.get? x = some ox := I.at_
theorem inst_notup (I : PySem.W.InstAt s.heap x ox C od) : ox.cls ≠ .type "tuple" := by
  rw [I.cls]; intro z; cases z
theorem eq_same {Q : Value → Shared → Prop} (X : K.In s.heap) (I : PySem.W.InstAt s.heap x ox C od) (hm : PySem.W.mroIn K C (.type "object") = some true) (hq : Q (.bool true) s) :
    wpAny (model prog w) A (call (.builtin "object.__eq__") [.ref x, .ref x]) Q E s :=
  wpAny_call (codeAny_call_builtin F.cmp_object.eq.plain F.cmpEntry_eq (PySem.W.check_slot F.cmpKind_eq F.cmpSplit_eq (I.type.andThen (PySem.W.looks_mroIn X hm)) (F.cmpArgs_eq _ _) (objEq_entry_same hq)))
theorem eq_other {Q : Value → Shared → Prop} (X : K.In s.heap) (I : PySem.W.InstAt s.heap x ox C od) (hm : PySem.W.mroIn K C (.type "object") = some true) (hy : s.heap.get? y = some oy) (hxy : x ≠ y) (hq : Q .notImplemented s) :
    wpAny (model prog w) A (call (.builtin "object.__eq__") [.ref x, .ref y]) Q E s :=
  wpAny_call (codeAny_call_builtin F.cmp_object.eq.plain F.cmpEntry_eq (PySem.W.check_slot F.cmpKind_eq F.cmpSplit_eq (I.type.andThen (PySem.W.looks_mroIn X hm)) (F.cmpArgs_eq _ _) (objEq_entry_other hxy (inst_get I) hy (inst_notup I) hq)))
theorem ifB_ne {args : List Value} {Q : Option Value → Shared → Prop} (X : K.In s.heap) (I : PySem.W.InstAt s.heap x ox C od) (hs : PySem.W.findIn K (.ref C) "__ne__" = some (some (.builtin "object.__ne__")))
    (h : wpAny M A (call (.builtin "object.__ne__") (.ref x :: args)) (fun v => Q (some v)) E s) : wpAny M A (callSpecialIfBound? (.ref x) "__ne__" args) Q E s := by
  simp only [callSpecialIfBound?, bindSpecialIfBound?]
  refine wpAny_holding (wpAny_bind (wpAny_bind (wpAny_bind (I.type.here ((PySem.W.looks_findIn X hs).here ?_)))))
  refine wpAny_bind (wpAny_askSetting (wpAny_ite ?_))
  have fin : wpAny M A (call (.builtin "object.__ne__") ([.ref x] ++ args) >>= fun v => pure (some v)) Q E s := wpAny_bind (wpAny_mono h (fun v s' h' => wpAny_pure h') fun _ _ h' => h')
  split
  · exact wpAny_bind (wpAny_of_eq (F.cmp_object.ne.bind _) (wpAny_pure (by exact fin)))
  · exact wpAny_tryCatch (wpAny_bind (wpAny_of_eq (F.cmp_object.ne.bind _) (wpAny_pure (by exact fin))))
theorem ne_entry_same {Q : Fin → Shared → Prop} (X : K.In s.heap) (I : PySem.W.InstAt s.heap x ox C od) (P : PlainC K C) (hu : A.units < cLine) (hq : Q (.done (.ret (.bool false))) s) :
    wpAny (model prog w) A (Builtin.«object.__ne__» ⟨[.ref x, .ref x], []⟩) Q E s := by
  unfold Builtin.«object.__ne__»
  repeat (first | with_reducible refine wpAny_cRoomFor hu ?_ | with_reducible refine HN.ifBound_objEq X I P.eq (eq_same X I P.mro ?_) | wp_step)
  exact hq
theorem ne_entry_other {Q : Fin → Shared → Prop} (X : K.In s.heap) (I : PySem.W.InstAt s.heap x ox C od) (P : PlainC K C) (hy : s.heap.get? y = some oy) (hxy : x ≠ y) (hu : A.units < cLine) (hq : Q (.done (.ret .notImplemented)) s) :
    wpAny (model prog w) A (Builtin.«object.__ne__» ⟨[.ref x, .ref y], []⟩) Q E s := by
  unfold Builtin.«object.__ne__»
  repeat (first | with_reducible refine wpAny_cRoomFor hu ?_ | with_reducible refine HN.ifBound_objEq X I P.eq (eq_other X I P.mro hy hxy ?_) | wp_step)
  exact hq
theorem try_eq_same {Q : Option Value → Shared → Prop} (X : K.In s.heap) (I : PySem.W.InstAt s.heap x ox C od) (P : PlainC K C) (h : Q (some (.bool true)) s) : wpAny (model prog w) A (tryCompare (.ref x) "__eq__" (.ref x)) Q E s := by
  unfold tryCompare
  exact wpAny_bind (HN.ifBound_objEq X I P.eq (eq_same X I P.mro (wpAny_pure h)))
theorem try_eq_other {Q : Option Value → Shared → Prop} (X : K.In s.heap) (I : PySem.W.InstAt s.heap x ox C od) (P : PlainC K C) (hy : s.heap.get? y = some oy) (hxy : x ≠ y) (h : Q none s) : wpAny (model prog w) A (tryCompare (.ref x) "__eq__" (.ref y)) Q E s := by
  unfold tryCompare
  exact wpAny_bind (HN.ifBound_objEq X I P.eq (eq_other X I P.mro hy hxy (wpAny_pure h)))
theorem try_ne_same {Q : Option Value → Shared → Prop} (hu : A.units + 1 < cLine) (X : K.In s.heap) (I : PySem.W.InstAt s.heap x ox C od) (P : PlainC K C) (h : Q (some (.bool false)) s) : wpAny (model prog w) A (tryCompare (.ref x) "__ne__" (.ref x)) Q E s := by
  unfold tryCompare
  refine wpAny_bind (ifB_ne X I P.ne (wpAny_call (codeAny_call_builtin F.cmp_object.ne.plain F.cmpEntry_ne (PySem.W.check_slot F.cmpKind_ne F.cmpSplit_ne (I.type.andThen (PySem.W.looks_mroIn X P.mro)) (F.cmpArgs_ne _ _) (ne_entry_same (A := A.in1) X I P hu ?_)))))
  exact wpAny_pure h
theorem try_ne_other {Q : Option Value → Shared → Prop} (hu : A.units + 1 < cLine) (X : K.In s.heap) (I : PySem.W.InstAt s.heap x ox C od) (P : PlainC K C) (hy : s.heap.get? y = some oy) (hxy : x ≠ y) (h : Q none s) : wpAny (model prog w) A (tryCompare (.ref x) "__ne__" (.ref y)) Q E s := by
  unfold tryCompare
  refine wpAny_bind (ifB_ne X I P.ne (wpAny_call (codeAny_call_builtin F.cmp_object.ne.plain F.cmpEntry_ne (PySem.W.check_slot F.cmpKind_ne F.cmpSplit_ne (I.type.andThen (PySem.W.looks_mroIn X P.mro)) (F.cmpArgs_ne _ _) (ne_entry_other (A := A.in1) X I P hy hxy hu ?_)))))
  exact wpAny_pure h
theorem rc_same (hu : A.units < cLine) (X : K.In s.heap) (I : PySem.W.InstAt s.heap x ox C od) (P : PlainC K C) : RcAt A s (.ref x) (.ref x) true := fun prog w E Q h => by
  simp only [richCompare, cmpInfo_Eq, oneThing_ref]
  refine wpAny_holding (wpAny_bind (wpAny_cRoomFor hu ?_))
  refine wpAny_bind (I.type.here (wpAny_bind (I.type.here ?_)))
  rw [if_neg (by simp)]
  refine wpAny_bind (wpAny_pure ?_)
  simp only [Bool.false_eq_true, if_false]
  exact wpAny_bind (try_eq_same X I P (wpAny_pure h))
theorem rcn_same (hu : A.units + 1 < cLine) (X : K.In s.heap) (I : PySem.W.InstAt s.heap x ox C od) (P : PlainC K C) {Q : Value → Shared → Prop} (h : Q (.bool false) s) : wpAny (model prog w) A (richCompare .NotEq (.ref x) (.ref x)) Q E s := by
  simp only [richCompare, cmpInfo_NotEq, oneThing_ref]
  refine wpAny_holding (wpAny_bind (wpAny_cRoomFor (Nat.lt_of_succ_lt hu) ?_))
  refine wpAny_bind (I.type.here (wpAny_bind (I.type.here ?_)))
  rw [if_neg (by simp)]
  refine wpAny_bind (wpAny_pure ?_)
  simp only [Bool.false_eq_true, if_false]
  exact wpAny_bind (try_ne_same hu X I P (wpAny_pure h))
theorem rc_other (hu : A.units < cLine) (X : K.In s.heap) (I : PySem.W.InstAt s.heap x ox C od) (J : PySem.W.InstAt s.heap y oy D od') (P : PlainC K C) (P' : PlainC K D) (hp : PairC K C D) (hxy : x ≠ y) : RcAt A s (.ref x) (.ref y) false := fun prog w E Q h => by
  have fin : ∀ (tag : String), wpAny (model prog w) A (rule tag >>= fun _ => isSame (.ref x) (.ref y) >>= fun b => pure (Value.bool b)) Q E s := fun tag =>
    wpAny_bind (wpAny_rule (wpAny_bind (wpAny_isSame_ref_other hxy (inst_get I) (inst_get J) (inst_notup I) (wpAny_pure h))))
  simp only [richCompare, cmpInfo_Eq, oneThing_ref]
  refine wpAny_holding (wpAny_bind (wpAny_cRoomFor hu ?_))
  refine wpAny_bind (I.type.here (wpAny_bind (J.type.here ?_)))
  by_cases hCD : C = D
  · subst hCD
    rw [if_neg (by simp)]
    refine wpAny_bind (wpAny_pure ?_)
    simp only [Bool.false_eq_true, if_false, Bool.not_false, if_true]
    refine wpAny_bind (try_eq_other X I P (inst_get J) hxy ?_)
    refine wpAny_bind (try_eq_other X J P' (inst_get I) (Ne.symm hxy) ?_)
    exact fin _
  · rw [if_pos (by simp [hCD])]
    obtain ⟨b, hb⟩ := hp.resolve_left hCD
    refine wpAny_bind ((PySem.W.looks_subIn X hb).here ?_)
    cases b with
    | false =>
      simp only [Bool.false_eq_true, if_false, Bool.not_false, if_true]
      refine wpAny_bind (try_eq_other X I P (inst_get J) hxy ?_)
      refine wpAny_bind (try_eq_other X J P' (inst_get I) (Ne.symm hxy) ?_)
      exact fin _
    | true =>
      simp only [Bool.not_true, Bool.false_eq_true, if_false, if_true]
      refine wpAny_bind (try_eq_other X J P' (inst_get I) (Ne.symm hxy) ?_)
      refine wpAny_bind (try_eq_other X I P (inst_get J) hxy ?_)
      exact fin _
theorem rcn_other (hu : A.units + 1 < cLine) (X : K.In s.heap) (I : PySem.W.InstAt s.heap x ox C od) (J : PySem.W.InstAt s.heap y oy D od') (P : PlainC K C) (P' : PlainC K D) (hp : PairC K C D) (hxy : x ≠ y) {Q : Value → Shared → Prop} (h : Q (.bool true) s) :
    wpAny (model prog w) A (richCompare .NotEq (.ref x) (.ref y)) Q E s := by
  have fin : ∀ (tag : String), wpAny (model prog w) A (rule tag >>= fun _ => isSame (.ref x) (.ref y) >>= fun b => pure (Value.bool (!b))) Q E s := fun tag =>
    wpAny_bind (wpAny_rule (wpAny_bind (wpAny_isSame_ref_other hxy (inst_get I) (inst_get J) (inst_notup I) (wpAny_pure h))))
  simp only [richCompare, cmpInfo_NotEq, oneThing_ref]
  refine wpAny_holding (wpAny_bind (wpAny_cRoomFor (Nat.lt_of_succ_lt hu) ?_))
  refine wpAny_bind (I.type.here (wpAny_bind (J.type.here ?_)))
  by_cases hCD : C = D
  · subst hCD
    rw [if_neg (by simp)]
    refine wpAny_bind (wpAny_pure ?_)
    simp only [Bool.false_eq_true, if_false, Bool.not_false, if_true]
    refine wpAny_bind (try_ne_other hu X I P (inst_get J) hxy ?_)
    refine wpAny_bind (try_ne_other hu X J P' (inst_get I) (Ne.symm hxy) ?_)
    exact fin _
  · rw [if_pos (by simp [hCD])]
    obtain ⟨b, hb⟩ := hp.resolve_left hCD
    refine wpAny_bind ((PySem.W.looks_subIn X hb).here ?_)
    cases b with
    | false =>
      simp only [Bool.false_eq_true, if_false, Bool.not_false, if_true]
      refine wpAny_bind (try_ne_other hu X I P (inst_get J) hxy ?_)
      refine wpAny_bind (try_ne_other hu X J P' (inst_get I) (Ne.symm hxy) ?_)
      exact fin _
    | true =>
      simp only [Bool.not_true, Bool.false_eq_true, if_false, if_true]
      refine wpAny_bind (try_ne_other hu X J P' (inst_get I) (Ne.symm hxy) ?_)
      refine wpAny_bind (try_ne_other hu X I P (inst_get J) hxy ?_)
      exact fin _
end
end RA
namespace RA
open PySem PySem.Spec PyProof.Rows PySem.SeqAt L2
/-- an instance of a plain class stands there -/
def InsP (K : PySem.W.Frag) (H : Hp) (a C : Addr) : Prop := (∃ dx fs, H a = some (.ins C dx fs)) ∧ PlainC K C
theorem InsP.of {K : PySem.W.Frag} {H : Hp} {a C dx : Addr} {fs : List (Str × V)} (h : H a = some (.ins C dx fs)) (p : PlainC K C) : InsP K H a C := ⟨⟨dx, fs, h⟩, p⟩
section
variable {X : Cx} {pins : List (Addr × Obj)} {σ : L2.St} {H : Hp} {s : Shared}
theorem insp_at {a C : Addr} (I : Inv X pins σ H s) (h : InsP X.K H a C) : ∃ ox od, PySem.W.InstAt s.heap a ox C od := by
  obtain ⟨⟨dx, fs, ha⟩, _⟩ := h
  obtain ⟨mA, O, _⟩ := ins_get I.hok ha
  obtain ⟨od, J, _⟩ := O.look
  exact ⟨_, _, J⟩
/-- x == y: y an instance, None, or a number, a text, a truth -/
def rEqP (K : PySem.W.Frag) : R2 := fun x y H Q => ∃ a C, x = .ref a ∧ InsP K H a C ∧ ((y = .non ∧ Q (.bl false) H) ∨ ∃ b D, y = .ref b ∧ InsP K H b D ∧ PairC K C D ∧ Q (.bl (decide (a = b))) H)
def rNeP (K : PySem.W.Frag) : R2 := fun x y H Q => ∃ a C b D, x = .ref a ∧ InsP K H a C ∧ y = .ref b ∧ InsP K H b D ∧ PairC K C D ∧ Q (.bl (!decide (a = b))) H
theorem op_eqP (hu : X.A.units < cLine) : OpR X (compareOp .Eq) (rEqP X.K) := by
  intro pins s σ H x y v u Q I rx ry h
  obtain ⟨a, C, rfl, ha, h⟩ := h
  cases rx
  obtain ⟨ox, od, Ia⟩ := insp_at I ha
  rcases h with ⟨rfl, q⟩ | ⟨b, D, rfl, hb, hp, q⟩
  · cases ry
    exact HN.rc_none hu I.kIn Ia ha.2.mro ha.2.eq _ _ _ _ (fin_bl I q rfl)
  · cases ry
    obtain ⟨oy, od', Ib⟩ := insp_at I hb
    by_cases z : a = b
    · subst z
      have e : C = D := by
        have h1 := Ia.cls.symm.trans ((congrArg Obj.cls (Option.some.inj (Ia.at_.symm.trans Ib.at_))).trans Ib.cls)
        exact Value.ref.inj h1
      subst e
      exact rc_same hu I.kIn Ia ha.2 _ _ _ _ (fin_bl I q (by simp))
    · exact rc_other hu I.kIn Ia Ib ha.2 hb.2 hp z _ _ _ _ (fin_bl I q (by simp [z]))
theorem op_neP (hu : X.A.units + 1 < cLine) : OpR X (compareOp .NotEq) (rNeP X.K) := by
  intro pins s σ H x y v u Q I rx ry h
  obtain ⟨a, C, b, D, rfl, ha, rfl, hb, hp, q⟩ := h
  cases rx
  cases ry
  obtain ⟨ox, od, Ia⟩ := insp_at I ha
  obtain ⟨oy, od', Ib⟩ := insp_at I hb
  by_cases z : a = b
  · subst z
    exact rcn_same hu I.kIn Ia ha.2 (fin_bl I q (by simp))
  · exact rcn_other hu I.kIn Ia Ib ha.2 hb.2 hp z (fin_bl I q (by simp [z]))
/-- x in l: x an instance, the items instances -/
def rInP (K : PySem.W.Frag) (neg : Bool) : R2 := fun x y H Q => ∃ (a C p : Addr) (as : List Addr), x = .ref a ∧ InsP K H a C ∧ y = .ref p ∧ SqL K H p (as.map V.ref) ∧ (∀ b ∈ as, ∃ D, InsP K H b D ∧ PairC K D C) ∧ Q (.bl (if neg then !decide (a ∈ as) else decide (a ∈ as))) H
theorem eqAt_ref {A : Around} {a b C D : Addr} (I : Inv X pins σ H s) (hu : A.units < cLine) (ha : InsP X.K H a C) (hb : InsP X.K H b D) (hp : PairC X.K D C) : EqAt A s (.ref b) (.ref a) (decide (b = a)) := by
  by_cases z : b = a
  · subst z
    rw [decide_eq_true rfl]
    exact EqAt.same _
  · rw [decide_eq_false z]
    obtain ⟨ox, od, Ia⟩ := insp_at I ha
    obtain ⟨oy, od', Ib⟩ := insp_at I hb
    intro prog w E Q h
    unfold eqBool
    refine wpAny_holding ?_
    refine wpAny_ite_split (fun hab => absurd (eq_of_beq hab) (fun e => z (Value.ref.inj e))) (fun _ => ?_)
    exact wpAny_bind (rc_other hu I.kIn Ib Ia hb.2 ha.2 hp z prog w E _ (wpAny_truthy_bool h))
theorem any_refs {a : Addr} : ∀ {as : List Addr} {us : List Value}, Vals (as.map V.ref) us → us.any (fun u => u == .ref a) = decide (a ∈ as)
  | [], _, .nil => by simp
  | b :: as, u :: us, .cons r t => by
    cases (show u = Value.ref b from r)
    rw [List.any_cons, any_refs t]
    by_cases z : b = a
    · subst z; simp
    · have z' : ¬ a = b := fun e => z e.symm
      simp [z, z']
theorem mem_refs {A : Around} {a C : Addr} (I : Inv X pins σ H s) (hu : A.units < cLine) (ha : InsP X.K H a C) : ∀ {as : List Addr} {us : List Value}, Vals (as.map V.ref) us → (∀ b ∈ as, ∃ D, InsP X.K H b D ∧ PairC X.K D C) → ∀ u ∈ us, EqAt A s u (.ref a) (u == .ref a)
  | [], _, .nil, _ => fun u hu' => by cases hu'
  | b :: as, u :: us, .cons r t, f => fun u' hu' => by
    rcases List.mem_cons.mp hu' with e | hu'
    · subst e
      cases (show u' = Value.ref b from r)
      obtain ⟨D, hb, hp⟩ := f b (List.mem_cons_self ..)
      have e2 : (Value.ref b == Value.ref a) = decide (b = a) := by
        by_cases z : b = a <;> simp [z]
      rw [e2]
      exact eqAt_ref I hu ha hb hp
    · exact mem_refs I hu ha t (fun z hz => f z (List.mem_cons_of_mem _ hz)) u' hu'
theorem op_inP (hu : X.A.units + 64 < cLine) : OpR X (compareOp .In) (rInP X.K false) := by
  intro pins s σ H x y v u Q I rx ry h
  obtain ⟨a, C, p, as, rfl, ha, rfl, hq, f, q⟩ := h
  cases rx
  cases ry
  obtain ⟨its, rv, hl, _⟩ := I.list hq
  have hu1 : X.A.in1.units < cLine := by show X.A.units + 1 < cLine; omega
  refine SeqAt.in_listAt (fun u => u == .ref a) hl.isList (fun z hz => mem_refs I hu1 ha rv f z (by simpa using hz)) ⟨.bl _, H, I, rfl, ?_⟩
  rw [show its.toArray.any (fun u => u == .ref a) = its.any (fun u => u == .ref a) by simp, any_refs rv]
  exact q
theorem op_notInP (hu : X.A.units + 64 < cLine) : OpR X (compareOp .NotIn) (rInP X.K true) := by
  intro pins s σ H x y v u Q I rx ry h
  obtain ⟨a, C, p, as, rfl, ha, rfl, hq, f, q⟩ := h
  cases rx
  cases ry
  obtain ⟨its, rv, hl, _⟩ := I.list hq
  have hu1 : X.A.in1.units < cLine := by show X.A.units + 1 < cLine; omega
  refine SeqAt.notIn_listAt (fun u => u == .ref a) hl.isList (fun z hz => mem_refs I hu1 ha rv f z (by simpa using hz)) ⟨.bl _, H, I, rfl, ?_⟩
  rw [show its.toArray.any (fun u => u == .ref a) = its.any (fun u => u == .ref a) by simp, any_refs rv]
  exact q
/-! ### a def read off its class: C.m(x, ..) -/
structure CFun (K : PySem.W.Frag) (C : Addr) (m : Str) (f : Addr) : Prop where
  ga : PySem.W.specialIn K (.ref C) "__getattribute__" = some (some (.builtin "type.__getattribute__"))
  rd : PySem.W.readsIn K C (.type "type") = true
  at_ : PySem.W.findCls K (.ref C) (.type "type") m = some (.val (.ref f))
  kp : PySem.W.keepIn K (.ref f) = true
def tCFun (C : Addr) (sp : Sp) (dvs : List V) (E : XK) (ta : TE) (t : TA) : TE := fun σ H Q => ta σ H fun x H1 => x = .ref C ∧ t σ H1 fun vs H2 => sp (vs ++ dvs) H2 Q E
theorem pe_cfun {CX : CXT} {k : Nat} {C f : Addr} {fd : FuncData} {ps : List Str} {sp : Sp} {dvs : List V} {ds : List Value} {E : XK} {o e : Expr} {es : List Expr} {m : Str} {pos apos : Pos} {ta : TE} {t : TA} {pl : Sem Bool}
    (he : PE X o ta) (c : CFun X.K C m f) (F : FnOk X.prog X.w X.K X.mg X.base CX k f fd ps sp) (hr : Room k X.A) (hb : Binds X.K fd ps ds) (hd : Vals dvs ds) (hx : Passes CX X E) (ha : PA X (e :: es) t)
    (hst : starEach (e :: es) X.env = (false, eval e X.env) :: starEach es X.env := by rfl) (hpl : (backTo pos (starEach es X.env)).any (·.1) = false := by rfl)
    (ht : eval (.Call (.Attribute o m apos) (e :: es) [] pos) X.env = (do
      let ov ← eval o X.env
      standAt apos.atName
      let (f, first) ← holding [ov] (getMethod ov m pl)
      callWith pos f first (backTo pos (starEach (e :: es) X.env)) (backToKw pos (keywordEach [] X.env))) := by rfl) :
    PE X (.Call (.Attribute o m apos) (e :: es) [] pos) (tCFun C sp dvs E ta t) := by
  refine ⟨fun pins s σ H Q I h => ?_⟩
  refine PySem.W.methodCall_KW (pl := pl) (thn (he.run pins s σ H _ I h) fun u s1 ⟨x, H1, I1, rx, ex, q⟩ => ?_) ht
  subst ex
  obtain rfl : u = Value.ref C := rx
  refine PySem.W.method_cls I1.kIn c.ga (PySem.W.cls_value I1.kIn c.rd c.at_ (handed_of (v := .ref f) rfl) ?_)
  have I2 := I1.tok (s1.toks + 1)
  refine PySem.W.callWith_K (first := []) (h₀ := X.base) I2.ok.mod.kin c.kp (thn (ha.run pos pins _ σ H1 _ I2 q) fun us s2 ⟨vs, H2, I3, r, q2⟩ => ⟨I3.kIn, ?_⟩) hst hpl
  exact run_fn F hr hb hd hx I3 r q2
/-! ### one of two rules -/
theorem PE.or {e : Expr} {t t' : TE} (h : PE X e t) (h' : PE X e t') : PE X e (fun σ H Q => t σ H Q ∨ t' σ H Q) := ⟨fun pins s σ H Q I q => by
  rcases q with q | q
  · exact h.run pins s σ H Q I q
  · exact h'.run pins s σ H Q I q⟩
/-- any of many rules for one expression -/
theorem PE.any {ι : Type} {e : Expr} {t : ι → TE} (S : ι → Prop) (h : ∀ i, S i → PE X e (t i)) : PE X e (fun σ H Q => ∃ i, S i ∧ t i σ H Q) := ⟨fun pins s σ H Q I ⟨i, hi, q⟩ => (h i hi).run pins s σ H Q I q⟩
end
end RA

set_option Elab.async false
set_option linter.all false
set_option maxRecDepth 100000
set_option maxHeartbeats 4000000
/-! The head's facts: He.Fa and He.DefD, further facts of classes, dicts of the top with their items. -/
namespace RB
open PySem PySem.Spec PyProof.Rows L2 He
/-- what isinstance asks of a value's own class -/
structure TyC (K : PySem.W.Frag) (C : Addr) : Prop where
  ha : PySem.W.findIn K (.ref C) "__class__" = some (some (.builtin "object.__class__"))
  hn : PySem.W.specialIn K (.builtin "object.__class__") "__get__" = some (some (.builtin "getset_descriptor.__get__"))
  ht : PySem.W.takesIn K (.builtin "object.__class__") = some true
  hm : PySem.W.mroIn K C (.type "object") = some true
/-- an own class of errors, over ValueError, whose __init__ keeps one field -/
structure ExcF (K : PySem.W.Frag) (C : Addr) (f : Str) : Prop where
  ox : OexC K C
  no : PySem.W.findIn K (.ref C) f = some none
  ini : PySem.W.findIn K (.ref C) "__init__" = some (some (.ref (ma K C "__init__")))
  ty : PySem.W.typeIn K (.ref (ma K C "__init__")) = some (.type "function")
  xf : XfC K C
def clsB (K : PySem.W.Frag) (C : Addr) : Bool := match K.lookup C with
  | some ⟨.type t, _, .cls cd, sl⟩ => decide (t = "type") && (match cd.mro, sl.toList with
    | .ref C' :: bm, [_, _, _, _, some (.builtin n), _] => decide (C' = C) && (decide (n = "ValueError.__new__") && (!cd.hasDel && (cd.hasDict && PySem.HandSPX.refsVE bm)))
    | _, _ => false)
  | _ => false
def oexB (K : PySem.W.Frag) (C : Addr) : Bool := clsB K C && (eqO (PySem.W.findIn K (.ref C) "__setattr__") (some (some (.builtin "object.__setattr__"))) && (decide (PySem.W.subIn K (.ref C) (.type "BaseException") = some true) && (decide (PySem.W.typeIn K (.ref C) = some (.type "type")) && PySem.W.keepIn K (.ref C))))
theorem oexB_ok {K : PySem.W.Frag} {C : Addr} (h : oexB K C = true) : OexC K C := by
  obtain ⟨h1, h⟩ := ba h
  obtain ⟨h2, h⟩ := ba h
  obtain ⟨h3, h⟩ := ba h
  obtain ⟨h4, h5⟩ := ba h
  refine ⟨?_, eqO_ok h2, of_decide_eq_true h3, of_decide_eq_true h4, h5⟩
  unfold clsB at h1
  split at h1
  · rename_i t dd cd sl ho
    obtain ⟨ht, h1⟩ := ba h1
    split at h1
    · rename_i C' bm k0 k1 k2 k3 n k5 hm hs
      obtain ⟨e1, h1⟩ := ba h1
      obtain ⟨e2, h1⟩ := ba h1
      obtain ⟨e3, h1⟩ := ba h1
      obtain ⟨e4, e5⟩ := ba h1
      have e1 := of_decide_eq_true e1
      have e2 := of_decide_eq_true e2
      have ht := of_decide_eq_true ht
      subst e1 e2 ht
      obtain ⟨nm, bs, mro, ns, qn, hd, sn, sub, ab, col, del⟩ := cd
      dsimp only at hm e3 e4
      subst hm e4
      have e3 : del = false := by cases del with
        | false => rfl
        | true => cases e3
      subst e3
      have hsl : sl = #[k0, k1, k2, k3, some (.builtin "ValueError.__new__"), k5] := by
        obtain ⟨l⟩ := sl
        dsimp only at hs
        rw [hs]
      subst hsl
      exact ⟨nm, qn, ns, bs, bm, sn, sub, ab, col, dd, k0, k1, k2, k3, k5, ho, e5⟩
    · cases h1
  · cases h1
inductive Fx where
  | exc (x f : Str)
  | exm (x y : Str) (b : Bool)
  | pl (x : Str)
  | sub (x y : Str)
  | cf (x m : Str)
  | ty (x : Str)
  | kit (x y : Str) (b : Bool)
  | kib (n : String) (y : Str) (b : Bool)
  | dtup (p : Str × Option Str) (i : Nat)
  | kiy (x : Str) (n : String) (b : Bool)
  | ktup (x : Str) (zs : List Str)
/-- these values are these texts -/
def strsB : List Value → List Str → Bool
  | [], [] => true
  | .str a _ :: r, z :: zs => decide (a = z) && strsB r zs
  | _, _ => false
def Fx.ok (K : PySem.W.Frag) : Fx → Bool
  | .exc x f => oexB K (ga K x) && (eqO (PySem.W.findIn K (.ref (ga K x)) f) (some none) && (decide (PySem.W.findIn K (.ref (ga K x)) "__init__" = some (some (.ref (ma K (ga K x) "__init__")))) && (decide (PySem.W.typeIn K (.ref (ma K (ga K x) "__init__")) = some (.type "function")) && xfB K (ga K x))))
  | .exm x y b => decide (PySem.W.exmOne K (.ref (ga K x)) (.ref (ga K y)) = some b)
  | .pl x => decide (PySem.W.mroIn K (ga K x) (.type "object") = some true) && (eqO (PySem.W.findIn K (.ref (ga K x)) "__eq__") (some (some (.builtin "object.__eq__"))) && eqO (PySem.W.findIn K (.ref (ga K x)) "__ne__") (some (some (.builtin "object.__ne__"))))
  | .sub x y => decide (ga K x = ga K y) || (PySem.W.subIn K (.ref (ga K y)) (.ref (ga K x))).isSome
  | .cf x m => eqO (PySem.W.specialIn K (.ref (ga K x)) "__getattribute__") (some (some (.builtin "type.__getattribute__"))) && (PySem.W.readsIn K (ga K x) (.type "type") && ((match PySem.W.findCls K (.ref (ga K x)) (.type "type") m with
    | some (.val (.ref f)) => decide (f = ma K (ga K x) m)
    | _ => false) && PySem.W.keepIn K (.ref (ma K (ga K x) m))))
  | .ty x => eqO (PySem.W.findIn K (.ref (ga K x)) "__class__") (some (some (.builtin "object.__class__"))) && (eqO (PySem.W.specialIn K (.builtin "object.__class__") "__get__") (some (some (.builtin "getset_descriptor.__get__"))) && (decide (PySem.W.takesIn K (.builtin "object.__class__") = some true) && decide (PySem.W.mroIn K (ga K x) (.type "object") = some true)))
  | .kit x y b => decide (PySem.W.kitOne K (.ref (ga K x)) (.ref (ga K y)) = some b)
  | .kib n y b => decide (PySem.W.kitOne K (.type n) (.ref (ga K y)) = some b)
  | .ktup x zs => decide (zs.length ≤ 1000) && (match K.lookup (ga K x) with
    | some ⟨.type c, _, .seq its _, _⟩ => decide (c = "tuple") && strsB its.toList zs
    | _ => false)
  | .kiy x n b => decide (PySem.W.kitOne K (.ref (ga K x)) (.type n) = some b)
  | .dtup p i => (match K.lookup (dflAt p i K) with
    | some ⟨.type c, _, .seq its _, _⟩ => decide (c = "tuple") && its.isEmpty
    | _ => false)
section
variable {K : PySem.W.Frag}
theorem exc_ok {x f : Str} (c : (Fx.exc x f).ok K = true) : ExcF K (ga K x) f := by
  obtain ⟨c1, c⟩ := ba c
  obtain ⟨c2, c⟩ := ba c
  obtain ⟨c3, c⟩ := ba c
  obtain ⟨c4, c5⟩ := ba c
  exact ⟨oexB_ok c1, eqO_ok c2, of_decide_eq_true c3, of_decide_eq_true c4, xfB_ok c5⟩
theorem exm_ok {x y : Str} {b : Bool} (c : (Fx.exm x y b).ok K = true) : PySem.W.exmOne K (.ref (ga K x)) (.ref (ga K y)) = some b := of_decide_eq_true c
theorem pl_ok {x : Str} (c : (Fx.pl x).ok K = true) : RA.PlainC K (ga K x) := by
  obtain ⟨c1, c⟩ := ba c
  obtain ⟨c2, c3⟩ := ba c
  exact ⟨of_decide_eq_true c1, eqO_ok c2, eqO_ok c3⟩
theorem sub_ok {x y : Str} (c : (Fx.sub x y).ok K = true) : RA.PairC K (ga K x) (ga K y) := by
  rcases Bool.or_eq_true_iff.mp c with c | c
  · exact .inl (of_decide_eq_true c)
  · exact .inr (Option.isSome_iff_exists.mp c)
theorem cf_ok {x m : Str} (c : (Fx.cf x m).ok K = true) : RA.CFun K (ga K x) m (ma K (ga K x) m) := by
  obtain ⟨c1, c⟩ := ba c
  obtain ⟨c2, c⟩ := ba c
  obtain ⟨c3, c4⟩ := ba c
  refine ⟨eqO_ok c1, c2, ?_, c4⟩
  cases e : PySem.W.findCls K (.ref (ga K x)) (.type "type") m with
  | none => rw [e] at c3; cases c3
  | some r =>
    rw [e] at c3
    cases r with
    | get _ _ _ _ => cases c3
    | val v =>
      cases v with
      | ref f => rw [of_decide_eq_true c3]
      | _ => cases c3
theorem ty_ok {x : Str} (c : (Fx.ty x).ok K = true) : TyC K (ga K x) := by
  obtain ⟨c1, c⟩ := ba c
  obtain ⟨c2, c⟩ := ba c
  obtain ⟨c3, c4⟩ := ba c
  exact ⟨eqO_ok c1, eqO_ok c2, of_decide_eq_true c3, of_decide_eq_true c4⟩
theorem kit_ok {x y : Str} {b : Bool} (c : (Fx.kit x y b).ok K = true) : PySem.W.kitOne K (.ref (ga K x)) (.ref (ga K y)) = some b := of_decide_eq_true c
theorem kiy_ok {x : Str} {n : String} {b : Bool} (c : (Fx.kiy x n b).ok K = true) : PySem.W.kitOne K (.ref (ga K x)) (.type n) = some b := of_decide_eq_true c
theorem kib_ok {n : String} {y : Str} {b : Bool} (c : (Fx.kib n y b).ok K = true) : PySem.W.kitOne K (.type n) (.ref (ga K y)) = some b := of_decide_eq_true c
theorem dtup_ok {p : Str × Option Str} {i : Nat} (h : (Fx.dtup p i).ok K = true) (H : Hp) : SqT K H (dflAt p i K) [] := by
  have h1 : (match K.lookup (dflAt p i K) with
    | some ⟨.type c, _, .seq its _, _⟩ => decide (c = "tuple") && its.isEmpty
    | _ => false) = true := h
  cases q : K.lookup (dflAt p i K) with
  | none => rw [q] at h1; cases h1
  | some o =>
    obtain ⟨oc, od, dt, osl⟩ := o
    rw [q] at h1
    cases oc with
    | type c =>
      cases dt with
      | seq its n =>
        obtain ⟨h2, h3⟩ := ba (show (decide (c = "tuple") && its.isEmpty) = true from h1)
        have e3 : its = #[] := Array.isEmpty_iff.mp h3
        subst e3
        exact .inr ⟨_, #[], n, q, congrArg Value.type (of_decide_eq_true h2), rfl, Nat.zero_le _, .nil⟩
      | _ => cases h1
    | _ => cases dt <;> cases h1
theorem strs_vals : ∀ {us : List Value} {zs : List Str}, strsB us zs = true → Vals (zs.map V.str) us
  | [], [], _ => .nil
  | .str a t :: r, z :: zs, h => by
    obtain ⟨h1, h2⟩ := ba (show (decide (a = z) && strsB r zs) = true from h)
    obtain rfl := of_decide_eq_true h1
    exact .cons ⟨t, rfl⟩ (strs_vals h2)
theorem ktup_ok {x : Str} {zs : List Str} (h : (Fx.ktup x zs).ok K = true) (H : Hp) : SqT K H (ga K x) (zs.map V.str) := by
  obtain ⟨h0, h⟩ := ba h
  have h1 : (match K.lookup (ga K x) with
    | some ⟨.type c, _, .seq its _, _⟩ => decide (c = "tuple") && strsB its.toList zs
    | _ => false) = true := h
  cases q : K.lookup (ga K x) with
  | none => rw [q] at h1; cases h1
  | some o =>
    obtain ⟨oc, od, dt, osl⟩ := o
    rw [q] at h1
    cases oc with
    | type c =>
      cases dt with
      | seq its n =>
        obtain ⟨h2, h3⟩ := ba (show (decide (c = "tuple") && strsB its.toList zs) = true from h1)
        have hv := strs_vals h3
        refine .inr ⟨_, its, n, q, congrArg Value.type (of_decide_eq_true h2), rfl, ?_, hv⟩
        have hl := hv.length
        have hz := of_decide_eq_true h0
        rw [List.length_map] at hl
        have : its.size = zs.length := by rw [← Array.length_toList]; omega
        rw [this, sizeLine_eq]; omega
      | _ => cases h1
    | _ => cases dt <;> cases h1
theorem TyC.tyx {C a dx : Addr} {H : Hp} {fs : List (Str × V)} (t : TyC K C) (c : Cls K C) (e : H a = some (.ins C dx fs)) : TyX K H (.ref a) (.ref C) := .base (.ins e c t.ha t.hn t.ht t.hm)
end
/-! ### dicts of the top -/
def keyE (e : DictEntry) : Option (Key × Int) := match e.key with
  | .int i _ => some (Sum.inl i, e.hash)
  | .str x _ => some (Sum.inr x, e.hash)
  | _ => none
def keyHP (P : Params) : Key → Int
  | .inl i => hashInt i
  | .inr x => PyData.keyHash P x
abbrev Tb : Type := Str × List (Key × Dv)
def tbRow (K : PySem.W.Frag) (x : Str) : Option (List (Option (Key × Int))) := match K.lookup (ga K x) with
  | some ⟨.type c, none, .dict es _, sl⟩ => (match decide (c = "dict") && (sl.isEmpty && !(ga K x == sysModules)) with
    | true => some (es.toList.map keyE)
    | false => none)
  | _ => none
def tbWant (P : Params) (kvs : List (Key × Dv)) : Option (List (Option (Key × Int))) := some (kvs.map fun q => some (q.1, keyHP P q.1))
def tbVals (K : PySem.W.Frag) (t : Tb) : Bool := decide ((t.2.map (·.1)).Nodup) && (decide (t.2.length ≤ sizeLine) && (match K.lookup (ga K t.1) with
  | some ⟨_, _, .dict es _, _⟩ => relAll (t.2.map fun q => q.2.v K) (es.toList.map (·.val))
  | _ => false))
/-- a dict of the top with these items -/
structure KD (P : Program) (w : World) (K : PySem.W.Frag) (a : Addr) (kvs : List (Key × V)) : Prop where
  low : (a == sysModules) = false
  len : kvs.length ≤ sizeLine
  at_ : ∃ vs, KV kvs vs ∧ ∀ h : Heap, K.In h → h.DictOf (mixKind P w) a vs
theorem rows_pairs {P : Program} {w : World} : ∀ {es : List DictEntry} {kvs : List (Key × V)}, es.map keyE = kvs.map (fun q => some (q.1, keyHP w.params q.1)) → relAll (kvs.map (·.2)) (es.map (·.val)) = true →
    ∃ vs, KV kvs vs ∧ Pairs (mixKind P w) es vs ∧ vs.map (·.1) = kvs.map (·.1) ∧ ∀ e ∈ es, ∃ k, (mixKind P w).is k e.key = true ∧ e.hash = (mixKind P w).hash k
  | [], [], _, _ => ⟨[], .nil, .nil, rfl, fun _ h => nomatch h⟩
  | [], _ :: _, h, _ => by cases h
  | _ :: _, [], h, _ => by cases h
  | e :: es, q :: kvs, h, hv => by
    rw [List.map_cons, List.map_cons] at h
    injection h with h1 h2
    obtain ⟨v1, v2⟩ := ba (show (relB q.2 e.val && relAll (kvs.map (·.2)) (es.map (·.val))) = true from hv)
    obtain ⟨vs, r, p, n, kk⟩ := rows_pairs (P := P) h2 v2
    have key : (mixKind P w).is q.1 e.key = true ∧ e.hash = (mixKind P w).hash q.1 := by
      unfold keyE at h1
      split at h1
      · rename_i i t ek
        have h3 := Prod.mk.inj (Option.some.inj h1)
        rw [← h3.1, ek]
        refine ⟨mixKind_int P w i t, ?_⟩
        rw [h3.2, ← h3.1]; rfl
      · rename_i x t ek
        have h3 := Prod.mk.inj (Option.some.inj h1)
        rw [← h3.1, ek]
        refine ⟨mixKind_str P w x t, ?_⟩
        rw [h3.2, ← h3.1]; rfl
      · cases h1
    refine ⟨(q.1, e.val) :: vs, .cons ⟨rfl, relB_ok v1⟩ r, .cons key.1 rfl p, by rw [List.map_cons, List.map_cons, n], fun e' he => ?_⟩
    rcases List.mem_cons.mp he with rfl | he
    · exact ⟨q.1, key⟩
    · exact kk e' he
theorem kd_of {P : Program} {w : World} {K : PySem.W.Frag} {t : Tb} (h1 : tbRow K t.1 = tbWant w.params t.2) (h2 : tbVals K t = true) : KD P w K (ga K t.1) (t.2.map fun q => (q.1, q.2.v K)) := by
  obtain ⟨nd, h2⟩ := ba h2
  obtain ⟨ln, h2⟩ := ba h2
  unfold tbRow tbWant at h1
  cases q : K.lookup (ga K t.1) with
  | none => rw [q] at h1; cases h1
  | some o =>
    obtain ⟨oc, od, dt, osl⟩ := o
    rw [q] at h1 h2
    cases oc with
    | type c =>
      cases od with
      | none =>
        cases dt with
        | dict es n =>
          have h3 : (match decide (c = "dict") && (osl.isEmpty && !(ga K t.1 == sysModules)) with
            | true => some (es.toList.map keyE)
            | false => none) = some (t.2.map fun q => some (q.1, keyHP w.params q.1)) := h1
          cases z : decide (c = "dict") && (osl.isEmpty && !(ga K t.1 == sysModules)) with
          | false => rw [z] at h3; cases h3
          | true =>
            rw [z] at h3
            obtain ⟨z1, z2⟩ := ba z
            obtain ⟨z3, z4⟩ := ba z2
            have e1 : c = "dict" := of_decide_eq_true z1
            have e2 : osl = #[] := Array.isEmpty_iff.mp z3
            have e3 : (ga K t.1 == sysModules) = false := by
              cases y : (ga K t.1 == sysModules) with
              | false => rfl
              | true => rw [y] at z4; cases z4
            subst e1 e2
            have h4 : es.toList.map keyE = (t.2.map fun q => (q.1, q.2.v K)).map (fun q => some (q.1, keyHP w.params q.1)) := by
              rw [List.map_map]
              exact Option.some.inj h3
            have h5 : relAll ((t.2.map fun q => (q.1, q.2.v K)).map (·.2)) (es.toList.map (·.val)) = true := by
              rw [List.map_map]
              exact h2
            obtain ⟨vs, r, p, nm, kk⟩ := rows_pairs (P := P) h4 h5
            refine ⟨e3, by rw [List.length_map]; exact of_decide_eq_true ln, vs, r, fun h X => ⟨_, es, n, X _ _ q, ⟨rfl, rfl, rfl⟩, rfl, fun e he => kk e (Array.mem_toList_iff.mpr he), p, ?_⟩⟩
            rw [nm, List.map_map]
            exact of_decide_eq_true nd
        | _ => cases h1
      | some d => cases dt <;> cases h1
    | _ => cases od <;> cases dt <;> cases h1
section
variable {X : Cx}
/-- dict(D), D a dict of the top: a new one -/
theorem call_dictK {D : Addr} {kvs : List (Key × V)} (k : KD X.prog X.w X.K D kvs) : CallR X (.type "dict") (fun xs H Q => xs = [.ref D] ∧ ∀ p, H p = none → Q (.ref p) (upd H p (.dK kvs))) := by
  intro pins s σ H xs us Q I r q
  obtain ⟨ex, q⟩ := q
  subst ex
  obtain ⟨u, eu, rx⟩ := vals1 r
  subst eu
  cases rx
  obtain ⟨vs, rel, dd⟩ := k.at_
  refine kt_call_dict k.low (dd _ I.kIn) (by rw [← rel.length]; exact k.len) fun h' d' hs => ?_
  have hm : (s.heap.objs.size == sysModules) = false := beq_eq_false_iff_ne.mpr (Nat.ne_of_gt I.big)
  exact ⟨.ref s.heap.objs.size, upd H s.heap.objs.size (.dK kvs), I.laid (t' := s.toks) (fun b u e => (hs.2 b (Nat.ne_of_lt (Heap.lt_size e))).trans (Heap.get?_push_of_some _ e)) (Nat.le_refl _)
    (show ObjOk X.prog X.w _ _ _ (.dK kvs) from ⟨k.len, hm, vs, rel, d'⟩), rfl, q _ (I.hok.fresh (Nat.le_refl _))⟩
end
/-! ### the Hook -/
abbrev AlB : Type := AlD × List (Option (List (Option (Key × Int)))) × Bool
def obsB (fa : List Fa) (fx : List Fx) (fn : List DefD) (ts : List Tb) (K : PySem.W.Frag) : AlB := (obsD fa fn K, ts.map fun t => tbRow K t.1, (fx.all fun f => f.ok K) && ts.all fun t => tbVals K t)
def valB (fn : List DefD) (ts : List Tb) (w : World) : AlB := (valD fn, ts.map fun t => tbWant w.params t.2, true)
def SaysB (fa : List Fa) (fx : List Fx) (fn : List DefD) (ts : List Tb) (w : World) (K : PySem.W.Frag) : Prop := obsB fa fx fn ts K = valB fn ts w
/-- and the objects that are defaults: one step further, for those alone -/
def extraB (g : Addr → Option Obj) (fx : List Fx) (as : List Addr) : List Addr := cStatics :: (as ++ fx.filterMap fun
  | .dtup p i => some (dflAt p i (frG g as))
  | .ktup x _ => some (ga (frG g as) x)
  | _ => none)
def obsBG (n : Nat) (fa : List Fa) (fx : List Fx) (fn : List DefD) (ts : List Tb) (g : Addr → Option Obj) : AlB := obsB fa fx fn ts (frG g (extraB g fx (asD g n)))
def hookB (n : Nat) (fa : List Fa) (fx : List Fx) (fn : List DefD) (ts : List Tb) : PySem.W.Hook where
  α := AlB
  obs := fun s => obsBG n fa fx fn ts s.heap.get?
  val := fun w => valB fn ts w
  says := fun w h => ∃ K : PySem.W.Frag, K.In h ∧ SaysB fa fx fn ts w K
  of := fun _ _ e => ⟨_, frG_in, e⟩
  keeps := fun _ _ _ ⟨K, hK, c⟩ k => ⟨K, PySem.W.Frag.In.keeps hK k, c⟩
theorem obsBG_eq {n : Nat} {fa : List Fa} {fx : List Fx} {fn : List DefD} {ts : List Tb} {g : Addr → Option Obj} {s : Shared} (h : ∀ a, g a = s.heap.get? a) : obsBG n fa fx fn ts g = (hookB n fa fx fn ts).obs s := by
  have e : g = s.heap.get? := funext h
  rw [e] <;> rfl
section
variable {fa : List Fa} {fx : List Fx} {fn : List DefD} {ts : List Tb} {w : World} {K : PySem.W.Frag}
theorem SaysB.d (c : SaysB fa fx fn ts w K) : SaysD fa fn K := congrArg (fun z : AlB => z.1) c
theorem SaysB.fact (c : SaysB fa fx fn ts w K) (i : Nat) {f : Fa} (h : fa[i]? = some f := by rfl) : f.ok K = true := c.d.fact i h
theorem SaysB.more (c : SaysB fa fx fn ts w K) (i : Nat) {f : Fx} (h : fx[i]? = some f := by rfl) : f.ok K = true := by
  have c1 := (ba (show ((fx.all fun f => f.ok K) && ts.all fun t => tbVals K t) = true from congrArg (fun z : AlB => z.2.2) c)).1
  exact List.all_eq_true.mp c1 f (List.mem_of_getElem? h)
theorem SaysB.tb (c : SaysB fa fx fn ts w K) (i : Nat) {t : Tb} (h : ts[i]? = some t := by rfl) (P : Program) : KD P w K (ga K t.1) (t.2.map fun q => (q.1, q.2.v K)) := by
  have c1 := (ba (show ((fx.all fun f => f.ok K) && ts.all fun t => tbVals K t) = true from congrArg (fun z : AlB => z.2.2) c)).2
  have e : ts.map (fun t => tbRow K t.1) = ts.map fun t => tbWant w.params t.2 := congrArg (fun z : AlB => z.2.1) c
  have e2 : (ts.map fun t => tbRow K t.1)[i]? = (ts.map fun t => tbWant w.params t.2)[i]? := by rw [e]
  rw [List.getElem?_map, List.getElem?_map, h] at e2
  exact kd_of (Option.some.inj e2) (List.all_eq_true.mp c1 t (List.mem_of_getElem? h))
end
end RB

set_option Elab.async false
set_option linter.all false
set_option maxRecDepth 100000
set_option maxHeartbeats 4000000
/-! What a caller needs of a def, in one word; the stream of draws. -/
namespace RC
open PySem PySem.Spec PyProof.Rows L2 He
/-- the def at f may be called with all parameters but the last ones, whose defaults are dvs -/
def Callable (P : Program) (w : World) (K : PySem.W.Frag) (mg : Str → Option Value) (base : Heap) (k : Nat) (f : Addr) (ps : List Str) (dvs : List V) (sp : Sp) : Prop :=
  ∃ fd ds, FnOk P w K mg base CX0 k f fd ps sp ∧ Vals dvs ds ∧ Binds K fd ps ds ∧ PySem.W.keepIn K (.ref f) = true
section
variable {X : Cx} {k : Nat} {f C : Addr} {ps : List Str} {sp : Sp} {dvs : List V} {x m : Str} {p pos apos : Pos} {e o : Expr} {es : List Expr} {ta : TE} {t : TA} {pl : Sem Bool}
theorem pe_fn (hm : X.mg x = some (.ref f)) (c : Callable X.prog X.w X.K X.mg X.base k f ps dvs sp) (hr : Room k X.A) (hg : Gl X x) (ha : PA X (e :: es) t) (hdb : (x == ("__debug__" : Str)) = false := by decide)
    (he : starEach (e :: es) X.env = (false, eval e X.env) :: starEach es X.env := by rfl) (hpl : (backTo pos (starEach es X.env)).any (·.1) = false := by rfl) : PE X (.Call (.Name x p) (e :: es) [] pos) (tCall sp dvs E0 t) := by
  obtain ⟨fd, ds, F, hd, hb, hk⟩ := c
  exact pe_call F hr hg hm hk hb hd pass0 ha hdb he hpl
theorem pe_fn0 (hm : X.mg x = some (.ref f)) (c : Callable X.prog X.w X.K X.mg X.base k f ps dvs sp) (hr : Room k X.A) (hg : Gl X x) (hdb : (x == ("__debug__" : Str)) = false := by decide) : PE X (.Call (.Name x p) [] [] pos) (tCall sp dvs E0 tNil) := by
  obtain ⟨fd, ds, F, hd, hb, hk⟩ := c
  exact pe_call0 F hr hg hm hk hb hd pass0 hdb
theorem pe_mt (cl : Cls X.K C) (hm : Meth X.K C m f) (c : Callable X.prog X.w X.K X.mg X.base k f ps dvs sp) (hr : Room k X.A) (he : PE X o ta) (ha : PA X (e :: es) t)
    (hst : starEach (e :: es) X.env = (false, eval e X.env) :: starEach es X.env := by rfl) (hpl : (backTo pos (starEach es X.env)).any (·.1) = false := by rfl)
    (ht : eval (.Call (.Attribute o m apos) (e :: es) [] pos) X.env = (do
      let ov ← eval o X.env
      standAt apos.atName
      let (f, first) ← holding [ov] (getMethod ov m pl)
      callWith pos f first (backTo pos (starEach (e :: es) X.env)) (backToKw pos (keywordEach [] X.env))) := by rfl) :
    PE X (.Call (.Attribute o m apos) (e :: es) [] pos) (tMeth C m sp dvs E0 ta t) := by
  obtain ⟨fd, ds, F, hd, hb, hk⟩ := c
  exact pe_meth he cl hm F hr hb hd pass0 ha hst hpl ht
theorem pe_mt0 (cl : Cls X.K C) (hm : Meth X.K C m f) (c : Callable X.prog X.w X.K X.mg X.base k f ps dvs sp) (hr : Room k X.A) (he : PE X o ta)
    (ht : eval (.Call (.Attribute o m apos) [] [] pos) X.env = (do
      let ov ← eval o X.env
      standAt apos.atName
      let (f, first) ← holding [ov] (getMethod ov m pl)
      callWith pos f first (backTo pos (starEach [] X.env)) (backToKw pos (keywordEach [] X.env))) := by rfl) :
    PE X (.Call (.Attribute o m apos) [] [] pos) (tMeth C m sp dvs E0 ta tNil) := by
  obtain ⟨fd, ds, F, hd, hb, hk⟩ := c
  exact pe_meth0 he cl hm F hr hb hd pass0 ht
theorem pe_mk (M : Mk X.K C f) (hm : X.mg x = some (.ref C)) (c : Callable X.prog X.w X.K X.mg X.base k f ps dvs sp) (hr : Room (k + 1) X.A) (hg : Gl X x) (ha : PA X (e :: es) t) (hdb : (x == ("__debug__" : Str)) = false := by decide)
    (he : starEach (e :: es) X.env = (false, eval e X.env) :: starEach es X.env := by rfl) (hpl : (backTo pos (starEach es X.env)).any (·.1) = false := by rfl) : PE X (.Call (.Name x p) (e :: es) [] pos) (tMake C sp dvs E0 t) := by
  obtain ⟨fd, ds, F, hd, hb, hk⟩ := c
  exact pe_make M F hr hg hm hb hd pass0 ha hdb he hpl
theorem pe_mk0 (M : Mk X.K C f) (hm : X.mg x = some (.ref C)) (c : Callable X.prog X.w X.K X.mg X.base k f ps dvs sp) (hr : Room (k + 1) X.A) (hg : Gl X x) (hdb : (x == ("__debug__" : Str)) = false := by decide) : PE X (.Call (.Name x p) [] [] pos) (tMake C sp dvs E0 tNil) := by
  obtain ⟨fd, ds, F, hd, hb, hk⟩ := c
  exact pe_make0 M F hr hg hm hb hd pass0 hdb
theorem pe_cf (cf : RA.CFun X.K C m f) (c : Callable X.prog X.w X.K X.mg X.base k f ps dvs sp) (hr : Room k X.A) (he : PE X o ta) (ha : PA X (e :: es) t)
    (hst : starEach (e :: es) X.env = (false, eval e X.env) :: starEach es X.env := by rfl) (hpl : (backTo pos (starEach es X.env)).any (·.1) = false := by rfl)
    (ht : eval (.Call (.Attribute o m apos) (e :: es) [] pos) X.env = (do
      let ov ← eval o X.env
      standAt apos.atName
      let (f, first) ← holding [ov] (getMethod ov m pl)
      callWith pos f first (backTo pos (starEach (e :: es) X.env)) (backToKw pos (keywordEach [] X.env))) := by rfl) :
    PE X (.Call (.Attribute o m apos) (e :: es) [] pos) (RA.tCFun C sp dvs E0 ta t) := by
  obtain ⟨fd, ds, F, hd, hb, hk⟩ := c
  exact RA.pe_cfun he cf F hr hb hd pass0 ha hst hpl ht
end
section
variable {P : Program} {w : World} {K : PySem.W.Frag} {mg : Str → Option Value} {base : Heap} {x qual : Str} {params : Arguments} {body : List Stmt} {scope : Scope} {dvs : List V} {f : Addr} {k : Nat} {N ps : List Str} {sp : Sp}
/-- a def that stands there -/
def Stands (K : PySem.W.Frag) (x qual : Str) (st : Stmt) (dvs : List V) (f : Addr) : Prop := ∃ fd, FunD K x qual (defArgs st) (defBody st) (defScope st) dvs [] f fd
/-- THE RULE for a def, whatever its defaults: what it promises of every call; bind: how its arguments bind with the first n parameters given -/
theorem Stands.call {st : Stmt} (F : Stands K x qual st dvs f) (S : FnScope N ps (defScope st)) (n j : Nat) (len : ∀ vs H Q E, sp vs H Q E → vs.length = ps.length)
    (hbody : ∀ (cdv : Value) (A : Around) (outer : List Env) (s : Shared) (H : Hp) (vs : List V) (Q : VK) (E : XK), Room k (A.deeper (envOfC qual (defScope st) s.heap.objs.size f cdv)) → sp vs H Q E →
      ∃ t, PSs (cxOf CX0 P w K mg base N qual (defScope st) f cdv A outer s H E).nox (defBody st) t ∧ t { nx := fun _ H' => Q .non H', rt := Q } (start N vs) H)
    (h0 : dvs = [] → n = ps.length ∧ ∀ (kV doc pm : Value) (an : Option Addr) (cdv ct : Value) (us : List Value), us.length = ps.length → bindArgs (PySem.W.fnOf x qual (defArgs st) (defBody st) (defScope st) .none kV doc pm an cdv ct) ⟨us, []⟩ = pure (ps.zip us))
    (h1 : dvs ≠ [] → n + (dvs.length - j) = ps.length ∧ ∀ (T : Addr) (kV doc pm : Value) (an : Option Addr) (cdv ct : Value) (us its : List Value), us.length = n → its.length = dvs.length →
      ∃ k, bindArgs (PySem.W.fnOf x qual (defArgs st) (defBody st) (defScope st) (.ref T) kV doc pm an cdv ct) ⟨us, []⟩ = seqItems? (.ref T) >>= k ∧ k (some its.toArray) = pure (ps.zip (us ++ its.drop j))) :
    Callable P w K mg base (k + 1) f ps (dvs.drop j) sp := by
  obtain ⟨fd, F⟩ := F
  have ok : FnOk P w K mg base CX0 (k + 1) f fd ps sp := F.ok S len fun cdv A outer s H vs Q E hr hsp => by
    obtain ⟨t, h, q⟩ := hbody cdv A outer s H vs Q E hr hsp
    exact ⟨t, h.nox, q⟩
  by_cases hd : dvs = []
  · subst hd
    exact ⟨fd, [], ok, by rw [List.drop_nil]; exact .nil, F.bindsN (h0 rfl).2, F.kp⟩
  · obtain ⟨ds, hv, hb⟩ := F.binds1 n j hd (h1 hd).1 (h1 hd).2
    exact ⟨fd, ds, ok, hv, hb, F.kp⟩
/-- no defaults -/
theorem Stands.call0 {st : Stmt} (F : Stands K x qual st [] f) (S : FnScope N ps (defScope st)) (len : ∀ vs H Q E, sp vs H Q E → vs.length = ps.length)
    (hbody : ∀ (cdv : Value) (A : Around) (outer : List Env) (s : Shared) (H : Hp) (vs : List V) (Q : VK) (E : XK), Room k (A.deeper (envOfC qual (defScope st) s.heap.objs.size f cdv)) → sp vs H Q E →
      ∃ t, PSs (cxOf CX0 P w K mg base N qual (defScope st) f cdv A outer s H E).nox (defBody st) t ∧ t { nx := fun _ H' => Q .non H', rt := Q } (start N vs) H)
    (h0 : ∀ (kV doc pm : Value) (an : Option Addr) (cdv ct : Value) (us : List Value), us.length = ps.length → bindArgs (PySem.W.fnOf x qual (defArgs st) (defBody st) (defScope st) .none kV doc pm an cdv ct) ⟨us, []⟩ = pure (ps.zip us)) :
    Callable P w K mg base (k + 1) f ps [] sp := by
  obtain ⟨fd, F⟩ := F
  have ok : FnOk P w K mg base CX0 (k + 1) f fd ps sp := F.ok S len fun cdv A outer s H vs Q E hr hsp => by
    obtain ⟨t, h, q⟩ := hbody cdv A outer s H vs Q E hr hsp
    exact ⟨t, h.nox, q⟩
  exact ⟨fd, [], ok, .nil, F.bindsN h0, F.kp⟩
theorem Callable.imp {sp' : Sp} {dv : List V} (c : Callable P w K mg base k f ps dv sp) (h : ∀ vs H Q E, sp' vs H Q E → sp vs H Q E) : Callable P w K mg base k f ps dv sp' :=
  let ⟨fd, ds, F, r⟩ := c
  ⟨fd, ds, F.imp h, r⟩
theorem Callable.up {j : Nat} {dv : List V} (c : Callable P w K mg base j f ps dv sp) (h : j ≤ k) : Callable P w K mg base k f ps dv sp :=
  let ⟨fd, ds, F, r⟩ := c
  ⟨fd, ds, F.mono h, r⟩
end
/-! ### heaps -/
theorem same_new {H : Hp} {p : Addr} (h : H p = none) (o : HO) : Same H (upd H p o) := fun b u q => by rw [upd_ne (ne_of_none q h)]; exact q
theorem _root_.L2.Same.seqT {K : PySem.W.Frag} {H H' : Hp} {a : Addr} {xs : List V} (e : Same H H') (h : SqT K H a xs) : SqT K H' a xs := by
  rcases h with (h | ⟨o, h⟩) | h
  · exact .inl (.inl (e _ _ h))
  · exact .inl (.inr ⟨o, e _ _ h⟩)
  · exact .inr h
theorem upd_none {H : Hp} {a p : Addr} {o : HO} (h : upd H a o p = none) : p ≠ a ∧ H p = none := by
  by_cases e : p = a
  · subst e; rw [upd_same] at h; cases h
  · rw [upd_ne e] at h; exact ⟨e, h⟩
/-! ### the stream of draws -/
/-- the law's stream at s: its list of ints at l, the number at hand, how many were made up, the seed; n: a bound of those made up -/
def Stm (H : Hp) (s l : Addr) (n : Nat) : Prop := s ≠ l ∧ ∃ (ns : List Int) (x c d : Int), H s = some (.lst [.ref l, .int x, .int c, .int d]) ∧ H l = some (.lst (ns.map V.int)) ∧ ns.length ≤ 63 ∧ 0 ≤ x ∧ 0 ≤ c ∧ c ≤ n ∧ 0 ≤ d ∧ d < 2147483647
theorem Stm.mono {H : Hp} {s l : Addr} {n m : Nat} (h : Stm H s l n) (k : n ≤ m) : Stm H s l m := by
  obtain ⟨ne, ns, x, c, d, h1, h2, h3, h4, h5, h6, h7, h8⟩ := h
  exact ⟨ne, ns, x, c, d, h1, h2, h3, h4, h5, by omega, h7, h8⟩
theorem Stm.same {H H' : Hp} {s l : Addr} {n : Nat} (h : Stm H s l n) (k : Same H H') : Stm H' s l n := by
  obtain ⟨ne, ns, x, c, d, h1, h2, h3⟩ := h
  exact ⟨ne, ns, x, c, d, k _ _ h1, k _ _ h2, h3⟩
/-- all but the stream is as it was -/
def But (s l : Addr) (H H' : Hp) : Prop := ∀ b, b ≠ s → b ≠ l → H' b = H b
/-- all that was there but the stream is as it was -/
def Old (s l : Addr) (H H' : Hp) : Prop := ∀ b o, b ≠ s → b ≠ l → H b = some o → H' b = some o
theorem But.old {s l : Addr} {H H' : Hp} (h : But s l H H') : Old s l H H' := fun b o h1 h2 e => by rw [h b h1 h2]; exact e
theorem Old.refl {s l : Addr} (H : Hp) : Old s l H H := fun _ _ _ _ e => e
theorem Old.trans {s l : Addr} {H H1 H2 : Hp} (a : Old s l H H1) (b : Old s l H1 H2) : Old s l H H2 := fun c o h1 h2 e => b c o h1 h2 (a c o h1 h2 e)
theorem Old.of_same {s l : Addr} {H H' : Hp} (h : Same H H') : Old s l H H' := fun b o _ _ e => h b o e
section
variable {X : Cx} {x : Str} {pos : Pos}
theorem pe_gi {i : Int} (hg : Gl X x) (hm : ∃ t, X.mg x = some (.int i t)) (hd : (x == ("__debug__" : Str)) = false := by decide) : PE X (.Name x pos) (tC (.int i)) := by
  obtain ⟨t, h⟩ := hm
  exact pe_glob hg h ⟨t, rfl⟩ (by first | assumption | exact hd)
theorem pe_gs {z : Str} (hg : Gl X x) (hm : ∃ t, X.mg x = some (.str z t)) (hd : (x == ("__debug__" : Str)) = false := by decide) : PE X (.Name x pos) (tC (.str z)) := by
  obtain ⟨t, h⟩ := hm
  exact pe_glob hg h ⟨t, rfl⟩ (by first | assumption | exact hd)
end
/-! ### in a comprehension's block the written part is the def's own: rules that name it -/
section
variable {X : Cx} {K : PySem.W.Frag}
theorem opK (r : PySem.W.Frag → R2) {f : Value → Value → Sem Value} (h : OpR X f (r X.K)) (e : X.K = K := by rfl) : OpR X f (r K) := e ▸ h
theorem callK (r : PySem.W.Frag → List V → Hp → VK → Prop) {f : Value} (h : CallR X f (r X.K)) (e : X.K = K := by rfl) : CallR X f (r K) := e ▸ h
theorem ixK (r : PySem.W.Frag → R2) (h : IxR X (r X.K)) (e : X.K = K := by rfl) : IxR X (r K) := e ▸ h
theorem pe_fldK {e : Expr} {f : Str} {pos : Pos} {ta : TE} (he : PE X e ta) (hb : attributeBase e f X.env (eval e X.env) = eval e X.env) (z : X.K = K := by rfl) : PE X (.Attribute e f pos) (tFld K ta f) := z ▸ pe_fld he hb
end
/-- an expression that is never reached -/
def tNo : TE := fun _ _ _ => False
theorem pe_never {X : Cx} {e : Expr} : PE X e tNo := ⟨fun _ _ _ _ _ _ h => h.elim⟩
def tNoT : TT := fun _ _ _ => False
theorem pt_never {X : Cx} {e : Expr} : PT X e tNoT := ⟨fun _ _ _ _ _ _ h => h.elim⟩
theorem tyx_tup {K : PySem.W.Frag} {H : Hp} {a : Addr} {xs : List V} (h : SqT K H a xs) : TyX K H (.ref a) (.type "tuple") := by
  rcases h with (h | ⟨o, h⟩) | ⟨o, its, n, h, c, _⟩
  · exact .base (.tup h)
  · exact .fTuple h
  · exact .kTuple h c
theorem tyx_lst {K : PySem.W.Frag} {H : Hp} {a : Addr} {xs : List V} (h : SqL K H a xs) : TyX K H (.ref a) (.type "list") := by
  rcases h with (h | ⟨o, h⟩) | ⟨o, its, n, h, c, _⟩
  · exact .base (.lst h)
  · exact .base (.frz h)
  · exact .kList h c
/-- behind a lock all is as it was but the new -/
theorem unlock {H : Hp} {d D : Addr} {f u o : HO} (hd : H d = some u) (hD : upd H d f D = none) : upd (upd (upd H d f) D o) d u = upd H D o := by
  have ne : D ≠ d := (upd_none hD).1
  funext b
  by_cases e : b = d
  · subst e; rw [upd_same, upd_ne (Ne.symm ne)]; exact hd.symm
  · rw [upd_ne e]
    by_cases z : b = D
    · subst z; rw [upd_same, upd_same]
    · rw [upd_ne z, upd_ne z, upd_ne e]
theorem iteT' {c : Bool} {A B : Prop} (hc : c = true) (h : A) : if c = true then A else B := by rw [if_pos hc]; exact h
theorem iteF' {c : Bool} {A B : Prop} (hc : c = false) (h : B) : if c = true then A else B := by rw [if_neg (by rw [hc]; exact Bool.false_ne_true)]; exact h
end RC

set_option Elab.async false
set_option linter.all false
set_option maxRecDepth 100000
set_option maxHeartbeats 4000000
/-! Further rules: two lists of the same objects are equal; a text times an int. -/
namespace RD
open PySem PySem.Spec PyProof.Rows PySem.SeqAt L2
def rNeRefs (K : PySem.W.Frag) : R2 := fun x y H Q => ∃ (a b : Addr) (as : List Addr), x = .ref a ∧ y = .ref b ∧ SqL K H a (as.map V.ref) ∧ SqL K H b (as.map V.ref) ∧ Q (.bl false) H
def rEqRefs (K : PySem.W.Frag) : R2 := fun x y H Q => ∃ (a b : Addr) (as : List Addr), x = .ref a ∧ y = .ref b ∧ SqL K H a (as.map V.ref) ∧ SqL K H b (as.map V.ref) ∧ Q (.bl true) H
def rMulS : R2 := fun x y H Q => ∃ (i : Str) (k : Int), x = .str i ∧ y = .int k ∧ PySem.MulOk i k ∧ Q (.str (Txt.mul i k)) H
section
variable {X : Cx}
theorem vals_refs : ∀ {as : List Addr} {us : List Value}, Vals (as.map V.ref) us → us = as.map Value.ref
  | [], _, .nil => rfl
  | a :: as, _, .cons r t => by
    cases r
    rw [vals_refs t]; rfl
theorem all_true (n : Nat) : (List.range n).all (fun _ => true) = true := by simp
theorem op_neRefs (hu : X.A.units < cLine) : OpR X (compareOp .NotEq) (rNeRefs X.K) := by
  intro pins s σ H x y v u Q I rx ry h
  obtain ⟨a, b, as, rfl, rfl, ha, hb, q⟩ := h
  cases rx
  cases ry
  obtain ⟨its, rv, hl, _⟩ := I.list ha
  obtain ⟨its2, rv2, hl2, _⟩ := I.list hb
  obtain rfl := vals_refs rv
  obtain rfl := vals_refs rv2
  refine RcNeAt.lists (e := fun _ => true) hl.isList hl2.isList rfl hu (fun j h1 h2 => EqAt.same _) X.prog X.w X.xe _ ?_
  rw [all_true]
  exact fin_bl I q rfl
theorem op_eqRefs (hu : X.A.units < cLine) : OpR X (compareOp .Eq) (rEqRefs X.K) := by
  intro pins s σ H x y v u Q I rx ry h
  obtain ⟨a, b, as, rfl, rfl, ha, hb, q⟩ := h
  cases rx
  cases ry
  obtain ⟨its, rv, hl, _⟩ := I.list ha
  obtain ⟨its2, rv2, hl2, _⟩ := I.list hb
  obtain rfl := vals_refs rv
  obtain rfl := vals_refs rv2
  refine eq_listAt (e := fun _ => true) hl.isList hl2.isList rfl hu (fun j h1 h2 => EqAt.same _) ?_
  rw [all_true]
  exact fin_bl I q rfl
theorem op_mulS : OpR X (binaryOp .Mult) rMulS := by
  intro pins s σ H x y v u Q I rx ry h
  obtain ⟨i, k, rfl, rfl, hk, q⟩ := h
  obtain ⟨t, rfl⟩ := rx
  obtain ⟨t', rfl⟩ := ry
  exact PySem.SB.mul hk fun t2 k2 => ⟨.str (Txt.mul i k), H, I.tok k2, ⟨_, rfl⟩, q⟩
end
end RD

set_option Elab.async false
set_option linter.all false
set_option maxRecDepth 100000
set_option maxHeartbeats 4000000
/-! Rows of texts in order: there is one alone. -/
namespace RE
open PySem PySem.Spec PyProof.Rows L2
def le (a b : List Nat) : Prop := ltCps b a = false
theorem lt_split : ∀ (a b c : List Nat), ltCps a c = true → ltCps a b = true ∨ ltCps b c = true
  | [], [], c, h => .inr h
  | [], _ :: _, _, _ => .inl rfl
  | _ :: _, _, [], h => nomatch h
  | x :: a, [], z :: c, h => .inr rfl
  | x :: a, y :: b, z :: c, h => by
    have h : (decide (x < z) || (x == z && ltCps a c)) = true := h
    show (decide (x < y) || (x == y && ltCps a b)) = true ∨ (decide (y < z) || (y == z && ltCps b c)) = true
    rcases Nat.lt_trichotomy x y with h1 | h1 | h1
    · exact .inl (by rw [decide_eq_true h1]; rfl)
    · subst h1
      rcases Bool.or_eq_true_iff.mp h with h2 | h2
      · exact .inr (by rw [h2]; rfl)
      · obtain ⟨h3, h4⟩ := Bool.and_eq_true_iff.mp h2
        rcases lt_split a b c h4 with h5 | h5
        · exact .inl (by rw [h5]; simp)
        · exact .inr (by rw [h3, h5]; simp)
    · have h6 : y < z := by
        rcases Bool.or_eq_true_iff.mp h with h2 | h2
        · exact Nat.lt_trans h1 (of_decide_eq_true h2)
        · obtain ⟨h3, _⟩ := Bool.and_eq_true_iff.mp h2
          rw [← eq_of_beq h3]; exact h1
      exact .inr (by rw [decide_eq_true h6]; rfl)
theorem le_trans {a b c : List Nat} (h1 : le a b) (h2 : le b c) : le a c := by
  unfold le at *
  cases e : ltCps c a with
  | false => rfl
  | true =>
    rcases lt_split c b a e with h | h
    · rw [h2] at h; cases h
    · rw [h1] at h; cases h
theorem le_anti : ∀ {a b : List Nat}, le a b → le b a → a = b
  | [], [], _, _ => rfl
  | [], _ :: _, _, h => nomatch h
  | _ :: _, [], h, _ => nomatch h
  | x :: a, y :: b, h1, h2 => by
    have h1 : (decide (y < x) || (y == x && ltCps b a)) = false := h1
    have h2 : (decide (x < y) || (x == y && ltCps a b)) = false := h2
    rw [Bool.or_eq_false_iff] at h1 h2
    have e : x = y := by
      have a1 := of_decide_eq_false h1.1
      have a2 := of_decide_eq_false h2.1
      omega
    subst e
    have h3 : ltCps b a = false := by have := h1.2; simpa using this
    have h4 : ltCps a b = false := by have := h2.2; simpa using this
    rw [le_anti (a := a) (b := b) h3 h4]
def leS (a b : Str) : Prop := le (TL.tl a) (TL.tl b)
theorem rising : ∀ (p : Str) (l : List Str), risingS p l = true → (p :: l).Pairwise leS
  | p, [], _ => List.pairwise_singleton _ _
  | p, x :: r, h => by
    have h : (!ltCps x.cps.toList p.cps.toList && risingS x r) = true := h
    obtain ⟨h1, h2⟩ := Bool.and_eq_true_iff.mp h
    have i := rising x r h2
    refine List.pairwise_cons.mpr ⟨fun z hz => ?_, i⟩
    have a : leS p x := by
      show ltCps (TL.tl x) (TL.tl p) = false
      have h1 : (!ltCps (TL.tl x) (TL.tl p)) = true := h1
      cases e : ltCps (TL.tl x) (TL.tl p) with
      | false => rfl
      | true => rw [e] at h1; cases h1
    rcases List.mem_cons.mp hz with rfl | hz
    · exact a
    · exact le_trans a ((List.pairwise_cons.mp i).1 z hz)
theorem sorted_pw : ∀ {l : List Str}, sortedS l = true → l.Pairwise leS
  | [], _ => List.Pairwise.nil
  | x :: r, h => rising x r h
theorem uniq : ∀ {l m : List Str}, l.Perm m → l.Pairwise leS → m.Pairwise leS → l = m
  | [], m, hp, _, _ => by rw [List.nil_perm.mp hp]
  | x :: r, m, hp, h1, h2 => by
    cases m with
    | nil => exact absurd hp.length_eq (by simp)
    | cons y t =>
      obtain ⟨a1, a2⟩ := List.pairwise_cons.mp h1
      obtain ⟨b1, b2⟩ := List.pairwise_cons.mp h2
      have e : x = y := by
        have hx : x ∈ y :: t := hp.mem_iff.mp List.mem_cons_self
        have hy : y ∈ x :: r := hp.mem_iff.mpr List.mem_cons_self
        rcases List.mem_cons.mp hx with rfl | hx
        · rfl
        rcases List.mem_cons.mp hy with rfl | hy
        · rfl
        exact TL.ext_tl (le_anti (a1 y hy) (b1 x hx))
      subst e
      rw [uniq ((List.perm_cons x).mp hp) a2 b2]
/-- a sorted row's part is that part, sorted -/
theorem sorted_filter {xs ys zs : List Str} {p : Str → Bool} (h1 : ys.Perm xs) (h2 : sortedS ys = true) (h3 : zs.Perm (xs.filter p)) (h4 : sortedS zs = true) : zs = ys.filter p :=
  uniq (h3.trans (h1.symm.filter p)) (sorted_pw h4) ((sorted_pw h2).filter p)
end RE

set_option Elab.async false
set_option linter.all false
set_option maxRecDepth 100000
set_option maxHeartbeats 4000000
/-! Further rules of dicts: d.update(d2). -/
namespace RF
open PySem PySem.Spec PyProof.Rows L2
def rUpdD : V → List V → Hp → VK → Prop := fun x xs H Q => ∃ (d o : Addr) (kvs more : List (Key × V)), x = .ref d ∧ xs = [.ref o] ∧ H d = some (.dK kvs) ∧ Rd H o (.dK more) ∧ d ≠ o ∧ kvs.length + more.length ≤ sizeLine ∧ (mergeK kvs more).length ≤ sizeLine ∧ Q .non (upd H d (.dK (mergeK kvs more)))
theorem mt_updD {X : Cx} : MtR X "dict.update" rUpdD := by
  intro pins s σ H x xs v us Q I rx rxs h
  obtain ⟨d, o, kvs, more, rfl, rfl, hd, ho, hne, hl, hl2, q⟩ := h
  cases rx
  obtain rfl := Vals.ref1 rxs
  obtain ⟨z, lo, vs, rel, dd⟩ := dk_of I.hok hd
  obtain ⟨z2, lo2, vs2, rel2, dd2⟩ := dk_rd I.hok ho
  refine call_meetsIn PySem.F.slot_dict_update dd.typeIs PySem.F.entry_dict_update (PySem.F.args_dict_update_2 _ _) (meets_dict_update (mixKind X.prog X.w) d o hne lo2)
    ⟨vs, vs2, dd, dd2, (by rw [← rel.length, ← rel2.length]; exact hl), fun h' hmm _ hs => ?_⟩
  have he : ∃ q, h'.get? d = some q := let ⟨q, _, _, hq, _⟩ := hmm; ⟨q, hq⟩
  refine d_write I (by rw [hd]; exact True.intro) hs he (dk_new hl2 lo (KV.merge rel2 rel) hmm) |> fun I' => ⟨.non, _, I', rfl, q⟩
/-- list(o.values()) -/
def tListVals (td : TE) : TE := fun σ H Q => td σ H fun x H1 => ∃ a kvs, x = V.ref a ∧ H1 a = some (.dK kvs) ∧ ∀ q, H1 q = none → Q (.ref q) (upd H1 q (.lst (kvs.map (·.2))))
section
variable {X : Cx} {o : Expr} {p pos apos mpos : Pos} {td : TE}
theorem pe_listVals (hc : X.calm = true) (hg : Gl X "list") (hm : X.mg "list" = none) (hd : PE X o td) (hbase : attributeBase o "values" X.env (eval o X.env) = eval o X.env := by rfl) (hline : (apos.endLine == mpos.line) = true := by rfl)
    (hse : starEach [Expr.Call (.Attribute o "values" apos) [] [] mpos] X.env = [(false, eval (Expr.Call (.Attribute o "values" apos) [] [] mpos) X.env)] := by rfl) :
    PE X (.Call (.Name "list" p) [.Call (.Attribute o "values" apos) [] [] mpos] [] pos) (tListVals td) := by
  refine ⟨fun pins s σ H Q I h => ?_⟩
  refine wpAny_Call_Name_kw (ld_blt I hg hm (u := .type "list") (by first | rfl | decide +kernel) ?_ (by first | decide +kernel | decide) (by first | decide +kernel | decide))
  rw [hse]
  refine PySem.callWith_type1 (wpAny_Call_method0_late hbase hline (thn (hd.run pins s σ H _ I h) fun v s1 ⟨x, H1, I1, r1, a, kvs, ex, ha, q⟩ => ?_))
  subst ex
  obtain rfl : v = Value.ref a := r1
  obtain ⟨z, hsys, vs, rel, dof⟩ := dk_of I1.hok ha
  obtain ⟨ep, dat⟩ := dof.dictAt
  have dat' := dat
  obtain ⟨ob, es, ho, ex, hdat, hko, hpr, hnd⟩ := dat'
  refine ⟨"dict", "dict.values", F.plainAttrs_dict, F.slot_dict_values, F.type_dict_values, ⟨ob, ho, ex.1⟩, fun b e => ?_, Calls.callWith_builtin rfl (PySem.evalArgs_none ?_)⟩
  · cases e
    exact ⟨ob, ho, ex.2.1⟩
  refine call_meetsIn F.slot_dict_values ⟨ob, ho, ex.1⟩ F.entry_dict_values (F.args_dict_values_1 _) (meets_dict_values (mixKind X.prog X.w) a hsys) ⟨⟨vs, dof⟩, ?_⟩
  have k1 : ∀ b u, s1.heap.get? b = some u → (s1.heap.push { cls := .type "dict_values", data := .fields #[.ref a] }).get? b = some u := fun b u e => Heap.get?_push_of_some _ e
  have dat1 : (s1.heap.push { cls := .type "dict_values", data := .fields #[.ref a] }).DictAt (mixKind X.prog X.w) a vs ep := dat.keep k1
  have I2 : Inv X pins σ H1 { s1 with heap := s1.heap.push { cls := .type "dict_values", data := .fields #[.ref a] } } := I1.kept (t' := s1.toks) k1
  have hl : kvs.length = vs.length := Paired.length rel
  refine PySem.W.kdl_call (PySem.W.kdl_values (knd := mixKind X.prog X.w) (r := s1.heap.objs.size) (d := a) (kvs := vs) (ep := ep)) (I1.ok.hd hc) ⟨⟨_, Heap.get?_push_size _ rfl, rfl, rfl⟩, dat1⟩ (by rw [← hl]; exact z) fun h' tk acc' c' hkeep hS hacc => ?_
  refine ⟨.ref _, upd H1 _ (.lst (kvs.map (·.2))), I2.laid hkeep (Nat.le_refl _) (show ObjOk X.prog X.w _ _ _ (.lst (kvs.map (·.2))) from ⟨?_, acc'.toList, c', ?_, ?_⟩), rfl, q _ (I2.hok.fresh (Nat.le_refl _))⟩
  · rw [List.length_map]; exact z
  · have el : acc'.toList.length = acc'.size := by simp
    refine vals_of_at (by rw [List.length_map, el, hacc.1, hl]) fun j x w h1 h2 => ?_
    obtain ⟨k, hk⟩ := hacc.2 j w (by rw [← Array.getElem?_toList]; exact h2)
    obtain ⟨x', h3, h4⟩ := KV.at' rel hk
    rw [List.getElem?_map, h3] at h1
    cases h1
    exact h4
  · rw [Array.toArray_toList]; exact hS
end
/-- d[i] = v as one of several targets -/
def rSetD : TSet := fun o i v H Q => ∃ (a : Addr) (H' : Hp), o = .ref a ∧ DPut H a i v H' ∧ Q H'
theorem set_dict {X : Cx} (hu : X.A.units + 1 < cLine) : PSet X rSetD := by
  intro pins s σ H o i v ov iv u Q I ro ri rv h
  obtain ⟨a, H', rfl, g, q⟩ := h
  cases ro
  exact d_setItem hu I g ri rv fun s' I' => ⟨H', I', q⟩
end RF

set_option Elab.async false
set_option linter.all false
set_option maxRecDepth 100000
set_option maxHeartbeats 4000000
/-! Rules that name the written part, for a comprehension's block. -/
namespace RG
open PySem PySem.Spec PyProof.Rows L2
theorem pg_tupK {X : Cx} {K : PySem.W.Frag} {es : List Expr} {k n : Nat} {pos : Pos} {t : TGs} (hc : X.calm = true) (h : PGs X es t) (hn : (assignEach es X.env).length = n := by rfl) (hst : (assignEach es X.env).findIdx? (·.1) = none := by rfl) (z : X.K = K := by rfl) :
    PG X (.Tuple es k pos) (gTup K n t) := z ▸ pg_tup hc h hn hst
end RG

set_option Elab.async false
set_option linter.all false
set_option maxRecDepth 100000
set_option maxHeartbeats 4000000
/-! What a walk by itself leans on: facts of the heap carried over changes. -/
namespace RW
open PySem PySem.Spec PyProof.Rows L2 RC
section
variable {H H1 H2 : Hp} {p q s l : Addr} {o o' u : HO}
theorem at_same (e : Same H H1) (h : H p = some o) : H1 p = some o := e _ _ h
theorem at_old (e : Old s l H H1) (h1 : p ≠ s) (h2 : p ≠ l) (h : H p = some o) : H1 p = some o := e _ _ h1 h2 h
theorem at_upd (n : q ≠ p) (h : H q = some u) : upd H p o q = some u := by rw [upd_ne n]; exact h
theorem no_upd (n : q ≠ p) (h : H q = none) : upd H p o q = none := by rw [upd_ne n]; exact h
theorem ne_new (h : H p = none) (h2 : H q = some u) : q ≠ p := ne_of_none h2 h
theorem ne_new' (h : H p = none) (h2 : H q = some u) : p ≠ q := Ne.symm (ne_of_none h2 h)
theorem ne_kind (h : H p = some o) (h' : H q = some u) (n : o ≠ u) : p ≠ q := fun z => n (by rw [z] at h; exact Option.some.inj (h.symm.trans h'))
theorem same_put_new (e : Same H H1) (h : H1 p = none) : Same H (upd H1 p o) := e.trans (same_new h o)
theorem same_put (e : Same H H1) (h : H p = none) : Same H (upd H1 p o) := fun b x hb => by rw [upd_ne (ne_of_none hb h)]; exact e _ _ hb
theorem same_then (h : Same H1 H2) (e : Same H H1) : Same H H2 := e.trans h
theorem free_same (e : Same H H1) (h : H1 p = none) : H p = none := e.free h
theorem free_upd (h : upd H p o q = none) : H q = none := (upd_none h).2
theorem ne_upd (h : upd H p o q = none) : q ≠ p := (upd_none h).1
theorem some_ref {xs : List V} {K : PySem.W.Frag} (h : H p = some (.lst xs)) : SqL K H p xs := SqL.of h
theorem rd_of (h : H p = some o) : Rd H p o := .inl h
theorem fr {R : Addr → Prop} (h : ∀ x, H x = none → x ≠ p → R x) : ∀ x, upd H p o x = none → R x := fun x hx => h x (upd_none hx).2 (upd_none hx).1
theorem fr_same {R : Addr → Prop} (e : Same H H1) (h : ∀ x, H x = none → H1 x = none → R x) : ∀ x, H1 x = none → R x := fun x hx => h x (e.free hx) hx
theorem gHp (h : H p = some o) : H p = some o := h
theorem gStm {n : Nat} (h : Stm H s l n) : Stm H s l n := h
theorem stm_upd {n : Nat} (h1 : p ≠ s) (h2 : p ≠ l) (h : Stm H s l n) : Stm (upd H p o) s l n := by
  obtain ⟨ne, ns, x, c, d, g1, g2, g3⟩ := h
  exact ⟨ne, ns, x, c, d, by rw [upd_ne (Ne.symm h1)]; exact g1, by rw [upd_ne (Ne.symm h2)]; exact g2, g3⟩
theorem stm_at {n : Nat} (h : Stm H s l n) : (∃ o, H s = some o) ∧ (∃ o, H l = some o) ∧ s ≠ l := by
  obtain ⟨ne, ns, x, c, d, g1, g2, g3⟩ := h
  exact ⟨⟨_, g1⟩, ⟨_, g2⟩, ne⟩
theorem stm_same {n : Nat} (h : Stm H s l n) (e : Same H H1) : Stm H1 s l n := h.same e
theorem old_upd (e : Old s l H H1) (h : H p = none) : Old s l H (upd H1 p o) := fun b x h1 h2 hb => by rw [upd_ne (ne_of_none hb h)]; exact e _ _ h1 h2 hb
theorem old_same (e : Old s l H H1) (h : Same H1 H2) : Old s l H H2 := fun b x h1 h2 hb => h _ _ (e _ _ h1 h2 hb)
theorem old_then (h : Old s l H1 H2) (e : Old s l H H1) : Old s l H H2 := e.trans h
theorem old_of (e : Same H H1) : Old s l H H1 := Old.of_same e
theorem gOld (h : Old s l H H1) : Old s l H H1 := h
theorem gCp {i j : Int} (h : 0 ≤ j ∧ j ≤ 1000000 ∧ i.natAbs < 2 ^ 64) : CPow i j := h
theorem gNe (h : p ≠ q) : p ≠ q := h
theorem isMut {d : Addr} {w : HO} {R : Prop} (h : H d = some w ∧ Mut (H d) ∧ R) : H d = some w ∧ Mut (H d) ∧ R := h
theorem isMut2 {d : Addr} {w : HO} {R : Prop} (h : H d = some w ∧ Mut (some w) ∧ R) : H d = some w ∧ Mut (some w) ∧ R := h
theorem gSm (h : Same H H1) : Same H H1 := h
theorem gCls {K : PySem.W.Frag} {C : Addr} (h : Cls K C) : Cls K C := h
theorem gNo {K : PySem.W.Frag} {C : Addr} {f : Str} (h : NoAttr K C f) : NoAttr K C f := h
theorem gCv {c : V} {u : Value} (h : ClsV c u) : ClsV c u := h
theorem gTy {K : PySem.W.Frag} {c : V} {u : Value} (h : TyX K H c u) : TyX K H c u := h
theorem gKit {K : PySem.W.Frag} {t c : Value} {b : Bool} (h : PySem.W.kitOne K t c = some b) : PySem.W.kitOne K t c = some b := h
theorem gKita {K : PySem.W.Frag} {t : Value} {c : List Value} {b : Bool} (h : PySem.W.kitAny K t c = some b) : PySem.W.kitAny K t c = some b := h
theorem gSl {K : PySem.W.Frag} {xs : List V} (h : SqL K H p xs) : SqL K H p xs := h
theorem gSt {K : PySem.W.Frag} {xs : List V} (h : SqT K H p xs) : SqT K H p xs := h
theorem gPr {cs : List V} {us : List Value} (h : Paired ClsV cs us) : Paired ClsV cs us := h
theorem gKi {K : PySem.W.Frag} {t : Value} {b : Bool} (h : PySem.W.kitOne K t (.type "int") = some b) : PySem.W.kitOne K t (.type "int") = some b := h
theorem gKb {K : PySem.W.Frag} {t : Value} {b : Bool} (h : PySem.W.kitOne K t (.type "bool") = some b) : PySem.W.kitOne K t (.type "bool") = some b := h
theorem gKs {K : PySem.W.Frag} {t : Value} {b : Bool} (h : PySem.W.kitOne K t (.type "str") = some b) : PySem.W.kitOne K t (.type "str") = some b := h
theorem gKl {K : PySem.W.Frag} {t : Value} {b : Bool} (h : PySem.W.kitOne K t (.type "list") = some b) : PySem.W.kitOne K t (.type "list") = some b := h
theorem gKt {K : PySem.W.Frag} {t : Value} {b : Bool} (h : PySem.W.kitOne K t (.type "tuple") = some b) : PySem.W.kitOne K t (.type "tuple") = some b := h
theorem gKd {K : PySem.W.Frag} {t : Value} {b : Bool} (h : PySem.W.kitOne K t (.type "dict") = some b) : PySem.W.kitOne K t (.type "dict") = some b := h
theorem cxK {P : Program} {w : World} {K : PySem.W.Frag} {mg : Str → Option Value} {base : Heap} {N : List Str} {qual : Str} {scope : Scope} {f : Addr} {cd : Value} {A : Around} {outer : List Env} {sh : Shared} {E : XK} :
    (cxOf CX0 P w K mg base N qual scope f cd A outer sh H E).nox.K = K := rfl
end
section
variable {H : Hp} {K : PySem.W.Frag} {a p : Addr} {kvs : List (Key × V)} {x y : Str} {i j : Int} {o : Option V} {od : Obj} {v : V} {xs : List V}
theorem dget_s (h : H a = some (.dK kvs)) (e : valV kvs (Sum.inr x) = o) : DGet H a (.str x) o := .inl ⟨kvs, Sum.inr x, .inl h, rfl, e.symm⟩
theorem dget_i (h : H a = some (.dK kvs)) (e : valV kvs (Sum.inl i) = o) : DGet H a (.int i) o := .inl ⟨kvs, Sum.inl i, .inl h, rfl, e.symm⟩
theorem dget_sF (h : H a = some (.frz od (.dK kvs))) (e : valV kvs (Sum.inr x) = o) : DGet H a (.str x) o := .inl ⟨kvs, Sum.inr x, .inr ⟨od, h⟩, rfl, e.symm⟩
theorem dget_sR (h : Rd H a (.dK kvs)) (e : valV kvs (Sum.inr x) = o) : DGet H a (.str x) o := .inl ⟨kvs, Sum.inr x, h, rfl, e.symm⟩
theorem dput_s (h : H a = some (.dK kvs)) (hl : kvs.length < sizeLine) : DPut H a (.str x) v (upd H a (.dK (putK kvs (Sum.inr x) v))) := DPut.k (k := Sum.inr x) h hl
theorem dput_i (h : H a = some (.dK kvs)) (hl : kvs.length < sizeLine) : DPut H a (.int i) v (upd H a (.dK (putK kvs (Sum.inl i) v))) := DPut.k (k := Sum.inl i) h hl
theorem sql_of (h : H p = some (.lst xs)) : ∃ ys, SqL K H p ys := ⟨xs, SqL.of h⟩
theorem sqt_of (h : H p = some (.tup xs)) : ∃ ys, SqT K H p ys := ⟨xs, SqT.of h⟩
theorem disp1 {a0 : Str} {v0 : V} {R : List (Key × V) → Prop} (h : R [((Sum.inr a0 : Key), v0)]) : ∃ kvs : List (Key × V), [(V.str a0, v0)] = kvs.map (fun kv => (kV kv.1, kv.2)) ∧ kvs.length ≤ 15 ∧ R kvs := ⟨[((Sum.inr a0 : Key), v0)], rfl, Nat.le_of_ble_eq_true rfl, h⟩
theorem disp2 {a0 a1 : Str} {v0 v1 : V} {R : List (Key × V) → Prop} (h : R [((Sum.inr a0 : Key), v0), ((Sum.inr a1 : Key), v1)]) : ∃ kvs : List (Key × V), [(V.str a0, v0), (V.str a1, v1)] = kvs.map (fun kv => (kV kv.1, kv.2)) ∧ kvs.length ≤ 15 ∧ R kvs := ⟨[((Sum.inr a0 : Key), v0), ((Sum.inr a1 : Key), v1)], rfl, Nat.le_of_ble_eq_true rfl, h⟩
theorem disp3 {a0 a1 a2 : Str} {v0 v1 v2 : V} {R : List (Key × V) → Prop} (h : R [((Sum.inr a0 : Key), v0), ((Sum.inr a1 : Key), v1), ((Sum.inr a2 : Key), v2)]) : ∃ kvs : List (Key × V), [(V.str a0, v0), (V.str a1, v1), (V.str a2, v2)] = kvs.map (fun kv => (kV kv.1, kv.2)) ∧ kvs.length ≤ 15 ∧ R kvs := ⟨[((Sum.inr a0 : Key), v0), ((Sum.inr a1 : Key), v1), ((Sum.inr a2 : Key), v2)], rfl, Nat.le_of_ble_eq_true rfl, h⟩
theorem disp4 {a0 a1 a2 a3 : Str} {v0 v1 v2 v3 : V} {R : List (Key × V) → Prop} (h : R [((Sum.inr a0 : Key), v0), ((Sum.inr a1 : Key), v1), ((Sum.inr a2 : Key), v2), ((Sum.inr a3 : Key), v3)]) : ∃ kvs : List (Key × V), [(V.str a0, v0), (V.str a1, v1), (V.str a2, v2), (V.str a3, v3)] = kvs.map (fun kv => (kV kv.1, kv.2)) ∧ kvs.length ≤ 15 ∧ R kvs := ⟨[((Sum.inr a0 : Key), v0), ((Sum.inr a1 : Key), v1), ((Sum.inr a2 : Key), v2), ((Sum.inr a3 : Key), v3)], rfl, Nat.le_of_ble_eq_true rfl, h⟩
theorem disp5 {a0 a1 a2 a3 a4 : Str} {v0 v1 v2 v3 v4 : V} {R : List (Key × V) → Prop} (h : R [((Sum.inr a0 : Key), v0), ((Sum.inr a1 : Key), v1), ((Sum.inr a2 : Key), v2), ((Sum.inr a3 : Key), v3), ((Sum.inr a4 : Key), v4)]) : ∃ kvs : List (Key × V), [(V.str a0, v0), (V.str a1, v1), (V.str a2, v2), (V.str a3, v3), (V.str a4, v4)] = kvs.map (fun kv => (kV kv.1, kv.2)) ∧ kvs.length ≤ 15 ∧ R kvs := ⟨[((Sum.inr a0 : Key), v0), ((Sum.inr a1 : Key), v1), ((Sum.inr a2 : Key), v2), ((Sum.inr a3 : Key), v3), ((Sum.inr a4 : Key), v4)], rfl, Nat.le_of_ble_eq_true rfl, h⟩
theorem disp6 {a0 a1 a2 a3 a4 a5 : Str} {v0 v1 v2 v3 v4 v5 : V} {R : List (Key × V) → Prop} (h : R [((Sum.inr a0 : Key), v0), ((Sum.inr a1 : Key), v1), ((Sum.inr a2 : Key), v2), ((Sum.inr a3 : Key), v3), ((Sum.inr a4 : Key), v4), ((Sum.inr a5 : Key), v5)]) : ∃ kvs : List (Key × V), [(V.str a0, v0), (V.str a1, v1), (V.str a2, v2), (V.str a3, v3), (V.str a4, v4), (V.str a5, v5)] = kvs.map (fun kv => (kV kv.1, kv.2)) ∧ kvs.length ≤ 15 ∧ R kvs := ⟨[((Sum.inr a0 : Key), v0), ((Sum.inr a1 : Key), v1), ((Sum.inr a2 : Key), v2), ((Sum.inr a3 : Key), v3), ((Sum.inr a4 : Key), v4), ((Sum.inr a5 : Key), v5)], rfl, Nat.le_of_ble_eq_true rfl, h⟩
theorem disp7 {a0 a1 a2 a3 a4 a5 a6 : Str} {v0 v1 v2 v3 v4 v5 v6 : V} {R : List (Key × V) → Prop} (h : R [((Sum.inr a0 : Key), v0), ((Sum.inr a1 : Key), v1), ((Sum.inr a2 : Key), v2), ((Sum.inr a3 : Key), v3), ((Sum.inr a4 : Key), v4), ((Sum.inr a5 : Key), v5), ((Sum.inr a6 : Key), v6)]) : ∃ kvs : List (Key × V), [(V.str a0, v0), (V.str a1, v1), (V.str a2, v2), (V.str a3, v3), (V.str a4, v4), (V.str a5, v5), (V.str a6, v6)] = kvs.map (fun kv => (kV kv.1, kv.2)) ∧ kvs.length ≤ 15 ∧ R kvs := ⟨[((Sum.inr a0 : Key), v0), ((Sum.inr a1 : Key), v1), ((Sum.inr a2 : Key), v2), ((Sum.inr a3 : Key), v3), ((Sum.inr a4 : Key), v4), ((Sum.inr a5 : Key), v5), ((Sum.inr a6 : Key), v6)], rfl, Nat.le_of_ble_eq_true rfl, h⟩
theorem disp8 {a0 a1 a2 a3 a4 a5 a6 a7 : Str} {v0 v1 v2 v3 v4 v5 v6 v7 : V} {R : List (Key × V) → Prop} (h : R [((Sum.inr a0 : Key), v0), ((Sum.inr a1 : Key), v1), ((Sum.inr a2 : Key), v2), ((Sum.inr a3 : Key), v3), ((Sum.inr a4 : Key), v4), ((Sum.inr a5 : Key), v5), ((Sum.inr a6 : Key), v6), ((Sum.inr a7 : Key), v7)]) : ∃ kvs : List (Key × V), [(V.str a0, v0), (V.str a1, v1), (V.str a2, v2), (V.str a3, v3), (V.str a4, v4), (V.str a5, v5), (V.str a6, v6), (V.str a7, v7)] = kvs.map (fun kv => (kV kv.1, kv.2)) ∧ kvs.length ≤ 15 ∧ R kvs := ⟨[((Sum.inr a0 : Key), v0), ((Sum.inr a1 : Key), v1), ((Sum.inr a2 : Key), v2), ((Sum.inr a3 : Key), v3), ((Sum.inr a4 : Key), v4), ((Sum.inr a5 : Key), v5), ((Sum.inr a6 : Key), v6), ((Sum.inr a7 : Key), v7)], rfl, Nat.le_of_ble_eq_true rfl, h⟩
theorem len_sl (h : SqL K H p xs) : LenV K (.ref p) H xs.length := .inl ⟨xs, h, rfl⟩
theorem len_st (h : SqT K H p xs) : LenV K (.ref p) H xs.length := .inr ⟨xs, h, rfl⟩
theorem sql_same {H' : Hp} (h : SqL K H p xs) (e : Same H H') : SqL K H' p xs := e.seq h
theorem sqt_same {H' : Hp} (h : SqT K H p xs) (e : Same H H') : SqT K H' p xs := e.seqT h
theorem ka1 {t c : Value} {b : Bool} (h : PySem.W.kitOne K t c = some b) : PySem.W.kitAny K t [c] = some (b || false) := kitAny_cons h (fun e => by rw [e]; rfl) (fun e => by rw [e]; rfl)
theorem kac {t c : Value} {cs : List Value} {b r : Bool} (h : PySem.W.kitOne K t c = some b) (h2 : PySem.W.kitAny K t cs = some r) : PySem.W.kitAny K t (c :: cs) = some (b || r) := kitAny_cons h (fun e => by rw [e]; exact h2) (fun e => by rw [e]; rfl)
theorem ka2 {t c1 c2 : Value} {b1 b2 : Bool} (h1 : PySem.W.kitOne K t c1 = some b1) (h2 : PySem.W.kitOne K t c2 = some b2) : PySem.W.kitAny K t [c1, c2] = some (b1 || (b2 || false)) := kac h1 (ka1 h2)
theorem ka3 {t c1 c2 c3 : Value} {b1 b2 b3 : Bool} (h1 : PySem.W.kitOne K t c1 = some b1) (h2 : PySem.W.kitOne K t c2 = some b2) (h3 : PySem.W.kitOne K t c3 = some b3) : PySem.W.kitAny K t [c1, c2, c3] = some (b1 || (b2 || (b3 || false))) := kac h1 (ka2 h2 h3)
theorem ka4 {t c1 c2 c3 c4 : Value} {b1 b2 b3 b4 : Bool} (h1 : PySem.W.kitOne K t c1 = some b1) (h2 : PySem.W.kitOne K t c2 = some b2) (h3 : PySem.W.kitOne K t c3 = some b3) (h4 : PySem.W.kitOne K t c4 = some b4) : PySem.W.kitAny K t [c1, c2, c3, c4] = some (b1 || (b2 || (b3 || (b4 || false)))) := kac h1 (ka3 h2 h3 h4)
theorem ka5 {t c1 c2 c3 c4 c5 : Value} {b1 b2 b3 b4 b5 : Bool} (h1 : PySem.W.kitOne K t c1 = some b1) (h2 : PySem.W.kitOne K t c2 = some b2) (h3 : PySem.W.kitOne K t c3 = some b3) (h4 : PySem.W.kitOne K t c4 = some b4) (h5 : PySem.W.kitOne K t c5 = some b5) : PySem.W.kitAny K t [c1, c2, c3, c4, c5] = some (b1 || (b2 || (b3 || (b4 || (b5 || false))))) := kac h1 (ka4 h2 h3 h4 h5)
theorem len_l (h : H p = some (.lst xs)) : LenV K (.ref p) H xs.length := .inl ⟨xs, SqL.of h, rfl⟩
theorem tyv_l (h : H p = some (.lst xs)) : tyV K "list" (.ref p) H := .inl ⟨rfl, _, SqL.of h⟩
theorem tyv_s (h : SqL K H p xs) : tyV K "list" (.ref p) H := .inl ⟨rfl, _, h⟩
theorem isd (h : H a = some (.dK kvs)) : IsD H a := .inl ⟨kvs, .inl h⟩
theorem cSsT (h : x = y) : decide (V.str x = V.str y) = true := decide_eq_true (congrArg V.str h)
theorem cSsF (h : x ≠ y) : decide (V.str x = V.str y) = false := decide_eq_false fun z => h (V.str.inj z)
theorem cNsT (h : x ≠ y) : (!decide (V.str x = V.str y)) = true := by rw [cSsF h]; rfl
theorem cNsF (h : x = y) : (!decide (V.str x = V.str y)) = false := by rw [cSsT h]; rfl
theorem cSiT (h : i = j) : decide (V.int i = V.int j) = true := decide_eq_true (congrArg V.int h)
theorem cSiF (h : i ≠ j) : decide (V.int i = V.int j) = false := decide_eq_false fun z => h (V.int.inj z)
theorem cNiT (h : i ≠ j) : (!decide (V.int i = V.int j)) = true := by rw [cSiF h]; rfl
theorem cNiF (h : i = j) : (!decide (V.int i = V.int j)) = false := by rw [cSiT h]; rfl
theorem someT (h : o = some v) : o.isSome = true := by rw [h]; rfl
theorem someF (h : o = none) : o.isSome = false := by rw [h]; rfl
theorem nsomeT (h : o = none) : (!o.isSome) = true := by rw [h]; rfl
theorem nsomeF (h : o = some v) : (!o.isSome) = false := by rw [h]; rfl
end
theorem k_int_int {K : PySem.W.Frag} : PySem.W.kitOne K (.type "int") (.type "int") = some true := kit_ty (by decide +kernel)
theorem k_int_bool {K : PySem.W.Frag} : PySem.W.kitOne K (.type "int") (.type "bool") = some false := kit_ty (by decide +kernel)
theorem k_int_str {K : PySem.W.Frag} : PySem.W.kitOne K (.type "int") (.type "str") = some false := kit_ty (by decide +kernel)
theorem k_int_list {K : PySem.W.Frag} : PySem.W.kitOne K (.type "int") (.type "list") = some false := kit_ty (by decide +kernel)
theorem k_int_tuple {K : PySem.W.Frag} : PySem.W.kitOne K (.type "int") (.type "tuple") = some false := kit_ty (by decide +kernel)
theorem k_int_dict {K : PySem.W.Frag} : PySem.W.kitOne K (.type "int") (.type "dict") = some false := kit_ty (by decide +kernel)
theorem k_bool_int {K : PySem.W.Frag} : PySem.W.kitOne K (.type "bool") (.type "int") = some true := kit_ty (by decide +kernel)
theorem k_bool_bool {K : PySem.W.Frag} : PySem.W.kitOne K (.type "bool") (.type "bool") = some true := kit_ty (by decide +kernel)
theorem k_bool_str {K : PySem.W.Frag} : PySem.W.kitOne K (.type "bool") (.type "str") = some false := kit_ty (by decide +kernel)
theorem k_bool_list {K : PySem.W.Frag} : PySem.W.kitOne K (.type "bool") (.type "list") = some false := kit_ty (by decide +kernel)
theorem k_bool_tuple {K : PySem.W.Frag} : PySem.W.kitOne K (.type "bool") (.type "tuple") = some false := kit_ty (by decide +kernel)
theorem k_bool_dict {K : PySem.W.Frag} : PySem.W.kitOne K (.type "bool") (.type "dict") = some false := kit_ty (by decide +kernel)
theorem k_str_int {K : PySem.W.Frag} : PySem.W.kitOne K (.type "str") (.type "int") = some false := kit_ty (by decide +kernel)
theorem k_str_bool {K : PySem.W.Frag} : PySem.W.kitOne K (.type "str") (.type "bool") = some false := kit_ty (by decide +kernel)
theorem k_str_str {K : PySem.W.Frag} : PySem.W.kitOne K (.type "str") (.type "str") = some true := kit_ty (by decide +kernel)
theorem k_str_list {K : PySem.W.Frag} : PySem.W.kitOne K (.type "str") (.type "list") = some false := kit_ty (by decide +kernel)
theorem k_str_tuple {K : PySem.W.Frag} : PySem.W.kitOne K (.type "str") (.type "tuple") = some false := kit_ty (by decide +kernel)
theorem k_str_dict {K : PySem.W.Frag} : PySem.W.kitOne K (.type "str") (.type "dict") = some false := kit_ty (by decide +kernel)
theorem k_NoneType_int {K : PySem.W.Frag} : PySem.W.kitOne K (.type "NoneType") (.type "int") = some false := kit_ty (by decide +kernel)
theorem k_NoneType_bool {K : PySem.W.Frag} : PySem.W.kitOne K (.type "NoneType") (.type "bool") = some false := kit_ty (by decide +kernel)
theorem k_NoneType_str {K : PySem.W.Frag} : PySem.W.kitOne K (.type "NoneType") (.type "str") = some false := kit_ty (by decide +kernel)
theorem k_NoneType_list {K : PySem.W.Frag} : PySem.W.kitOne K (.type "NoneType") (.type "list") = some false := kit_ty (by decide +kernel)
theorem k_NoneType_tuple {K : PySem.W.Frag} : PySem.W.kitOne K (.type "NoneType") (.type "tuple") = some false := kit_ty (by decide +kernel)
theorem k_NoneType_dict {K : PySem.W.Frag} : PySem.W.kitOne K (.type "NoneType") (.type "dict") = some false := kit_ty (by decide +kernel)
theorem k_list_int {K : PySem.W.Frag} : PySem.W.kitOne K (.type "list") (.type "int") = some false := kit_ty (by decide +kernel)
theorem k_list_bool {K : PySem.W.Frag} : PySem.W.kitOne K (.type "list") (.type "bool") = some false := kit_ty (by decide +kernel)
theorem k_list_str {K : PySem.W.Frag} : PySem.W.kitOne K (.type "list") (.type "str") = some false := kit_ty (by decide +kernel)
theorem k_list_list {K : PySem.W.Frag} : PySem.W.kitOne K (.type "list") (.type "list") = some true := kit_ty (by decide +kernel)
theorem k_list_tuple {K : PySem.W.Frag} : PySem.W.kitOne K (.type "list") (.type "tuple") = some false := kit_ty (by decide +kernel)
theorem k_list_dict {K : PySem.W.Frag} : PySem.W.kitOne K (.type "list") (.type "dict") = some false := kit_ty (by decide +kernel)
theorem k_tuple_int {K : PySem.W.Frag} : PySem.W.kitOne K (.type "tuple") (.type "int") = some false := kit_ty (by decide +kernel)
theorem k_tuple_bool {K : PySem.W.Frag} : PySem.W.kitOne K (.type "tuple") (.type "bool") = some false := kit_ty (by decide +kernel)
theorem k_tuple_str {K : PySem.W.Frag} : PySem.W.kitOne K (.type "tuple") (.type "str") = some false := kit_ty (by decide +kernel)
theorem k_tuple_list {K : PySem.W.Frag} : PySem.W.kitOne K (.type "tuple") (.type "list") = some false := kit_ty (by decide +kernel)
theorem k_tuple_tuple {K : PySem.W.Frag} : PySem.W.kitOne K (.type "tuple") (.type "tuple") = some true := kit_ty (by decide +kernel)
theorem k_tuple_dict {K : PySem.W.Frag} : PySem.W.kitOne K (.type "tuple") (.type "dict") = some false := kit_ty (by decide +kernel)
theorem k_dict_int {K : PySem.W.Frag} : PySem.W.kitOne K (.type "dict") (.type "int") = some false := kit_ty (by decide +kernel)
theorem k_dict_bool {K : PySem.W.Frag} : PySem.W.kitOne K (.type "dict") (.type "bool") = some false := kit_ty (by decide +kernel)
theorem k_dict_str {K : PySem.W.Frag} : PySem.W.kitOne K (.type "dict") (.type "str") = some false := kit_ty (by decide +kernel)
theorem k_dict_list {K : PySem.W.Frag} : PySem.W.kitOne K (.type "dict") (.type "list") = some false := kit_ty (by decide +kernel)
theorem k_dict_tuple {K : PySem.W.Frag} : PySem.W.kitOne K (.type "dict") (.type "tuple") = some false := kit_ty (by decide +kernel)
theorem k_dict_dict {K : PySem.W.Frag} : PySem.W.kitOne K (.type "dict") (.type "dict") = some true := kit_ty (by decide +kernel)
end RW

set_option Elab.async false
set_option linter.all false
set_option maxRecDepth 100000
set_option maxHeartbeats 0
namespace K17
open PySem PySem.Spec PyProof.Rows L2 RC
/-! ### the text -/
def top (i : Nat) : Stmt := PySem.Challenge.pw_recordyard_k08_formats_in_braces_refused.main.body.getD i (.Pass ⟨0, 0, 0, 0⟩)
abbrev s_Field_init : Stmt := inClass (top 4) 0
abbrev nm_Field_init : List Str := ["self", "name", "conversion", "fill", "align", "width"]
theorem sc_Field_init : FnScope nm_Field_init ["self", "name", "conversion", "fill", "align", "width"] (defScope s_Field_init) := ⟨rfl, rfl, rfl, by decide +kernel, rfl, by decide +kernel, by decide +kernel⟩
def dd_Field_init : He.DefD := ⟨("Field", some "__init__"), "__init__", "Field.__init__", defArgs s_Field_init, defBody s_Field_init, defScope s_Field_init, [.str "", .str " ", .str "", .int 0], []⟩
abbrev s_name_end : Stmt := top 5
abbrev nm_name_end : List Str := ["text", "start", "end"]
theorem sc_name_end : FnScope nm_name_end ["text", "start"] (defScope s_name_end) := ⟨rfl, rfl, rfl, by decide +kernel, rfl, by decide +kernel, by decide +kernel⟩
def dd_name_end : He.DefD := ⟨("name_end", none), "name_end", "name_end", defArgs s_name_end, defBody s_name_end, defScope s_name_end, [], []⟩
abbrev s_is_width : Stmt := top 8
abbrev nm_is_width : List Str := ["text", "sign"]
theorem sc_is_width : FnScope nm_is_width ["text"] (defScope s_is_width) := ⟨rfl, rfl, rfl, by decide +kernel, rfl, by decide +kernel, by decide +kernel⟩
def dd_is_width : He.DefD := ⟨("is_width", none), "is_width", "is_width", defArgs s_is_width, defBody s_is_width, defScope s_is_width, [], []⟩
abbrev s_spec_of : Stmt := top 9
abbrev nm_spec_of : List Str := ["spec", "fill", "align", "width"]
theorem sc_spec_of : FnScope nm_spec_of ["spec"] (defScope s_spec_of) := ⟨rfl, rfl, rfl, by decide +kernel, rfl, by decide +kernel, by decide +kernel⟩
def dd_spec_of : He.DefD := ⟨("spec_of", none), "spec_of", "spec_of", defArgs s_spec_of, defBody s_spec_of, defScope s_spec_of, [], []⟩
abbrev s_field_of : Stmt := top 10
abbrev nm_field_of : List Str := ["body", "end", "name", "rest", "conversion", "spec"]
theorem sc_field_of : FnScope nm_field_of ["body"] (defScope s_field_of) := ⟨rfl, rfl, rfl, by decide +kernel, rfl, by decide +kernel, by decide +kernel⟩
def dd_field_of : He.DefD := ⟨("field_of", none), "field_of", "field_of", defArgs s_field_of, defBody s_field_of, defScope s_field_of, [], []⟩
abbrev s_parts_of_braces : Stmt := top 11
abbrev nm_parts_of_braces : List Str := ["fmt", "found", "at", "end", "part"]
theorem sc_parts_of_braces : FnScope nm_parts_of_braces ["fmt"] (defScope s_parts_of_braces) := ⟨rfl, rfl, rfl, by decide +kernel, rfl, by decide +kernel, by decide +kernel⟩
def dd_parts_of_braces : He.DefD := ⟨("parts_of_braces", none), "parts_of_braces", "parts_of_braces", defArgs s_parts_of_braces, defBody s_parts_of_braces, defScope s_parts_of_braces, [], []⟩
abbrev s_BadFormat_init : Stmt := inClass (top 17) 0
abbrev nm_BadFormat_init : List Str := ["self", "fmt"]
theorem sc_BadFormat_init : FnScope nm_BadFormat_init ["self", "fmt"] (defScope s_BadFormat_init) := ⟨rfl, rfl, rfl, by decide +kernel, rfl, by decide +kernel, by decide +kernel⟩
def dd_BadFormat_init : He.DefD := ⟨("BadFormat", some "__init__"), "__init__", "BadFormat.__init__", defArgs s_BadFormat_init, defBody s_BadFormat_init, defScope s_BadFormat_init, [], []⟩
abbrev s_BadStyle_init : Stmt := inClass (top 18) 0
abbrev nm_BadStyle_init : List Str := ["self", "style"]
theorem sc_BadStyle_init : FnScope nm_BadStyle_init ["self", "style"] (defScope s_BadStyle_init) := ⟨rfl, rfl, rfl, by decide +kernel, rfl, by decide +kernel, by decide +kernel⟩
def dd_BadStyle_init : He.DefD := ⟨("BadStyle", some "__init__"), "__init__", "BadStyle.__init__", defArgs s_BadStyle_init, defBody s_BadStyle_init, defScope s_BadStyle_init, [], []⟩
abbrev s_joined_texts : Stmt := top 23
abbrev nm_joined_texts : List Str := ["parts", "found", "part"]
theorem sc_joined_texts : FnScope nm_joined_texts ["parts"] (defScope s_joined_texts) := ⟨rfl, rfl, rfl, by decide +kernel, rfl, by decide +kernel, by decide +kernel⟩
def dd_joined_texts : He.DefD := ⟨("joined_texts", none), "joined_texts", "joined_texts", defArgs s_joined_texts, defBody s_joined_texts, defScope s_joined_texts, [], []⟩
abbrev s_Formatter_init : Stmt := inClass (top 24) 0
abbrev nm_Formatter_init : List Str := ["self", "fmt", "style", "validate", "defaults", "text", "parts", "part"]
theorem sc_Formatter_init : FnScope nm_Formatter_init ["self", "fmt", "style", "validate", "defaults"] (defScope s_Formatter_init) := ⟨rfl, rfl, rfl, by decide +kernel, rfl, by decide +kernel, by decide +kernel⟩
def dd_Formatter_init : He.DefD := ⟨("Formatter", some "__init__"), "__init__", "Formatter.__init__", defArgs s_Formatter_init, defBody s_Formatter_init, defScope s_Formatter_init, [.non, .str "{", .bl true, .non], []⟩
abbrev s__law_draw : Stmt := top 26
abbrev nm__law_draw : List Str := ["_law_stream", "_law_many", "_law_digit", "_law_mixed", "_law_last"]
theorem sc__law_draw : FnScope nm__law_draw ["_law_stream", "_law_many"] (defScope s__law_draw) := ⟨rfl, rfl, rfl, by decide +kernel, rfl, by decide +kernel, by decide +kernel⟩
def dd__law_draw : He.DefD := ⟨("_law_draw", none), "_law_draw", "_law_draw", defArgs s__law_draw, defBody s__law_draw, defScope s__law_draw, [], []⟩
abbrev s__law_pick : Stmt := top 27
abbrev nm__law_pick : List Str := ["_law_stream", "_law_some"]
theorem sc__law_pick : FnScope nm__law_pick ["_law_stream", "_law_some"] (defScope s__law_pick) := ⟨rfl, rfl, rfl, by decide +kernel, rfl, by decide +kernel, by decide +kernel⟩
def dd__law_pick : He.DefD := ⟨("_law_pick", none), "_law_pick", "_law_pick", defArgs s__law_pick, defBody s__law_pick, defScope s__law_pick, [], []⟩
abbrev s__law_text : Stmt := top 28
abbrev nm__law_text : List Str := ["_law_stream", "_law_signs", "_law_most", "_law_k"]
theorem sc__law_text : FnScope nm__law_text ["_law_stream", "_law_signs", "_law_most"] (defScope s__law_text) := ⟨rfl, rfl, rfl, by decide +kernel, rfl, by decide +kernel, by decide +kernel⟩
def dd__law_text : He.DefD := ⟨("_law_text", none), "_law_text", "_law_text", defArgs s__law_text, defBody s__law_text, defScope s__law_text, [], []⟩
abbrev s__law_same : Stmt := top 29
abbrev nm__law_same : List Str := ["_law_found", "_law_due", "_law_key", "_law_one", "_law_other"]
theorem sc__law_same : FnScope nm__law_same ["_law_found", "_law_due"] (defScope s__law_same) := ⟨rfl, rfl, rfl, by decide +kernel, rfl, by decide +kernel, by decide +kernel⟩
def dd__law_same : He.DefD := ⟨("_law_same", none), "_law_same", "_law_same", defArgs s__law_same, defBody s__law_same, defScope s__law_same, [], []⟩
abbrev s__law_formatter_told : Stmt := top 35
abbrev nm__law_formatter_told : List Str := ["_law_form", "_law_sign", "_law_firm", "e"]
theorem sc__law_formatter_told : FnScope nm__law_formatter_told ["_law_form", "_law_sign", "_law_firm"] (defScope s__law_formatter_told) := ⟨rfl, rfl, rfl, by decide +kernel, rfl, by decide +kernel, by decide +kernel⟩
def dd__law_formatter_told : He.DefD := ⟨("_law_formatter_told", none), "_law_formatter_told", "_law_formatter_told", defArgs s__law_formatter_told, defBody s__law_formatter_told, defScope s__law_formatter_told, [], []⟩
abbrev s__law_field : Stmt := top 30
abbrev nm__law_field : List Str := ["_law_stream", "_law_keys", "_law_key", "_law_sign", "_law_align", "_law_fill"]
theorem sc__law_field : FnScope nm__law_field ["_law_stream", "_law_keys"] (defScope s__law_field) := ⟨rfl, rfl, rfl, by decide +kernel, rfl, by decide +kernel, by decide +kernel⟩
def dd__law_field : He.DefD := ⟨("_law_field", none), "_law_field", "_law_field", defArgs s__law_field, defBody s__law_field, defScope s__law_field, [], []⟩
abbrev s__law_braced : Stmt := top 31
abbrev nm__law_braced : List Str := ["_law_field_here", "_law_key", "_law_sign", "_law_fill", "_law_align", "_law_width", "_law_spec"]
theorem sc__law_braced : FnScope nm__law_braced ["_law_field_here"] (defScope s__law_braced) := ⟨rfl, rfl, rfl, by decide +kernel, rfl, by decide +kernel, by decide +kernel⟩
def dd__law_braced : He.DefD := ⟨("_law_braced", none), "_law_braced", "_law_braced", defArgs s__law_braced, defBody s__law_braced, defScope s__law_braced, [], []⟩
abbrev s__law_braced_text : Stmt := top 32
abbrev nm__law_braced_text : List Str := ["_law_shown"]
theorem sc__law_braced_text : FnScope nm__law_braced_text ["_law_shown"] (defScope s__law_braced_text) := ⟨rfl, rfl, rfl, by decide +kernel, rfl, by decide +kernel, by decide +kernel⟩
def dd__law_braced_text : He.DefD := ⟨("_law_braced_text", none), "_law_braced_text", "_law_braced_text", defArgs s__law_braced_text, defBody s__law_braced_text, defScope s__law_braced_text, [], []⟩
abbrev s__law_format_parts : Stmt := top 33
abbrev nm__law_format_parts : List Str := ["_law_stream", "_law_most", "_law_keys", "_law_found", "_law_k"]
theorem sc__law_format_parts : FnScope nm__law_format_parts ["_law_stream", "_law_most", "_law_keys"] (defScope s__law_format_parts) := ⟨rfl, rfl, rfl, by decide +kernel, rfl, by decide +kernel, by decide +kernel⟩
def dd__law_format_parts : He.DefD := ⟨("_law_format_parts", none), "_law_format_parts", "_law_format_parts", defArgs s__law_format_parts, defBody s__law_format_parts, defScope s__law_format_parts, [], []⟩
abbrev s__law_wrong_part : Stmt := top 34
abbrev nm__law_wrong_part : List Str := ["_law_stream", "_law_some"]
theorem sc__law_wrong_part : FnScope nm__law_wrong_part ["_law_stream"] (defScope s__law_wrong_part) := ⟨rfl, rfl, rfl, by decide +kernel, rfl, by decide +kernel, by decide +kernel⟩
def dd__law_wrong_part : He.DefD := ⟨("_law_wrong_part", none), "_law_wrong_part", "_law_wrong_part", defArgs s__law_wrong_part, defBody s__law_wrong_part, defScope s__law_wrong_part, [], []⟩
abbrev s__law_braced_parts : Stmt := top 36
abbrev nm__law_braced_parts : List Str := ["_law_parts", "_law_part"]
theorem sc__law_braced_parts : FnScope nm__law_braced_parts ["_law_parts"] (defScope s__law_braced_parts) := ⟨rfl, rfl, rfl, by decide +kernel, rfl, by decide +kernel, by decide +kernel⟩
def dd__law_braced_parts : He.DefD := ⟨("_law_braced_parts", none), "_law_braced_parts", "_law_braced_parts", defArgs s__law_braced_parts, defBody s__law_braced_parts, defScope s__law_braced_parts, [], []⟩
abbrev s__law_made_alone : Stmt := top 37
abbrev nm__law_made_alone : List Str := ["_law_form", "_law_sign", "e"]
theorem sc__law_made_alone : FnScope nm__law_made_alone ["_law_form", "_law_sign"] (defScope s__law_made_alone) := ⟨rfl, rfl, rfl, by decide +kernel, rfl, by decide +kernel, by decide +kernel⟩
def dd__law_made_alone : He.DefD := ⟨("_law_made_alone", none), "_law_made_alone", "_law_made_alone", defArgs s__law_made_alone, defBody s__law_made_alone, defScope s__law_made_alone, [], []⟩
abbrev s_law : Stmt := top 38
abbrev nm_law : List Str := ["_law_script", "_law_stream", "_law_turn", "_law_parts", "_law_right", "_law_firm", "_law_at", "_law_way", "_law_broken", "_law_spot", "_law_bare", "_law_due", "_law_odd", "_law_form"]
theorem sc_law : FnScope nm_law ["_law_script"] (defScope s_law) := ⟨rfl, rfl, rfl, by decide +kernel, rfl, by decide +kernel, by decide +kernel⟩
def dd_law : He.DefD := ⟨("law", none), "law", "law", defArgs s_law, defBody s_law, defScope s_law, [], []⟩
def kv_MESSAGE_ALONE : List (Key × He.Dv) := [(Sum.inr "{", .str "{message}"), (Sum.inr "$", .str "$message")]
def fa : List He.Fa := ([.glo "Field", .glo "Formatter", .glo "BadFormat", .glo "BadStyle", .glo "name_end", .glo "is_width", .glo "spec_of", .glo "field_of", .glo "parts_of_braces", .glo "joined_texts", .glo "_law_draw", .glo "_law_pick"] : List He.Fa) ++ ([.glo "_law_text", .glo "_law_same", .glo "_law_formatter_told", .glo "_law_field", .glo "_law_braced", .glo "_law_braced_text", .glo "_law_format_parts", .glo "_law_wrong_part", .glo "_law_braced_parts", .glo "_law_made_alone", .glo "law", .str "LETTERS" "abcdefghijklmnopqrstuvwxyzABCDEFGHIJKLMNOPQRSTUVWXYZ_"] : List He.Fa) ++ ([.str "DIGITS" "0123456789", .glo "ALIGNS", .glo "MESSAGE_ALONE", .free "len", .free "isinstance", .free "int", .free "str", .free "list", .free "tuple", .free "bool", .free "dict", .free "range"] : List He.Fa) ++ ([.free "sorted", .free "all", .free "zip", .cls "Field", .noat "Field" "name", .noat "Field" "conversion", .noat "Field" "fill", .noat "Field" "align", .noat "Field" "width", .cls "Formatter", .noat "Formatter" "fmt", .noat "Formatter" "style"] : List He.Fa) ++ ([.noat "Formatter" "parts", .noat "Formatter" "defaults", .mkr "Field", .mkr "Formatter"] : List He.Fa)
def fx : List RB.Fx := ([.exc "BadFormat" "fmt", .exc "BadStyle" "style", .exm "BadFormat" "BadFormat" true, .exm "BadFormat" "BadStyle" false, .exm "BadStyle" "BadFormat" false, .exm "BadStyle" "BadStyle" true, .ty "Field", .kiy "Field" "str" false, .ktup "ALIGNS" ["<", ">", "^"]] : List RB.Fx)
def fn : List He.DefD := ([dd_Field_init, dd_name_end, dd_is_width, dd_spec_of, dd_field_of, dd_parts_of_braces, dd_BadFormat_init, dd_BadStyle_init, dd_joined_texts, dd_Formatter_init, dd__law_draw, dd__law_pick] : List He.DefD) ++ ([dd__law_text, dd__law_same, dd__law_formatter_told, dd__law_field, dd__law_braced, dd__law_braced_text, dd__law_format_parts, dd__law_wrong_part, dd__law_braced_parts, dd__law_made_alone, dd_law] : List He.DefD)
def ts : List RB.Tb := ([("MESSAGE_ALONE", kv_MESSAGE_ALONE)] : List RB.Tb)
def names : List PySem.Str := (["_wall", "LETTERS", "DIGITS", "Field", "name_end", "ALIGNS", "is_width", "spec_of", "field_of", "parts_of_braces", "field_behind", "parts_of_dollars"] : List PySem.Str) ++ (["YardError", "BadFormat", "BadStyle", "copied_value", "MESSAGE_ALONE", "joined_texts", "Formatter", "_law_draw", "_law_pick", "_law_text", "_law_same", "_law_field"] : List PySem.Str) ++ (["_law_braced", "_law_braced_text", "_law_format_parts", "_law_wrong_part", "_law_formatter_told", "_law_braced_parts", "_law_made_alone"] : List PySem.Str)
/-- what the text is, behind the top -/
structure Txt (P : Program) (w : World) (K : PySem.W.Frag) (mg : Str → Option Value) : Prop where
  g_Field : mg "Field" = some (.ref (He.ga K "Field"))
  g_Formatter : mg "Formatter" = some (.ref (He.ga K "Formatter"))
  g_BadFormat : mg "BadFormat" = some (.ref (He.ga K "BadFormat"))
  g_BadStyle : mg "BadStyle" = some (.ref (He.ga K "BadStyle"))
  g_name_end : mg "name_end" = some (.ref (He.ga K "name_end"))
  g_is_width : mg "is_width" = some (.ref (He.ga K "is_width"))
  g_spec_of : mg "spec_of" = some (.ref (He.ga K "spec_of"))
  g_field_of : mg "field_of" = some (.ref (He.ga K "field_of"))
  g_parts_of_braces : mg "parts_of_braces" = some (.ref (He.ga K "parts_of_braces"))
  g_joined_texts : mg "joined_texts" = some (.ref (He.ga K "joined_texts"))
  g__law_draw : mg "_law_draw" = some (.ref (He.ga K "_law_draw"))
  g__law_pick : mg "_law_pick" = some (.ref (He.ga K "_law_pick"))
  g__law_text : mg "_law_text" = some (.ref (He.ga K "_law_text"))
  g__law_same : mg "_law_same" = some (.ref (He.ga K "_law_same"))
  g__law_formatter_told : mg "_law_formatter_told" = some (.ref (He.ga K "_law_formatter_told"))
  g__law_field : mg "_law_field" = some (.ref (He.ga K "_law_field"))
  g__law_braced : mg "_law_braced" = some (.ref (He.ga K "_law_braced"))
  g__law_braced_text : mg "_law_braced_text" = some (.ref (He.ga K "_law_braced_text"))
  g__law_format_parts : mg "_law_format_parts" = some (.ref (He.ga K "_law_format_parts"))
  g__law_wrong_part : mg "_law_wrong_part" = some (.ref (He.ga K "_law_wrong_part"))
  g__law_braced_parts : mg "_law_braced_parts" = some (.ref (He.ga K "_law_braced_parts"))
  g__law_made_alone : mg "_law_made_alone" = some (.ref (He.ga K "_law_made_alone"))
  g_law : mg "law" = some (.ref (He.ga K "law"))
  g_LETTERS : ∃ t, mg "LETTERS" = some (.str "abcdefghijklmnopqrstuvwxyzABCDEFGHIJKLMNOPQRSTUVWXYZ_" t)
  g_DIGITS : ∃ t, mg "DIGITS" = some (.str "0123456789" t)
  g_ALIGNS : mg "ALIGNS" = some (.ref (He.ga K "ALIGNS"))
  g_MESSAGE_ALONE : mg "MESSAGE_ALONE" = some (.ref (He.ga K "MESSAGE_ALONE"))
  b_len : mg "len" = none
  b_isinstance : mg "isinstance" = none
  b_int : mg "int" = none
  b_str : mg "str" = none
  b_list : mg "list" = none
  b_tuple : mg "tuple" = none
  b_bool : mg "bool" = none
  b_dict : mg "dict" = none
  b_range : mg "range" = none
  b_sorted : mg "sorted" = none
  b_all : mg "all" = none
  b_zip : mg "zip" = none
  c_Field : Cls K (He.ga K "Field")
  n_Field_name : NoAttr K (He.ga K "Field") "name"
  n_Field_conversion : NoAttr K (He.ga K "Field") "conversion"
  n_Field_fill : NoAttr K (He.ga K "Field") "fill"
  n_Field_align : NoAttr K (He.ga K "Field") "align"
  n_Field_width : NoAttr K (He.ga K "Field") "width"
  c_Formatter : Cls K (He.ga K "Formatter")
  n_Formatter_fmt : NoAttr K (He.ga K "Formatter") "fmt"
  n_Formatter_style : NoAttr K (He.ga K "Formatter") "style"
  n_Formatter_parts : NoAttr K (He.ga K "Formatter") "parts"
  n_Formatter_defaults : NoAttr K (He.ga K "Formatter") "defaults"
  k_Field : Mk K (He.ga K "Field") (He.ma K (He.ga K "Field") "__init__")
  k_Formatter : Mk K (He.ga K "Formatter") (He.ma K (He.ga K "Formatter") "__init__")
  x_BadFormat : RB.ExcF K (He.ga K "BadFormat") "fmt"
  x_BadStyle : RB.ExcF K (He.ga K "BadStyle") "style"
  e_BadFormat_BadFormat : PySem.W.exmOne K (.ref (He.ga K "BadFormat")) (.ref (He.ga K "BadFormat")) = some true
  e_BadFormat_BadStyle : PySem.W.exmOne K (.ref (He.ga K "BadFormat")) (.ref (He.ga K "BadStyle")) = some false
  e_BadStyle_BadFormat : PySem.W.exmOne K (.ref (He.ga K "BadStyle")) (.ref (He.ga K "BadFormat")) = some false
  e_BadStyle_BadStyle : PySem.W.exmOne K (.ref (He.ga K "BadStyle")) (.ref (He.ga K "BadStyle")) = some true
  ty_Field : RB.TyC K (He.ga K "Field")
  kiy_Field_str : PySem.W.kitOne K (.ref (He.ga K "Field")) (.type "str") = some false
  kt_ALIGNS : ∀ H : Hp, SqT K H (He.ga K "ALIGNS") ((["<", ">", "^"] : List Str).map V.str)
  d_Field_init : Stands K "__init__" "Field.__init__" s_Field_init [(He.Dv.str "" : He.Dv).v K, (He.Dv.str " " : He.Dv).v K, (He.Dv.str "" : He.Dv).v K, (He.Dv.int 0 : He.Dv).v K] (He.fAd K ("Field", some "__init__"))
  d_name_end : Stands K "name_end" "name_end" s_name_end [] (He.fAd K ("name_end", none))
  d_is_width : Stands K "is_width" "is_width" s_is_width [] (He.fAd K ("is_width", none))
  d_spec_of : Stands K "spec_of" "spec_of" s_spec_of [] (He.fAd K ("spec_of", none))
  d_field_of : Stands K "field_of" "field_of" s_field_of [] (He.fAd K ("field_of", none))
  d_parts_of_braces : Stands K "parts_of_braces" "parts_of_braces" s_parts_of_braces [] (He.fAd K ("parts_of_braces", none))
  d_BadFormat_init : Stands K "__init__" "BadFormat.__init__" s_BadFormat_init [] (He.fAd K ("BadFormat", some "__init__"))
  d_BadStyle_init : Stands K "__init__" "BadStyle.__init__" s_BadStyle_init [] (He.fAd K ("BadStyle", some "__init__"))
  d_joined_texts : Stands K "joined_texts" "joined_texts" s_joined_texts [] (He.fAd K ("joined_texts", none))
  d_Formatter_init : Stands K "__init__" "Formatter.__init__" s_Formatter_init [(He.Dv.non : He.Dv).v K, (He.Dv.str "{" : He.Dv).v K, (He.Dv.bl true : He.Dv).v K, (He.Dv.non : He.Dv).v K] (He.fAd K ("Formatter", some "__init__"))
  d__law_draw : Stands K "_law_draw" "_law_draw" s__law_draw [] (He.fAd K ("_law_draw", none))
  d__law_pick : Stands K "_law_pick" "_law_pick" s__law_pick [] (He.fAd K ("_law_pick", none))
  d__law_text : Stands K "_law_text" "_law_text" s__law_text [] (He.fAd K ("_law_text", none))
  d__law_same : Stands K "_law_same" "_law_same" s__law_same [] (He.fAd K ("_law_same", none))
  d__law_formatter_told : Stands K "_law_formatter_told" "_law_formatter_told" s__law_formatter_told [] (He.fAd K ("_law_formatter_told", none))
  d__law_field : Stands K "_law_field" "_law_field" s__law_field [] (He.fAd K ("_law_field", none))
  d__law_braced : Stands K "_law_braced" "_law_braced" s__law_braced [] (He.fAd K ("_law_braced", none))
  d__law_braced_text : Stands K "_law_braced_text" "_law_braced_text" s__law_braced_text [] (He.fAd K ("_law_braced_text", none))
  d__law_format_parts : Stands K "_law_format_parts" "_law_format_parts" s__law_format_parts [] (He.fAd K ("_law_format_parts", none))
  d__law_wrong_part : Stands K "_law_wrong_part" "_law_wrong_part" s__law_wrong_part [] (He.fAd K ("_law_wrong_part", none))
  d__law_braced_parts : Stands K "_law_braced_parts" "_law_braced_parts" s__law_braced_parts [] (He.fAd K ("_law_braced_parts", none))
  d__law_made_alone : Stands K "_law_made_alone" "_law_made_alone" s__law_made_alone [] (He.fAd K ("_law_made_alone", none))
  d_law : Stands K "law" "law" s_law [] (He.fAd K ("law", none))
  t_MESSAGE_ALONE : RB.KD P w K (He.ga K "MESSAGE_ALONE") (kv_MESSAGE_ALONE.map fun q => (q.1, q.2.v K))
theorem Txt.of {P : Program} {w : World} {K : PySem.W.Frag} {h : Heap} {mg : Str → Option Value} (X : K.In h) (G : h.Ns mainGlobals mg) (c : RB.SaysB fa fx fn ts w K) : Txt P w K mg where
    g_Field := He.glo_ok X G (c.fact 0 (f := .glo "Field") (by rfl))
    g_Formatter := He.glo_ok X G (c.fact 1 (f := .glo "Formatter") (by rfl))
    g_BadFormat := He.glo_ok X G (c.fact 2 (f := .glo "BadFormat") (by rfl))
    g_BadStyle := He.glo_ok X G (c.fact 3 (f := .glo "BadStyle") (by rfl))
    g_name_end := He.glo_ok X G (c.fact 4 (f := .glo "name_end") (by rfl))
    g_is_width := He.glo_ok X G (c.fact 5 (f := .glo "is_width") (by rfl))
    g_spec_of := He.glo_ok X G (c.fact 6 (f := .glo "spec_of") (by rfl))
    g_field_of := He.glo_ok X G (c.fact 7 (f := .glo "field_of") (by rfl))
    g_parts_of_braces := He.glo_ok X G (c.fact 8 (f := .glo "parts_of_braces") (by rfl))
    g_joined_texts := He.glo_ok X G (c.fact 9 (f := .glo "joined_texts") (by rfl))
    g__law_draw := He.glo_ok X G (c.fact 10 (f := .glo "_law_draw") (by rfl))
    g__law_pick := He.glo_ok X G (c.fact 11 (f := .glo "_law_pick") (by rfl))
    g__law_text := He.glo_ok X G (c.fact 12 (f := .glo "_law_text") (by rfl))
    g__law_same := He.glo_ok X G (c.fact 13 (f := .glo "_law_same") (by rfl))
    g__law_formatter_told := He.glo_ok X G (c.fact 14 (f := .glo "_law_formatter_told") (by rfl))
    g__law_field := He.glo_ok X G (c.fact 15 (f := .glo "_law_field") (by rfl))
    g__law_braced := He.glo_ok X G (c.fact 16 (f := .glo "_law_braced") (by rfl))
    g__law_braced_text := He.glo_ok X G (c.fact 17 (f := .glo "_law_braced_text") (by rfl))
    g__law_format_parts := He.glo_ok X G (c.fact 18 (f := .glo "_law_format_parts") (by rfl))
    g__law_wrong_part := He.glo_ok X G (c.fact 19 (f := .glo "_law_wrong_part") (by rfl))
    g__law_braced_parts := He.glo_ok X G (c.fact 20 (f := .glo "_law_braced_parts") (by rfl))
    g__law_made_alone := He.glo_ok X G (c.fact 21 (f := .glo "_law_made_alone") (by rfl))
    g_law := He.glo_ok X G (c.fact 22 (f := .glo "law") (by rfl))
    g_LETTERS := He.str_ok X G (c.fact 23 (f := .str "LETTERS" "abcdefghijklmnopqrstuvwxyzABCDEFGHIJKLMNOPQRSTUVWXYZ_") (by rfl))
    g_DIGITS := He.str_ok X G (c.fact 24 (f := .str "DIGITS" "0123456789") (by rfl))
    g_ALIGNS := He.glo_ok X G (c.fact 25 (f := .glo "ALIGNS") (by rfl))
    g_MESSAGE_ALONE := He.glo_ok X G (c.fact 26 (f := .glo "MESSAGE_ALONE") (by rfl))
    b_len := He.free_ok X G (c.fact 27 (f := .free "len") (by rfl))
    b_isinstance := He.free_ok X G (c.fact 28 (f := .free "isinstance") (by rfl))
    b_int := He.free_ok X G (c.fact 29 (f := .free "int") (by rfl))
    b_str := He.free_ok X G (c.fact 30 (f := .free "str") (by rfl))
    b_list := He.free_ok X G (c.fact 31 (f := .free "list") (by rfl))
    b_tuple := He.free_ok X G (c.fact 32 (f := .free "tuple") (by rfl))
    b_bool := He.free_ok X G (c.fact 33 (f := .free "bool") (by rfl))
    b_dict := He.free_ok X G (c.fact 34 (f := .free "dict") (by rfl))
    b_range := He.free_ok X G (c.fact 35 (f := .free "range") (by rfl))
    b_sorted := He.free_ok X G (c.fact 36 (f := .free "sorted") (by rfl))
    b_all := He.free_ok X G (c.fact 37 (f := .free "all") (by rfl))
    b_zip := He.free_ok X G (c.fact 38 (f := .free "zip") (by rfl))
    c_Field := He.cls_ok (c.fact 39 (f := .cls "Field") (by rfl))
    n_Field_name := He.noat_ok (c.fact 40 (f := .noat "Field" "name") (by rfl))
    n_Field_conversion := He.noat_ok (c.fact 41 (f := .noat "Field" "conversion") (by rfl))
    n_Field_fill := He.noat_ok (c.fact 42 (f := .noat "Field" "fill") (by rfl))
    n_Field_align := He.noat_ok (c.fact 43 (f := .noat "Field" "align") (by rfl))
    n_Field_width := He.noat_ok (c.fact 44 (f := .noat "Field" "width") (by rfl))
    c_Formatter := He.cls_ok (c.fact 45 (f := .cls "Formatter") (by rfl))
    n_Formatter_fmt := He.noat_ok (c.fact 46 (f := .noat "Formatter" "fmt") (by rfl))
    n_Formatter_style := He.noat_ok (c.fact 47 (f := .noat "Formatter" "style") (by rfl))
    n_Formatter_parts := He.noat_ok (c.fact 48 (f := .noat "Formatter" "parts") (by rfl))
    n_Formatter_defaults := He.noat_ok (c.fact 49 (f := .noat "Formatter" "defaults") (by rfl))
    k_Field := He.mkr_ok (c.fact 50 (f := .mkr "Field") (by rfl))
    k_Formatter := He.mkr_ok (c.fact 51 (f := .mkr "Formatter") (by rfl))
    x_BadFormat := RB.exc_ok (c.more 0 (f := .exc "BadFormat" "fmt") (by rfl))
    x_BadStyle := RB.exc_ok (c.more 1 (f := .exc "BadStyle" "style") (by rfl))
    e_BadFormat_BadFormat := RB.exm_ok (c.more 2 (f := .exm "BadFormat" "BadFormat" true) (by rfl))
    e_BadFormat_BadStyle := RB.exm_ok (c.more 3 (f := .exm "BadFormat" "BadStyle" false) (by rfl))
    e_BadStyle_BadFormat := RB.exm_ok (c.more 4 (f := .exm "BadStyle" "BadFormat" false) (by rfl))
    e_BadStyle_BadStyle := RB.exm_ok (c.more 5 (f := .exm "BadStyle" "BadStyle" true) (by rfl))
    ty_Field := RB.ty_ok (c.more 6 (f := .ty "Field") (by rfl))
    kiy_Field_str := RB.kiy_ok (c.more 7 (f := .kiy "Field" "str" false) (by rfl))
    kt_ALIGNS := RB.ktup_ok (c.more 8 (f := .ktup "ALIGNS" ["<", ">", "^"]) (by rfl))
    d_Field_init := c.d.def_ 0 (d := dd_Field_init) (by rfl)
    d_name_end := c.d.def_ 1 (d := dd_name_end) (by rfl)
    d_is_width := c.d.def_ 2 (d := dd_is_width) (by rfl)
    d_spec_of := c.d.def_ 3 (d := dd_spec_of) (by rfl)
    d_field_of := c.d.def_ 4 (d := dd_field_of) (by rfl)
    d_parts_of_braces := c.d.def_ 5 (d := dd_parts_of_braces) (by rfl)
    d_BadFormat_init := c.d.def_ 6 (d := dd_BadFormat_init) (by rfl)
    d_BadStyle_init := c.d.def_ 7 (d := dd_BadStyle_init) (by rfl)
    d_joined_texts := c.d.def_ 8 (d := dd_joined_texts) (by rfl)
    d_Formatter_init := c.d.def_ 9 (d := dd_Formatter_init) (by rfl)
    d__law_draw := c.d.def_ 10 (d := dd__law_draw) (by rfl)
    d__law_pick := c.d.def_ 11 (d := dd__law_pick) (by rfl)
    d__law_text := c.d.def_ 12 (d := dd__law_text) (by rfl)
    d__law_same := c.d.def_ 13 (d := dd__law_same) (by rfl)
    d__law_formatter_told := c.d.def_ 14 (d := dd__law_formatter_told) (by rfl)
    d__law_field := c.d.def_ 15 (d := dd__law_field) (by rfl)
    d__law_braced := c.d.def_ 16 (d := dd__law_braced) (by rfl)
    d__law_braced_text := c.d.def_ 17 (d := dd__law_braced_text) (by rfl)
    d__law_format_parts := c.d.def_ 18 (d := dd__law_format_parts) (by rfl)
    d__law_wrong_part := c.d.def_ 19 (d := dd__law_wrong_part) (by rfl)
    d__law_braced_parts := c.d.def_ 20 (d := dd__law_braced_parts) (by rfl)
    d__law_made_alone := c.d.def_ 21 (d := dd__law_made_alone) (by rfl)
    d_law := c.d.def_ 22 (d := dd_law) (by rfl)
    t_MESSAGE_ALONE := c.tb 0 (t := ("MESSAGE_ALONE", kv_MESSAGE_ALONE)) (by rfl) P
end K17

set_option Elab.async false
set_option linter.all false
set_option maxRecDepth 100000
set_option maxHeartbeats 0
namespace K17
open PySem PySem.Spec PyProof.Rows L2 RC
/-! ### the head -/
abbrev R : PySem.W.OpenRow := PySem.W.OpenLaw.row PySem.Challenge.rw_recordyard_k08_formats_in_braces_refused
abbrev hk : PySem.W.Hook := RB.hookB 4 fa fx fn ts
def ob (s : PySem.W.SharedT) : RB.AlB := RB.obsBG 4 fa fx fn ts (HandSHeadRun.getT s)
theorem ob_eq (s : PySem.W.SharedT) : ob s = hk.obs s.abs := RB.obsBG_eq (HandSHeadRun.getT_eq s)
theorem run_f (w : World) : HandSHeadRun.RunEq R (PySem.W.view R.prog [38]) hk ob 6000 names (w.withFollow "special-get-raises" false) := by
  intro os
  kernel_rfl
theorem run_t (w : World) : HandSHeadRun.RunEq R (PySem.W.view R.prog [38]) hk ob 6000 names (w.withFollow "special-get-raises" true) := by
  intro os
  kernel_rfl
theorem run (w : World) : HandSHeadRun.RunEq R (PySem.W.view R.prog [38]) hk ob 6000 names w := PySem.W.byRow2 "special-get-raises" (P := fun w => HandSHeadRun.RunEq R (PySem.W.view R.prog [38]) hk ob 6000 names w) run_f run_t w
end K17

set_option Elab.async false
set_option linter.all false
set_option maxRecDepth 100000
set_option maxHeartbeats 4000000
/-! Further rules: two lists of the same objects are equal; a text times an int. -/
namespace RX
open PySem PySem.Spec PyProof.Rows PySem.SeqAt L2
open RD
/-- two lists of objects that are the same, or of unlike lengths -/
def rEqLL (K : PySem.W.Frag) : R2 := fun x y H Q => ∃ (a b : Addr) (as bs : List Addr), x = .ref a ∧ y = .ref b ∧ SqL K H a (as.map V.ref) ∧ SqL K H b (bs.map V.ref) ∧ (as = bs ∨ as.length ≠ bs.length) ∧ Q (.bl (decide (as = bs))) H
def rNeLL (K : PySem.W.Frag) : R2 := fun x y H Q => ∃ (a b : Addr) (as bs : List Addr), x = .ref a ∧ y = .ref b ∧ SqL K H a (as.map V.ref) ∧ SqL K H b (bs.map V.ref) ∧ (as = bs ∨ as.length ≠ bs.length) ∧ Q (.bl (!decide (as = bs))) H
section
variable {X : Cx}
theorem size_ne {as bs : List Addr} (h : as.length ≠ bs.length) : ((as.map Value.ref).toArray.size != (bs.map Value.ref).toArray.size) = true := by simpa using h
theorem op_eqLL (hu : X.A.units < cLine) : OpR X (compareOp .Eq) (rEqLL X.K) := by
  intro pins s σ H x y v u Q I rx ry h
  obtain ⟨a, b, as, bs, rfl, rfl, ha, hb, c, q⟩ := h
  cases rx
  cases ry
  obtain ⟨its, rv, hl, _⟩ := I.list ha
  obtain ⟨its2, rv2, hl2, _⟩ := I.list hb
  obtain rfl := vals_refs rv
  obtain rfl := vals_refs rv2
  rcases c with rfl | c
  · refine eq_listAt (e := fun _ => true) hl.isList hl2.isList rfl hu (fun j h1 h2 => EqAt.same _) ?_
    rw [all_true]
    rw [decide_eq_true rfl] at q
    exact fin_bl I q rfl
  · rw [decide_eq_false (fun z => c (by rw [z]))] at q
    exact eq_list_lengthsAt hl.isList hl2.isList (size_ne c) hu (fin_bl I q rfl)
theorem op_neLL (hu : X.A.units < cLine) : OpR X (compareOp .NotEq) (rNeLL X.K) := by
  intro pins s σ H x y v u Q I rx ry h
  obtain ⟨a, b, as, bs, rfl, rfl, ha, hb, c, q⟩ := h
  cases rx
  cases ry
  obtain ⟨its, rv, hl, _⟩ := I.list ha
  obtain ⟨its2, rv2, hl2, _⟩ := I.list hb
  obtain rfl := vals_refs rv
  obtain rfl := vals_refs rv2
  rcases c with rfl | c
  · refine RcNeAt.lists (e := fun _ => true) hl.isList hl2.isList rfl hu (fun j h1 h2 => EqAt.same _) X.prog X.w X.xe _ ?_
    rw [all_true]
    rw [decide_eq_true rfl] at q
    exact fin_bl I q rfl
  · rw [decide_eq_false (fun z => c (by rw [z]))] at q
    exact RcNeAt.lists_lengths hl.isList hl2.isList (size_ne c) hu X.prog X.w X.xe _ (fin_bl I q rfl)
end
end RX

set_option Elab.async false
set_option linter.all false
set_option maxRecDepth 100000
set_option maxHeartbeats 4000000
/-! How long the text of a number is. -/
namespace RN
open PySem PySem.Spec PyProof.Rows L2
theorem log2_div (n : Nat) (h : 10 ≤ n) : (n / 10).log2 + 1 ≤ n.log2 := by
  have h1 : n / 10 ≤ n / 2 := by omega
  have h2 : n / 10 ≠ 0 := by omega
  have h3 : n ≠ 0 := by omega
  have h4 := Nat.log2_self_le h2
  have h5 : 2 ^ ((n / 10).log2 + 1) ≤ n := by rw [Nat.pow_succ]; omega
  exact (Nat.le_log2 h3).mpr h5
theorem len_numL (n : Nat) : (TL.numL n).length ≤ n.log2 + 1 := by
  induction n using Nat.strongRecOn with
  | ind n ih =>
    by_cases h : n < 10
    · rw [TL.numL_lt h]; simp
    · have h : 10 ≤ n := by omega
      rw [TL.numL_step h, List.length_append]
      have := ih (n / 10) (by omega)
      have := log2_div n h
      simp only [List.length_singleton]
      omega
theorem len_toString (i : Int) : (Str.ofString (toString i)).length ≤ i.natAbs.log2 + 2 := by
  cases i with
  | ofNat n =>
    have e := TL.tl_num n
    rw [TL.len_tl]
    show (TL.tl (Str.ofString (toString ((n : Nat) : Int)))).length ≤ _
    rw [e]
    have := len_numL n
    show _ ≤ n.log2 + 2
    omega
  | negSucc n =>
    have e := TL.tl_num (n + 1)
    have e2 : toString (Int.negSucc n) = "-" ++ toString (((n + 1 : Nat)) : Int) := rfl
    rw [TL.len_tl, e2]
    have e3 : TL.tl (Str.ofString ("-" ++ toString (((n + 1 : Nat)) : Int))) = 45 :: TL.tl (Str.ofString (toString (((n + 1 : Nat)) : Int))) := by
      show (Str.ofString _).cps.toList = 45 :: (Str.ofString _).cps.toList
      rw [signs_ofString, signs_ofString, String.toList_append, List.map_append]; rfl
    rw [e3, e, List.length_cons]
    have := len_numL (n + 1)
    show _ ≤ (n + 1).log2 + 2
    omega
end RN

set_option Elab.async false
set_option linter.all false
set_option maxRecDepth 100000
set_option maxHeartbeats 4000000
/-! Further rules: a list and an empty one. -/
namespace RY
open PySem PySem.Spec PyProof.Rows PySem.SeqAt L2
open RD
def rEqE (K : PySem.W.Frag) : R2 := fun x y H Q => ∃ (a b : Addr) (xs : List V), x = .ref a ∧ y = .ref b ∧ SqL K H a xs ∧ SqL K H b [] ∧ Q (.bl (xs.isEmpty)) H
def rNeE (K : PySem.W.Frag) : R2 := fun x y H Q => ∃ (a b : Addr) (xs : List V), x = .ref a ∧ y = .ref b ∧ SqL K H a xs ∧ SqL K H b [] ∧ Q (.bl (!xs.isEmpty)) H
section
variable {X : Cx}
theorem vals_nil {us : List Value} (h : Vals [] us) : us = [] := by cases h; rfl
theorem vals_cons {x : V} {xs : List V} {us : List Value} (h : Vals (x :: xs) us) : (us.toArray.size != (([] : List Value)).toArray.size) = true := by cases h; simp
theorem op_eqE (hu : X.A.units < cLine) : OpR X (compareOp .Eq) (rEqE X.K) := by
  intro pins s σ H x y v u Q I rx ry h
  obtain ⟨a, b, xs, rfl, rfl, ha, hb, q⟩ := h
  cases rx
  cases ry
  obtain ⟨its, rv, hl, _⟩ := I.list ha
  obtain ⟨its2, rv2, hl2, _⟩ := I.list hb
  obtain rfl := vals_nil rv2
  cases xs with
  | nil =>
    obtain rfl := vals_nil rv
    refine eq_listAt (e := fun _ => true) hl.isList hl2.isList rfl hu (fun j h1 h2 => EqAt.same _) ?_
    rw [all_true]
    exact fin_bl I q rfl
  | cons x xs => exact eq_list_lengthsAt hl.isList hl2.isList (vals_cons rv) hu (fin_bl I q rfl)
theorem op_neE (hu : X.A.units < cLine) : OpR X (compareOp .NotEq) (rNeE X.K) := by
  intro pins s σ H x y v u Q I rx ry h
  obtain ⟨a, b, xs, rfl, rfl, ha, hb, q⟩ := h
  cases rx
  cases ry
  obtain ⟨its, rv, hl, _⟩ := I.list ha
  obtain ⟨its2, rv2, hl2, _⟩ := I.list hb
  obtain rfl := vals_nil rv2
  cases xs with
  | nil =>
    obtain rfl := vals_nil rv
    refine RcNeAt.lists (e := fun _ => true) hl.isList hl2.isList rfl hu (fun j h1 h2 => EqAt.same _) X.prog X.w X.xe _ ?_
    rw [all_true]
    exact fin_bl I q rfl
  | cons x xs => exact RcNeAt.lists_lengths hl.isList hl2.isList (vals_cons rv) hu X.prog X.w X.xe _ (fin_bl I q rfl)

def flatW : V → Bool
  | .int _ => true
  | .bl _ => true
  | .str _ => true
  | .non => true
  | .ref _ => true
  | _ => false
/-- two lists of the same plain values -/
def rEqV (K : PySem.W.Frag) : R2 := fun x y H Q => ∃ (a b : Addr) (xs : List V), x = .ref a ∧ y = .ref b ∧ SqL K H a xs ∧ SqL K H b xs ∧ xs.all flatW = true ∧ Q (.bl true) H
def rNeV (K : PySem.W.Frag) : R2 := fun x y H Q => ∃ (a b : Addr) (xs : List V), x = .ref a ∧ y = .ref b ∧ SqL K H a xs ∧ SqL K H b xs ∧ xs.all flatW = true ∧ Q (.bl false) H
theorem eq_same {A : Around} {s : Shared} {x : V} {u u' : Value} (h : RelV x u) (h' : RelV x u') (hf : flatW x = true) : EqAt A s u u' true := by
  cases x with
  | int i =>
    obtain ⟨t, rfl⟩ := h
    obtain ⟨t', rfl⟩ := h'
    have e := EqAt.int_int (A := A) (s := s) i t i t'
    rw [beq_self_eq_true] at e; exact e
  | str i =>
    obtain ⟨t, rfl⟩ := h
    obtain ⟨t', rfl⟩ := h'
    have e := EqAt.str_str (A := A) (s := s) i t i t'
    rw [beq_self_eq_true] at e; exact e
  | bl b => cases h; cases h'; exact EqAt.same _
  | non => cases h; cases h'; exact EqAt.same _
  | ref a => cases h; cases h'; exact EqAt.same _
  | _ => cases hf
theorem eq_all {A : Around} {s : Shared} : ∀ {xs : List V} {us us' : List Value}, Vals xs us → Vals xs us' → xs.all flatW = true → us.length = us'.length ∧ ∀ (j : Nat) (h1 : j < us.length) (h2 : j < us'.length), EqAt A s us[j] us'[j] true
  | [], _, _, .nil, .nil, _ => ⟨rfl, fun j h1 _ => absurd h1 (Nat.not_lt_zero _)⟩
  | x :: xs, _, _, .cons h t, .cons h' t', hf => by
    rw [List.all_cons, Bool.and_eq_true] at hf
    have ih := eq_all (A := A) (s := s) t t' hf.2
    refine ⟨congrArg (· + 1) ih.1, fun j h1 h2 => ?_⟩
    cases j with
    | zero => exact eq_same h h' hf.1
    | succ j => exact ih.2 j (Nat.lt_of_succ_lt_succ h1) (Nat.lt_of_succ_lt_succ h2)
theorem all_tt (n : Nat) : (List.range n).all (fun _ => true) = true := by simp
theorem op_eqV (hu : X.A.units < cLine) : OpR X (compareOp .Eq) (rEqV X.K) := by
  intro pins s σ H x y v u Q I rx ry h
  obtain ⟨a, b, xs, rfl, rfl, ha, hb, hf, q⟩ := h
  cases rx
  cases ry
  obtain ⟨its, rv, hl, _⟩ := I.list ha
  obtain ⟨its2, rv2, hl2, _⟩ := I.list hb
  have e := eq_all (A := X.A.in1) (s := s) rv rv2 hf
  refine eq_listAt (e := fun _ => true) hl.isList hl2.isList (by simpa using e.1) hu (fun j h1 h2 => by simpa using e.2 j (by simpa using h1) (by simpa using h2)) ?_
  rw [all_tt]
  exact fin_bl I q rfl
theorem op_neV (hu : X.A.units < cLine) : OpR X (compareOp .NotEq) (rNeV X.K) := by
  intro pins s σ H x y v u Q I rx ry h
  obtain ⟨a, b, xs, rfl, rfl, ha, hb, hf, q⟩ := h
  cases rx
  cases ry
  obtain ⟨its, rv, hl, _⟩ := I.list ha
  obtain ⟨its2, rv2, hl2, _⟩ := I.list hb
  have e := eq_all (A := X.A.in1) (s := s) rv rv2 hf
  refine RcNeAt.lists (e := fun _ => true) hl.isList hl2.isList (by simpa using e.1) hu (fun j h1 h2 => by simpa using e.2 j (by simpa using h1) (by simpa using h2)) X.prog X.w X.xe _ ?_
  rw [all_tt]
  exact fin_bl I q rfl
end
end RY

set_option Elab.async false
set_option linter.all false
set_option maxRecDepth 100000
set_option maxHeartbeats 0
namespace K17
open PySem PySem.Spec PyProof.Rows L2 RC
section
variable {P : Program} {w : World} {K : PySem.W.Frag} {mg : Str → Option Value} {base : Heap}
theorem dp_ints {K : PySem.W.Frag} {H : Hp} : ∀ ns : List Int, DpAll K H (ns.map V.int) (ns.map PyData.int)
  | [] => .nil
  | n :: r => .cons (.int n) (dp_ints r)
theorem can_ints : ∀ ns : List Int, PyData.canLayAll0 (ns.map PyData.int) = true
  | [] => by simp [PyData.canLayAll0]
  | n :: r => by simp [PyData.canLayAll0, PyData.canLay0, can_ints r]
theorem dep_ints : ∀ ns : List Int, PyData.depthAll (ns.map PyData.int) = 0
  | [] => by simp [PyData.depthAll]
  | n :: r => by simp [PyData.depthAll, PyData.depth, dep_ints r]
theorem sh_ints (ns : List Int) : SeqAt.shaped (.list (ns.map PyData.int)) = true := by
  unfold SeqAt.shaped
  simp [PyData.canLay0, PyData.depth, can_ints, dep_ints]
theorem seq0 (v : Int) (r : List Int) : seqIndex? 0 ((v :: r).map V.int).length = some 0 := by
  unfold seqIndex?
  simp
def spDraw : Sp := fun vs H Q _ => ∃ (s l : Addr) (n : Nat) (many : Int), vs = [.ref s, .int many] ∧ Stm H s l n ∧ n ≤ 1000000 ∧ 1 ≤ many ∧ many < 1073741824 ∧
  ∀ (H' : Hp) (d : Int), Old s l H H' → Stm H' s l (n + 1) → 0 ≤ d → d < many → Q (.int d) H'
theorem old_upd {s l : Addr} {H H' : Hp} {a : Addr} {o : HO} (h : Old s l H H') (ha : a = s ∨ a = l ∨ H' a = none) : Old s l H (upd H' a o) := fun b u h1 h2 e => by
  have e2 := h b u h1 h2 e
  have hb : b ≠ a := by
    rintro rfl
    rcases ha with z | z | z
    · exact h1 z
    · exact h2 z
    · rw [z] at e2; cases e2
  rw [upd_ne hb]; exact e2
theorem stm_small {d c : Int} (h : 0 ≤ d) (h1 : d < 2147483647) (h2 : 0 ≤ c) (h3 : c ≤ 1000001) : (d + 104729 * c + 17).natAbs < 2 ^ 64 := by omega
theorem stm_small2 {m c : Int} (h : 0 ≤ m) (h1 : m < 2147483629) (h2 : 0 ≤ c) (h3 : c ≤ 1000001) : (m * 48271 + 40503 * c * c + 13).natAbs < 2 ^ 64 := by
  have q1 : 0 ≤ 40503 * c * c := Int.mul_nonneg (by omega) h2
  have q2 : 40503 * c * c ≤ 40503 * c * 1000001 := Int.mul_le_mul_of_nonneg_left h3 (by omega)
  omega
theorem ok_draw {f : Addr} (T : Txt P w K mg) (F : Stands K "_law_draw" "_law_draw" s__law_draw [] f) : Callable P w K mg base 1 f ["_law_stream", "_law_many"] [] spDraw := by
  refine F.call0 sc__law_draw (fun vs H Q E h => ?_) (fun cdv A outer s H vs Q E hr h => ?_) (fun _ _ _ _ _ _ us hl => match us, hl with | [_, _], _ => rfl)
  · obtain ⟨s, l, n, m, rfl, _⟩ := h
    rfl
  obtain ⟨p, l, n, many, rfl, hS, hn, hm1, hm2, hQ⟩ := h
  refine ⟨_, (pss_cons (ps_while PassesOwn.never (PW.pt (pw_and (pt_cmpR op_eq (pe_ix ix_list (pv 0) pe_int (fun _ _ => rfl)) pe_int (nomark _)) (pw_and1 (pt_cmpR (op_neD hr.units) (pe_ix ix_list (pv 0) pe_int (fun _ _ => rfl)) (pe_lst pa_nil) (nomark _))))) (pss_cons (ps_asg (pe_bm PySem.F.plainAttrs_list PySem.F.slot_list_pop PySem.F.type_list_pop mt_popAt (pe_ix ix_list (pv 0) pe_int (fun _ _ => rfl)) (pa_cons pe_int pa_nil)) (pg_sub (pv 0) pe_int set_list))
      (pss_one (ps_if (pt_cmpR op_lt (pe_ix ix_list (pv 0) pe_int (fun _ _ => rfl)) (pe_op op_pow pe_int pe_int) (nomark _)) (pss_cons (ps_asg (pe_op op_mod (pe_callTy call_int1 (by rfl) T.b_int (by decide +kernel) (pa_cons (pe_op op_add (pe_op op_add (pe_op op_mul (pe_ix ix_list (pv 0) pe_int (fun _ _ => rfl)) pe_int) (pe_ix ix_list (pv 0) pe_int (fun _ _ => rfl))) pe_int) pa_nil)) pe_int) (pg_sub (pv 0) pe_int set_list))
      (pss_one (ps_asg pe_int (pg_sub (pv 0) pe_int set_list)))) pss_nil))))
      (pss_cons (ps_if (pt_cmpR op_gt (pe_ix ix_list (pv 0) pe_int (fun _ _ => rfl)) pe_int (nomark _)) (pss_cons (ps_set (i := 2) sc__law_draw.nd rfl (by first | exact Or.inl rfl | exact Or.inr rfl) (pe_op op_mod (pe_callTy call_int1 (by rfl) T.b_int (by decide +kernel) (pa_cons (pe_ix ix_list (pv 0) pe_int (fun _ _ => rfl)) pa_nil)) (pv 1)))
      (pss_cons (ps_asg (pe_op op_fdiv (pe_ix ix_list (pv 0) pe_int (fun _ _ => rfl)) (pv 1)) (pg_sub (pv 0) pe_int set_list))
      (pss_one (ps_ret (pv 2))))) pss_nil)
      (pss_cons (ps_asg (pe_op op_add (pe_ix ix_list (pv 0) pe_int (fun _ _ => rfl)) pe_int) (pg_sub (pv 0) pe_int set_list))
      (pss_cons (ps_set (i := 3) sc__law_draw.nd rfl (by first | exact Or.inl rfl | exact Or.inr rfl) (pe_op op_mod (pe_callTy call_int1 (by rfl) T.b_int (by decide +kernel) (pa_cons (pe_op op_pow (pe_op op_add (pe_op op_add (pe_ix ix_list (pv 0) pe_int (fun _ _ => rfl)) (pe_op op_mul pe_int (pe_ix ix_list (pv 0) pe_int (fun _ _ => rfl)))) pe_int) pe_int) pa_nil)) pe_int))
      (pss_cons (ps_set (i := 4) sc__law_draw.nd rfl (by first | exact Or.inl rfl | exact Or.inr rfl) (pe_op op_mod (pe_callTy call_int1 (by rfl) T.b_int (by decide +kernel) (pa_cons (pe_op op_pow (pe_op op_add (pe_op op_add (pe_op op_mul (pv 3) pe_int) (pe_op op_mul (pe_op op_mul pe_int (pe_ix ix_list (pv 0) pe_int (fun _ _ => rfl))) (pe_ix ix_list (pv 0) pe_int (fun _ _ => rfl)))) pe_int) pe_int) pa_nil)) pe_int))
      (pss_one (ps_ret (pe_op op_mod (pe_callTy call_int1 (by rfl) T.b_int (by decide +kernel) (pa_cons (pv 4) pa_nil)) (pv 1))))))))), ?_⟩
  obtain ⟨hne, ns, x, c, d, h1, h2, h3, h4, h5, h6, h7, h8⟩ := hS
  refine ⟨fun m σ H' => σ = [some (.ref p), some (.int many), none, none, none] ∧ Old p l H H' ∧ ∃ (ns : List Int) (x c d : Int), m = ns.length ∧ H' p = some (.lst [.ref l, .int x, .int c, .int d]) ∧ H' l = some (.lst (ns.map V.int)) ∧ ns.length ≤ 63 ∧ 0 ≤ x ∧ 0 ≤ c ∧ c ≤ n ∧ 0 ≤ d ∧ d < 2147483647,
    ⟨_, rfl, Old.refl _, ns, x, c, d, rfl, h1, h2, h3, h4, h5, h6, h7, h8⟩, ?_⟩
  clear h1 h2 h3 h4 h5 h6 h7 h8 ns x c d
  rintro m σ H1 ⟨rfl, hO, ns, x, c, d, rfl, h1, h2, h3, h4, h5, h6, h7, h8⟩
  refine ⟨_, rfl, p, _, _, _, rfl, rfl, SqL.of h1, rfl, rfl, _, rfl, ?_⟩
  by_cases hx : x = 0
  · subst hx
    refine iteT' (decide_eq_true rfl) ?_
    refine ⟨_, rfl, p, _, _, _, rfl, rfl, SqL.of h1, rfl, (by show 0 ≤ sizeLine; decide), fun q hq => ?_⟩
    have g1 : upd H1 q (.lst []) p = some (.lst [.ref l, .int 0, .int c, .int d]) := by rw [upd_ne (ne_of_none h1 hq)]; exact h1
    have g2 : upd H1 q (.lst []) l = some (.lst (ns.map V.int)) := by rw [upd_ne (ne_of_none h2 hq)]; exact h2
    have gO : Old p l H (upd H1 q (.lst [])) := old_upd hO (.inr (.inr hq))
    refine ⟨_, _, Dp.lst (SqL.of g2) (dp_ints ns), Dp.lst (SqL.of upd_same) .nil, sh_ints ns, by decide +kernel, _, rfl, ?_⟩
    generalize upd H1 q (.lst []) = H2 at g1 g2 gO
    cases ns with
    | cons v r =>
      refine iteT' (by rfl) ?_
      refine ⟨fun σ' H' => ∃ m', m' < (v :: r).length ∧ (σ' = [some (.ref p), some (.int many), none, none, none] ∧ Old p l H H' ∧ ∃ (ns : List Int) (x c d : Int), m' = ns.length ∧ H' p = some (.lst [.ref l, .int x, .int c, .int d]) ∧ H' l = some (.lst (ns.map V.int)) ∧ ns.length ≤ 63 ∧ 0 ≤ x ∧ 0 ≤ c ∧ c ≤ n ∧ 0 ≤ d ∧ d < 2147483647), fun σ' H' z => z, ?_⟩
      -- s[1] = s[0].pop(0)
      refine ⟨_, rfl, p, _, _, _, rfl, rfl, SqL.of g1, rfl, .inl ⟨rfl, _, SqL.of g2⟩, l, (v :: r).map V.int, 0, 0, .int v, rfl, rfl, g2, by decide, by decide, seq0 _ _, rfl, ?_⟩
      generalize e3 : upd H2 l _ = H3
      have k1 : H3 p = some (.lst [.ref l, .int 0, .int c, .int d]) := by rw [← e3, upd_ne hne]; exact g1
      have kO : Old p l H H3 := by rw [← e3]; exact old_upd gO (.inr (.inl rfl))
      have k2 : H3 l = some (.lst (r.map V.int)) := by rw [← e3]; exact upd_same
      clear e3
      refine ⟨_, rfl, p, _, 1, 1, rfl, rfl, k1, rfl, ?_⟩
      generalize e4 : upd H3 p _ = H4
      have j1 : H4 p = some (.lst [.ref l, .int v, .int c, .int d]) := by rw [← e4]; exact upd_same
      have j2 : H4 l = some (.lst (r.map V.int)) := by rw [← e4, upd_ne (Ne.symm hne)]; exact k2
      have jO : Old p l H H4 := by rw [← e4]; exact old_upd kO (.inl rfl)
      clear e4
      have hl : r.length ≤ 63 := Nat.le_of_succ_le h3
      refine ⟨_, rfl, p, _, _, _, rfl, rfl, SqL.of j1, rfl, _, _, rfl, rfl, ⟨by decide, by decide, by decide⟩, _, _, rfl, rfl, _, rfl, ?_⟩
      refine ite2 (fun hv => ?_) (fun hv => ?_)
      · -- s[3] = int(..) % 2147483647
        refine ⟨_, rfl, p, _, _, _, rfl, rfl, SqL.of j1, rfl, _, _, rfl, rfl, .inr ⟨by decide, by decide⟩, _, rfl, p, _, _, _, rfl, rfl, SqL.of j1, rfl, _, _, rfl, rfl, _, _, rfl, rfl, .inl ⟨_, rfl, _, _, rfl, rfl, (by show (0 : Int) < 2147483647; decide), _, rfl, p, _, 3, 3, rfl, rfl, j1, rfl, ?_⟩⟩
        have m1 := Int.emod_nonneg (d * 31 + v + 7) (show (2147483647 : Int) ≠ 0 by decide)
        have m2 := Int.emod_lt_of_pos (d * 31 + v + 7) (show (0 : Int) < 2147483647 by decide)
        refine ⟨_, rfl, p, _, 1, 1, rfl, rfl, upd_same, rfl, r.length, Nat.lt_succ_self _, rfl, old_upd (old_upd jO (.inl rfl)) (.inl rfl), r, 0, c, (d * 31 + v + 7) % 2147483647, rfl, upd_same, ?_, hl, Int.le_refl 0, h5, h6, m1, m2⟩
        rw [upd_ne (Ne.symm hne), upd_ne (Ne.symm hne)]; exact j2
      · have hv : 10 ^ 18 ≤ v := by
          have z : ¬ v < 10 ^ (18 : Int).toNat := fun z => hv (decide_eq_true z)
          have e : (18 : Int).toNat = 18 := rfl
          rw [e] at z; omega
        exact ⟨r.length, Nat.lt_succ_self _, rfl, jO, r, v, c, d, rfl, j1, j2, hl, by omega, h5, h6, h7, h8⟩
    | nil =>
      refine iteF' (by rfl) ?_
      refine ⟨_, rfl, p, _, _, _, rfl, rfl, SqL.of g1, rfl, _, _, rfl, rfl, _, rfl, ?_⟩
      refine iteF' (by rfl) ?_
      -- s[2] = s[2] + 1
      refine ⟨_, rfl, p, _, _, _, rfl, rfl, SqL.of g1, rfl, _, _, rfl, rfl, _, rfl, p, _, 2, 2, rfl, rfl, g1, rfl, ?_⟩
      generalize e3 : upd H2 p _ = H3
      have a1 : H3 p = some (.lst [.ref l, .int 0, .int (c + 1), .int d]) := by rw [← e3]; exact upd_same
      have a2 : H3 l = some (.lst (([] : List Int).map V.int)) := by rw [← e3, upd_ne (Ne.symm hne)]; exact g2
      have aO : Old p l H H3 := by rw [← e3]; exact old_upd gO (.inl rfl)
      have hc : c + 1 ≤ 1000001 := by omega
      clear e3
      refine ⟨_, rfl, p, _, _, _, rfl, rfl, SqL.of a1, rfl, _, rfl, p, _, _, _, rfl, rfl, SqL.of a1, rfl, _, _, rfl, rfl, .inl ⟨by decide, by decide⟩, _, _, rfl, rfl, _, _, rfl, rfl, _, _, rfl, rfl, ⟨by decide, by decide, stm_small h7 h8 (by omega) hc⟩, .inl ⟨_, rfl, _, _, rfl, rfl, (by show (0 : Int) < 2147483629; decide), ?_⟩⟩
      have m1 := Int.emod_nonneg ((d + 104729 * (c + 1) + 17) ^ (5 : Int).toNat) (show (2147483629 : Int) ≠ 0 by decide)
      have m2 := Int.emod_lt_of_pos ((d + 104729 * (c + 1) + 17) ^ (5 : Int).toNat) (show (0 : Int) < 2147483629 by decide)
      refine ⟨_, rfl, _, _, rfl, rfl, .inr ⟨by decide, by decide⟩, _, rfl, p, _, _, _, rfl, rfl, SqL.of a1, rfl, _, _, rfl, rfl, .inl ⟨by decide, by decide⟩, _, rfl, p, _, _, _, rfl, rfl, SqL.of a1, rfl, _, _, rfl, rfl, .inr ⟨by omega, by omega⟩, _, _, rfl, rfl, _, _, rfl, rfl, _, _, rfl, rfl, ⟨by decide, by decide, stm_small2 m1 m2 (by omega) hc⟩, .inl ⟨_, rfl, _, _, rfl, rfl, (by show (0 : Int) < 1000000007; decide), ?_⟩⟩
      refine ⟨_, rfl, .inl ⟨_, rfl, _, rfl, _, _, rfl, rfl, (by show (0 : Int) < many; omega), ?_⟩⟩
      exact hQ _ _ aO ⟨hne, [], 0, c + 1, d, a1, a2, Nat.zero_le _, Int.le_refl 0, by omega, by omega, h7, h8⟩ (Int.emod_nonneg _ (by omega)) (Int.emod_lt_of_pos _ (by omega))
  · refine iteF' (decide_eq_false fun z => hx (V.int.inj z)) ?_
    have hx1 : 0 < x := by omega
    refine ⟨_, rfl, p, _, _, _, rfl, rfl, SqL.of h1, rfl, _, _, rfl, rfl, _, rfl, ?_⟩
    refine iteT' (decide_eq_true hx1) ?_
    refine ⟨_, rfl, p, _, _, _, rfl, rfl, SqL.of h1, rfl, .inl ⟨_, rfl, _, rfl, _, _, rfl, rfl, (by show (0 : Int) < many; omega), ?_⟩⟩
    refine ⟨_, rfl, p, _, _, _, rfl, rfl, SqL.of h1, rfl, _, rfl, _, _, rfl, rfl, ⟨by omega, by omega⟩, _, rfl, p, _, 1, 1, rfl, rfl, h1, rfl, _, rfl, ?_⟩
    refine hQ _ _ (old_upd hO (.inl rfl)) ⟨hne, ns, x / many, c, d, upd_same, by rw [upd_ne (Ne.symm hne)]; exact h2, h3, Int.ediv_nonneg h4 (by omega), h5, by omega, h7, h8⟩ (Int.emod_nonneg _ (by omega)) (Int.emod_lt_of_pos _ (by omega))
end
end K17

set_option Elab.async false
set_option linter.all false
set_option maxRecDepth 100000
set_option maxHeartbeats 4000000
/-! Formats with dollars, over lists of signs. -/
namespace RP
abbrev S := List Nat
def letters : S := [97,98,99,100,101,102,103,104,105,106,107,108,109,110,111,112,113,114,115,116,117,118,119,120,121,122,65,66,67,68,69,70,71,72,73,74,75,76,77,78,79,80,81,82,83,84,85,86,87,88,89,90,95]
def digits : S := [48,49,50,51,52,53,54,55,56,57]
def letB (c : Nat) : Bool := decide (c ∈ letters)
def digB (c : Nat) : Bool := decide (c ∈ digits)
def nameB (c : Nat) : Bool := letB c || digB c
/-- the length of the longest name that begins here -/
def nmLen : S → Nat
  | [] => 0
  | c :: r => if letB c then 1 + (r.takeWhile nameB).length else 0
theorem nm_cons (a : Nat) (r : S) : nmLen (a :: r) = if letB a = true then 1 + (r.takeWhile nameB).length else 0 := rfl
def contB (l : S) (k : Nat) : Bool := match l[k]? with
  | none => false
  | some c => letB c || (decide (0 < k) && digB c)
theorem tw_at {p : Nat → Bool} : ∀ (l : S) (k : Nat), k < (l.takeWhile p).length → ∃ c, l[k]? = some c ∧ p c = true
  | [], k, h => by cases h
  | a :: r, k, h => by
    rw [List.takeWhile_cons] at h
    cases e : p a with
    | false => rw [e] at h; cases h
    | true =>
      rw [e] at h
      cases k with
      | zero => exact ⟨a, rfl, e⟩
      | succ k => exact tw_at r k (Nat.lt_of_succ_lt_succ h)
theorem tw_end {p : Nat → Bool} : ∀ (l : S) (c : Nat), l[(l.takeWhile p).length]? = some c → p c = false
  | [], c, h => by cases h
  | a :: r, c, h => by
    rw [List.takeWhile_cons] at h
    cases e : p a with
    | false => rw [e] at h; cases h; exact e
    | true => rw [e] at h; exact tw_end r c h
theorem cont_lt {l : S} {k : Nat} (h : k < nmLen l) : contB l k = true := by
  cases l with
  | nil => cases h
  | cons a r =>
    rw [nm_cons] at h
    cases e : letB a with
    | false => rw [e] at h; cases h
    | true =>
      rw [e, if_pos rfl] at h
      cases k with
      | zero => show (letB a || _) = true; rw [e]; rfl
      | succ k =>
        obtain ⟨c, h1, h2⟩ := tw_at (p := nameB) r k (by omega)
        unfold contB
        rw [List.getElem?_cons_succ, h1]
        show (letB c || (decide (0 < k + 1) && digB c)) = true
        rw [decide_eq_true (Nat.succ_pos k), Bool.true_and]
        exact h2
theorem cont_end (l : S) : contB l (nmLen l) = false := by
  cases l with
  | nil => rfl
  | cons a r =>
    cases e : letB a with
    | false =>
      have z : nmLen (a :: r) = 0 := by rw [nm_cons, e]; rfl
      rw [z]
      show (letB a || (false && digB a)) = false
      rw [e]; rfl
    | true =>
      have z : nmLen (a :: r) = (r.takeWhile nameB).length + 1 := by rw [nm_cons, e, if_pos rfl, Nat.add_comm]
      rw [z]
      unfold contB
      rw [List.getElem?_cons_succ]
      cases h : r[(r.takeWhile nameB).length]? with
      | none => rfl
      | some c =>
        have q := tw_end (p := nameB) r c h
        show (letB c || (decide (0 < _ + 1) && digB c)) = false
        rw [decide_eq_true (Nat.succ_pos _), Bool.true_and]
        exact q
theorem tw_le {p : Nat → Bool} : ∀ l : S, (l.takeWhile p).length ≤ l.length
  | [] => Nat.le_refl _
  | a :: r => by
    rw [List.takeWhile_cons]
    split
    · exact Nat.succ_le_succ (tw_le r)
    · exact Nat.zero_le _
theorem nm_le (l : S) : nmLen l ≤ l.length := by
  cases l with
  | nil => exact Nat.le_refl _
  | cons a r =>
    rw [nm_cons]
    have := tw_le (p := nameB) r
    rw [List.length_cons]
    split <;> omega
/-- behind a dollar sign: the name, and how many signs the field has -/
def fieldD : S → Option (S × Nat)
  | 123 :: r => if nmLen r = 0 then none else if (r.drop (nmLen r)).head? = some 125 then some (r.take (nmLen r), nmLen r + 2) else none
  | l => if nmLen l = 0 then none else some (l.take (nmLen l), nmLen l)
abbrev Pt := Nat ⊕ S
inductive PD : S → Option (List Pt) → Prop
  | nil : PD [] (some [])
  | dd {r : S} {o : Option (List Pt)} : PD r o → PD (36 :: 36 :: r) (o.map (Sum.inl 36 :: ·))
  | fld {l n : S} {k : Nat} {o : Option (List Pt)} : l.head? ≠ some 36 → fieldD l = some (n, k) → PD (l.drop k) o → PD (36 :: l) (o.map (Sum.inr n :: ·))
  | bad {l : S} : l.head? ≠ some 36 → fieldD l = none → PD (36 :: l) none
  | ch {c : Nat} {r : S} {o : Option (List Pt)} : c ≠ 36 → PD r o → PD (c :: r) (o.map (Sum.inl c :: ·))
/-! ### how formats are written -/
def esc : S → S
  | [] => []
  | c :: r => if c = 36 then 36 :: 36 :: esc r else c :: esc r
abbrev Fm := S ⊕ S
/-- a name of letters, digits and _, the first one no digit -/
def nmOk (n : S) : Bool := match n with
  | [] => false
  | c :: r => letB c && r.all nameB
inductive Rnd : List Fm → S → Prop
  | nil : Rnd [] []
  | text {t s : S} {ps : List Fm} : Rnd ps s → Rnd (.inl t :: ps) (esc t ++ s)
  | bare {n s : S} {ps : List Fm} : nmOk n = true → (∀ c, s.head? = some c → nameB c = false) → Rnd ps s → Rnd (.inr n :: ps) (36 :: (n ++ s))
  | brace {n s : S} {ps : List Fm} : nmOk n = true → Rnd ps s → Rnd (.inr n :: ps) (36 :: 123 :: (n ++ 125 :: s))
def flat : List Fm → List Pt
  | [] => []
  | .inl t :: r => t.map Sum.inl ++ flat r
  | .inr n :: r => .inr n :: flat r
theorem nm_of {n s : S} (h : nmOk n = true) (e : ∀ c, s.head? = some c → nameB c = false) : nmLen (n ++ s) = n.length := by
  cases n with
  | nil => cases h
  | cons a r =>
    obtain ⟨h1, h2⟩ := Bool.and_eq_true_iff.mp h
    show (if letB a then 1 + ((r ++ s).takeWhile nameB).length else 0) = r.length + 1
    rw [if_pos h1]
    have z : ((r ++ s).takeWhile nameB).length = r.length := by
      clear h h1
      induction r with
      | nil =>
        cases s with
        | nil => rfl
        | cons c s => show (List.takeWhile nameB (c :: s)).length = 0; rw [List.takeWhile_cons, e c rfl]; rfl
      | cons b r ih =>
        obtain ⟨h3, h4⟩ := Bool.and_eq_true_iff.mp (show (nameB b && r.all nameB) = true from h2)
        show (List.takeWhile nameB (b :: (r ++ s))).length = r.length + 1
        rw [List.takeWhile_cons, h3]
        exact congrArg Nat.succ (ih h4)
    rw [z, Nat.add_comm]
theorem nm_of_tw {n s : S} (h : nmOk n = true) : nmLen (n ++ s) = n.length + (s.takeWhile nameB).length := by
  cases n with
  | nil => cases h
  | cons a r =>
    obtain ⟨h1, h2⟩ := Bool.and_eq_true_iff.mp h
    show (if letB a then 1 + ((r ++ s).takeWhile nameB).length else 0) = r.length + 1 + _
    rw [if_pos h1]
    have z : ((r ++ s).takeWhile nameB).length = r.length + (s.takeWhile nameB).length := by
      clear h h1
      induction r with
      | nil => exact (Nat.zero_add _).symm
      | cons b r ih =>
        obtain ⟨h3, h4⟩ := Bool.and_eq_true_iff.mp (show (nameB b && r.all nameB) = true from h2)
        show (List.takeWhile nameB (b :: (r ++ s))).length = r.length + 1 + _
        rw [List.takeWhile_cons, h3]
        have := ih h4
        show ((r ++ s).takeWhile nameB).length + 1 = _
        omega
    omega
theorem let_ne {c : Nat} (h : letB c = true) : c ≠ 36 ∧ c ≠ 123 := by
  constructor
  · intro z; rw [z] at h; revert h; decide
  · intro z; rw [z] at h; revert h; decide
theorem ok_head {n s : S} (h : nmOk n = true) : (∃ c r, n ++ s = c :: r ∧ letB c = true) := by
  cases n with
  | nil => cases h
  | cons a r => exact ⟨a, r ++ s, rfl, (Bool.and_eq_true_iff.mp h).1⟩
theorem field_bare {l : S} (h : l.head? ≠ some 123) : fieldD l = if nmLen l = 0 then none else some (l.take (nmLen l), nmLen l) := by
  unfold fieldD
  split
  · exact absurd rfl h
  · rfl
theorem pd_text {o : Option (List Pt)} {s : S} (h : PD s o) : ∀ t : S, PD (esc t ++ s) (o.map ((t.map Sum.inl) ++ ·))
  | [] => by
    have e : o.map (([] : List Pt) ++ ·) = o := by cases o <;> rfl
    show PD s (o.map (([] : List Pt) ++ ·))
    rw [e]; exact h
  | c :: t => by
    have ih := pd_text h t
    have e : o.map (((c :: t).map Sum.inl : List Pt) ++ ·) = (o.map ((t.map Sum.inl : List Pt) ++ ·)).map (Sum.inl c :: ·) := by cases o <;> rfl
    rw [e]
    unfold esc
    split
    · rename_i z; subst z; exact .dd ih
    · rename_i z; exact .ch z ih
theorem pd_bare {o : Option (List Pt)} {n s : S} (hn : nmOk n = true) (k : PD (s.dropWhile nameB) o) : PD (36 :: (n ++ s)) (o.map (Sum.inr (n ++ s.takeWhile nameB) :: ·)) := by
  obtain ⟨c, r, e, hc⟩ := ok_head (s := s) hn
  have l1 := nm_of_tw (s := s) hn
  have hd : (s.takeWhile nameB) ++ s.dropWhile nameB = s := List.takeWhile_append_dropWhile
  have sp : n ++ s = (n ++ s.takeWhile nameB) ++ s.dropWhile nameB := by rw [List.append_assoc, hd]
  have ln : n.length + (s.takeWhile nameB).length = (n ++ s.takeWhile nameB).length := (List.length_append ..).symm
  have t1 : (n ++ s).take (n.length + (s.takeWhile nameB).length) = n ++ s.takeWhile nameB := by rw [ln, sp, List.take_left]
  have d1 : (n ++ s).drop (n.length + (s.takeWhile nameB).length) = s.dropWhile nameB := by rw [ln, sp, List.drop_left]
  have pos : nmLen (n ++ s) ≠ 0 := by
    rw [l1]
    cases n with
    | nil => cases hn
    | cons a n => rw [List.length_cons]; omega
  refine .fld (k := nmLen (n ++ s)) (by rw [e]; intro z; exact (let_ne hc).1 (Option.some.inj z)) ?_ (by rw [l1, d1]; exact k)
  rw [field_bare (by rw [e]; intro z; exact (let_ne hc).2 (Option.some.inj z)), if_neg pos, l1, t1]
theorem pd_brace {o : Option (List Pt)} {n s : S} (hn : nmOk n = true) (k : PD s o) : PD (36 :: 123 :: (n ++ 125 :: s)) (o.map (Sum.inr n :: ·)) := by
  have l1 := nm_of (n := n) (s := 125 :: s) hn (fun c e => by cases e; decide)
  have pos : nmLen (n ++ 125 :: s) ≠ 0 := by
    rw [l1]
    cases n with
    | nil => cases hn
    | cons a n => rw [List.length_cons]; omega
  refine .fld (k := n.length + 2) (by intro z; cases z) ?_ ?_
  · show (if nmLen (n ++ 125 :: s) = 0 then none else if ((n ++ 125 :: s).drop (nmLen (n ++ 125 :: s))).head? = some 125 then some ((n ++ 125 :: s).take (nmLen (n ++ 125 :: s)), nmLen (n ++ 125 :: s) + 2) else none) = _
    rw [if_neg pos, l1, List.drop_left, if_pos (show (125 :: s).head? = some 125 from rfl), List.take_left]
  · have e : (123 :: (n ++ 125 :: s)).drop (n.length + 2) = s := by
      show (n ++ 125 :: s).drop (n.length + 1) = s
      rw [show n ++ 125 :: s = (n ++ [125]) ++ s by simp, show n.length + 1 = (n ++ [125]).length by simp, List.drop_left]
    rw [e]; exact k
/-- what is written is read again -/
theorem rnd_pd : ∀ {ps : List Fm} {s : S}, Rnd ps s → PD s (some (flat ps))
  | _, _, .nil => .nil
  | _, _, .text (t := t) h => pd_text (rnd_pd h) t
  | _, _, .bare (n := n) (s := s) hn e h => by
    have z : s.takeWhile nameB = [] := by
      cases s with
      | nil => rfl
      | cons c s => rw [List.takeWhile_cons, e c rfl]; rfl
    have z2 : s.dropWhile nameB = s := by
      cases s with
      | nil => rfl
      | cons c s => rw [List.dropWhile_cons, e c rfl]; rfl
    have := pd_bare (o := some _) (s := s) hn (by rw [z2]; exact rnd_pd h)
    rw [z, List.append_nil] at this
    exact this
  | _, _, .brace hn h => pd_brace (o := some _) hn (rnd_pd h)
/-- what is broken behind what is written is broken -/
theorem rnd_bad {X : S} (h1 : PD X none) (h2 : PD (X.dropWhile nameB) none) : ∀ {ps : List Fm} {s : S}, Rnd ps s → PD (s ++ X) none
  | _, _, .nil => h1
  | _, _, .text (t := t) h => by rw [List.append_assoc]; exact pd_text (rnd_bad h1 h2 h) t
  | _, _, .bare (n := n) (s := s) hn e h => by
    rw [List.cons_append, List.append_assoc]
    cases s with
    | nil => exact pd_bare (o := none) hn (by rw [List.nil_append]; exact h2)
    | cons c s =>
      have z : (c :: s ++ X).dropWhile nameB = c :: s ++ X := by rw [List.cons_append, List.dropWhile_cons, e c rfl]; rfl
      exact pd_bare (o := none) hn (by rw [z]; exact rnd_bad h1 h2 h)
  | _, _, .brace (n := n) (s := s) hn h => by
    have e : (36 :: 123 :: (n ++ 125 :: s)) ++ X = 36 :: 123 :: (n ++ 125 :: (s ++ X)) := by simp
    rw [e]
    exact pd_brace (o := none) hn (rnd_bad h1 h2 h)
/-- without its first signs, as far as they are of names, it is still written -/
theorem rnd_drop : ∀ {ps : List Fm} {s : S}, Rnd ps s → ∃ qs, Rnd qs (s.dropWhile nameB)
  | _, _, .nil => ⟨[], .nil⟩
  | _, _, .bare (n := n) (s := s) hn e h => ⟨_, by
    have z : (36 :: (n ++ s)).dropWhile nameB = 36 :: (n ++ s) := by rw [List.dropWhile_cons, show nameB 36 = false from by decide]; rfl
    rw [z]; exact .bare hn e h⟩
  | _, _, .brace (n := n) (s := s) hn h => ⟨_, by
    have z : (36 :: 123 :: (n ++ 125 :: s)).dropWhile nameB = 36 :: 123 :: (n ++ 125 :: s) := by rw [List.dropWhile_cons, show nameB 36 = false from by decide]; rfl
    rw [z]; exact .brace hn h⟩
  | _, _, .text (t := t) (s := s) (ps := ps) h => by
    induction t with
    | nil => exact rnd_drop h
    | cons c t ih =>
      cases e : nameB c with
      | true =>
        have nc : c ≠ 36 := fun z => by rw [z] at e; revert e; decide
        have z : (esc (c :: t) ++ s).dropWhile nameB = (esc t ++ s).dropWhile nameB := by
          have q : esc (c :: t) = c :: esc t := by show (if c = 36 then _ else _) = _; rw [if_neg nc]
          rw [q, List.cons_append, List.dropWhile_cons, e, if_pos rfl]
        rw [z]; exact ih
      | false =>
        refine ⟨.inl (c :: t) :: ps, ?_⟩
        have z : (esc (c :: t) ++ s).dropWhile nameB = esc (c :: t) ++ s := by
          by_cases d : c = 36
          · subst d
            show (36 :: 36 :: (esc t ++ s)).dropWhile nameB = _
            rw [List.dropWhile_cons, e]; simp [esc]
          · have q : esc (c :: t) = c :: esc t := by show (if c = 36 then _ else _) = _; rw [if_neg d]
            rw [q, List.cons_append, List.dropWhile_cons, e]; rfl
        rw [z]; exact .text h
theorem drop_app {b tail : S} (h : ∀ c, tail.head? = some c → nameB c = false) : (b ++ tail).dropWhile nameB = b.dropWhile nameB ++ tail := by
  induction b with
  | nil =>
    cases tail with
    | nil => rfl
    | cons c t => show (c :: t).dropWhile nameB = _; rw [List.dropWhile_cons, h c rfl]; rfl
  | cons a b ih =>
    rw [List.cons_append, List.dropWhile_cons, List.dropWhile_cons]
    cases nameB a with
    | true => exact ih
    | false => rfl
/-- ahead, behind, something broken at the end that begins with a dollar -/
theorem bad_end {as bs : List Fm} {a b r : S} (ha : Rnd as a) (hb : Rnd bs b) (h : PD (36 :: r) none) : PD (a ++ (b ++ 36 :: r)) none := by
  have h36 : ∀ c, (36 :: r).head? = some c → nameB c = false := fun c e => by cases e; decide
  have hd : (36 :: r).dropWhile nameB = 36 :: r := by rw [List.dropWhile_cons, show nameB 36 = false from by decide]; rfl
  have h2 : PD ((36 :: r).dropWhile nameB) none := by rw [hd]; exact h
  refine rnd_bad (rnd_bad h h2 hb) ?_ ha
  rw [drop_app h36]
  obtain ⟨qs, hq⟩ := rnd_drop hb
  exact rnd_bad h h2 hq
/-- ahead, something broken that begins with a dollar, anything -/
theorem bad_mid {as : List Fm} {a r : S} (ha : Rnd as a) (h : PD (36 :: r) none) : PD (a ++ 36 :: r) none := by
  refine rnd_bad h ?_ ha
  rw [List.dropWhile_cons, show nameB 36 = false from by decide]; exact h
end RP

set_option Elab.async false
set_option linter.all false
set_option maxRecDepth 100000
set_option maxHeartbeats 4000000
/-! Formats in braces, over lists of signs. -/
namespace RO
open RP (S nmLen digB letB nameB digits letters)
def alB (c : Nat) : Bool := decide (c ∈ ([60, 62, 94] : S))
def wdB (l : S) : Bool := (decide (0 < l.length) && decide (l.length < 3)) && (decide (l.head? ≠ some 48) && l.all digB)
/-- fill, align, width as they stand -/
def cut3 : S → S × S × S
  | c :: d :: r => if alB d then ([c], [d], r) else if alB c then ([32], [c], d :: r) else ([32], [], c :: d :: r)
  | [c] => if alB c then ([32], [c], []) else ([32], [], [c])
  | [] => ([32], [], [])
def okB (f a w : S) : Bool := !(decide (f = [123]) || decide (f = [125])) && !(decide (w = []) && decide (a = [])) && (decide (w = []) || wdB w)
def specB (l : S) : Option (S × S × S) := if okB (cut3 l).1 (cut3 l).2.1 (cut3 l).2.2 then some (cut3 l) else none
/-- the conversion, and what is behind it -/
def conv (l : S) : S × S := if l.take 2 = [33, 114] ∨ l.take 2 = [33, 115] then ((l.drop 1).take 1, l.drop 2) else ([], l)
abbrev Fd := S × S × S × S × S
def fieldB (b : S) : Option Fd :=
  if nmLen b = 0 then none else
  match (conv (b.drop (nmLen b))).2 with
  | [] => some (b.take (nmLen b), (conv (b.drop (nmLen b))).1, [32], [], [])
  | c :: r => if c = 58 then (specB r).map fun q => (b.take (nmLen b), (conv (b.drop (nmLen b))).1, q) else none
abbrev Pt := Nat ⊕ Fd
inductive PB : S → Option (List Pt) → Prop
  | nil : PB [] (some [])
  | two {c : Nat} {r : S} {o : Option (List Pt)} : c = 123 ∨ c = 125 → PB r o → PB (c :: c :: r) (o.map (Sum.inl c :: ·))
  | ch {c : Nat} {r : S} {o : Option (List Pt)} : c ≠ 123 → c ≠ 125 → PB r o → PB (c :: r) (o.map (Sum.inl c :: ·))
  | close {r : S} : r.head? ≠ some 125 → PB (125 :: r) none
  | lost {r : S} : r.head? ≠ some 123 → 125 ∉ r → PB (123 :: r) none
  | bad {b r : S} : (b ++ 125 :: r).head? ≠ some 123 → 125 ∉ b → fieldB b = none → PB (123 :: (b ++ 125 :: r)) none
  | fld {b r : S} {f : Fd} {o : Option (List Pt)} : (b ++ 125 :: r).head? ≠ some 123 → 125 ∉ b → fieldB b = some f → PB r o → PB (123 :: (b ++ 125 :: r)) (o.map (Sum.inr f :: ·))
theorem split : ∀ r : S, 125 ∈ r → ∃ b t, r = b ++ 125 :: t ∧ 125 ∉ b
  | [], h => nomatch h
  | c :: r, h => by
    by_cases e : c = 125
    · subst e; exact ⟨[], r, rfl, fun h => nomatch h⟩
    · rcases List.mem_cons.mp h with h | h
      · exact absurd h.symm e
      · obtain ⟨b, t, rfl, hb⟩ := split r h
        refine ⟨c :: b, t, rfl, fun h => ?_⟩
        rcases List.mem_cons.mp h with h | h
        · exact e h.symm
        · exact hb h
theorem total : ∀ (n : Nat) (s : S), s.length ≤ n → ∃ o, PB s o
  | _, [], _ => ⟨_, .nil⟩
  | 0, _ :: _, h => absurd h (Nat.not_succ_le_zero _)
  | n + 1, c :: r, h => by
    have hr : r.length ≤ n := Nat.le_of_succ_le_succ h
    by_cases e1 : c = 123
    · subst e1
      by_cases e : r.head? = some 123
      · cases r with
        | nil => cases e
        | cons d r =>
          cases e
          obtain ⟨o, ho⟩ := total n r (Nat.le_of_succ_le hr)
          exact ⟨_, .two (.inl rfl) ho⟩
      · by_cases m : 125 ∈ r
        · obtain ⟨b, t, rfl, hb⟩ := split r m
          cases f : fieldB b with
          | none => exact ⟨_, .bad e hb f⟩
          | some f' =>
            obtain ⟨o, ho⟩ := total n t (by rw [List.length_append, List.length_cons] at hr; omega)
            exact ⟨_, .fld e hb f ho⟩
        · exact ⟨_, .lost e m⟩
    · by_cases e2 : c = 125
      · subst e2
        by_cases e : r.head? = some 125
        · cases r with
          | nil => cases e
          | cons d r =>
            cases e
            obtain ⟨o, ho⟩ := total n r (Nat.le_of_succ_le hr)
            exact ⟨_, .two (.inr rfl) ho⟩
        · exact ⟨_, .close e⟩
      · obtain ⟨o, ho⟩ := total n r hr
        exact ⟨_, .ch e1 e2 ho⟩
/-- how many braces -/
def brB (c : Nat) : Bool := decide (c = 123 ∨ c = 125)
def cnt (s : S) : Nat := s.countP brB
theorem cnt_app (a b : S) : cnt (a ++ b) = cnt a + cnt b := List.countP_append ..
theorem cnt_zero {s : S} (h : ∀ c ∈ s, c ≠ 123 ∧ c ≠ 125) : cnt s = 0 := by
  unfold cnt
  rw [List.countP_eq_zero]
  intro c hc
  obtain ⟨h1, h2⟩ := h c hc
  unfold brB
  simp [h1, h2]
theorem name_no {c : Nat} (h : nameB c = true) : c ≠ 123 ∧ c ≠ 125 := by
  constructor <;> intro z <;> rw [z] at h <;> revert h <;> decide
theorem dig_no {c : Nat} (h : digB c = true) : c ≠ 123 ∧ c ≠ 125 := by
  constructor <;> intro z <;> rw [z] at h <;> revert h <;> decide
theorem al_no {c : Nat} (h : alB c = true) : c ≠ 123 ∧ c ≠ 125 := by
  constructor <;> intro z <;> rw [z] at h <;> revert h <;> decide
theorem tw_mem {p : Nat → Bool} {c : Nat} : ∀ l : S, c ∈ l.takeWhile p → p c = true
  | [], h => nomatch h
  | a :: r, h => by
    rw [List.takeWhile_cons] at h
    cases e : p a with
    | false => rw [e] at h; cases h
    | true =>
      rw [e] at h
      rcases List.mem_cons.mp h with h | h
      · subst h; exact e
      · exact tw_mem r h
theorem nm_no : ∀ b : S, ∀ c ∈ b.take (nmLen b), c ≠ 123 ∧ c ≠ 125
  | [], _, h => nomatch h
  | a :: r, c, h => by
    rw [RP.nm_cons] at h
    split at h
    · rename_i ha
      rw [show 1 + (r.takeWhile nameB).length = (r.takeWhile nameB).length + 1 by omega, List.take_succ_cons] at h
      rcases List.mem_cons.mp h with h | h
      · subst h; exact name_no (by show (letB c || _) = true; rw [ha]; rfl)
      · refine name_no ?_
        have e : r.take (r.takeWhile nameB).length = r.takeWhile nameB := by
          have hd : r.takeWhile nameB ++ r.dropWhile nameB = r := List.takeWhile_append_dropWhile
          conv => lhs; rw [← hd]
          rw [show (List.takeWhile nameB (List.takeWhile nameB r ++ List.dropWhile nameB r)).length = (List.takeWhile nameB r).length by rw [hd], List.take_left]
        rw [e] at h
        exact tw_mem r h
    · cases h
theorem cut_two (c d : Nat) (r : S) : cut3 (c :: d :: r) = if alB d = true then ([c], [d], r) else if alB c = true then ([32], [c], d :: r) else ([32], [], c :: d :: r) := rfl
theorem cut_one (c : Nat) : cut3 [c] = if alB c = true then ([32], [c], []) else ([32], [], [c]) := rfl
theorem spec_no {l : S} {q : S × S × S} (h : specB l = some q) : ∀ c ∈ l, c ≠ 123 ∧ c ≠ 125 := by
  unfold specB at h
  split at h
  · rename_i hk
    unfold okB at hk
    rw [Bool.and_eq_true, Bool.and_eq_true] at hk
    obtain ⟨⟨h1, _⟩, h3⟩ := hk
    have wno : ∀ w : S, (decide (w = []) || wdB w) = true → ∀ c ∈ w, c ≠ 123 ∧ c ≠ 125 := fun w hw c hc => by
      rcases Bool.or_eq_true_iff.mp hw with z | z
      · rw [of_decide_eq_true z] at hc; cases hc
      · unfold wdB at z
        rw [Bool.and_eq_true] at z
        exact dig_no (List.all_eq_true.mp (Bool.and_eq_true_iff.mp z.2).2 c hc)
    have fno : ∀ c : Nat, (!(decide (([c] : S) = [123]) || decide (([c] : S) = [125]))) = true → c ≠ 123 ∧ c ≠ 125 := fun c hc => by
      constructor <;> intro z <;> rw [z] at hc <;> revert hc <;> decide
    intro c hc
    match l, h1, h3, hc with
    | [], _, _, hc => cases hc
    | [a], h1, h3, hc =>
      obtain rfl := List.mem_singleton.mp hc
      rw [cut_one] at h3
      by_cases ha : alB c = true
      · exact al_no ha
      · rw [if_neg ha] at h3
        exact wno _ h3 _ List.mem_cons_self
    | a :: d :: r, h1, h3, hc =>
      rw [cut_two] at h1 h3
      by_cases hd : alB d = true
      · rw [if_pos hd] at h1 h3
        rcases List.mem_cons.mp hc with rfl | hc
        · exact fno _ h1
        rcases List.mem_cons.mp hc with rfl | hc
        · exact al_no hd
        · exact wno _ h3 _ hc
      · rw [if_neg hd] at h1 h3
        by_cases ha : alB a = true
        · rw [if_pos ha] at h1 h3
          rcases List.mem_cons.mp hc with rfl | hc
          · exact al_no ha
          · exact wno _ h3 _ hc
        · rw [if_neg ha] at h1 h3
          exact wno _ h3 _ hc
  · cases h
theorem conv_no {l r : S} (h : (conv l).2 = r) (hr : ∀ c ∈ r, c ≠ 123 ∧ c ≠ 125) : ∀ c ∈ l, c ≠ 123 ∧ c ≠ 125 := by
  unfold conv at h
  by_cases k : l.take 2 = [33, 114] ∨ l.take 2 = [33, 115]
  · rw [if_pos k] at h
    intro c hc
    rw [← List.take_append_drop 2 l, List.mem_append] at hc
    rcases hc with hc | hc
    · rcases k with k | k
      · rw [k] at hc
        rcases List.mem_cons.mp hc with rfl | hc
        · decide
        · obtain rfl := List.mem_singleton.mp hc; decide
      · rw [k] at hc
        rcases List.mem_cons.mp hc with rfl | hc
        · decide
        · obtain rfl := List.mem_singleton.mp hc; decide
    · exact hr c (h ▸ hc)
  · rw [if_neg k] at h
    subst h; exact hr
theorem field_no {b : S} {f : Fd} (h : fieldB b = some f) : ∀ c ∈ b, c ≠ 123 ∧ c ≠ 125 := by
  unfold fieldB at h
  split at h
  · cases h
  · have tail : ∀ c ∈ b.drop (nmLen b), c ≠ 123 ∧ c ≠ 125 := by
      split at h
      · rename_i e
        exact conv_no e fun c hc => nomatch hc
      · rename_i c r e
        by_cases k : c = 58
        · rw [if_pos k] at h
          cases q : specB r with
          | none => rw [q] at h; cases h
          | some q' =>
            refine conv_no e fun x hx => ?_
            rcases List.mem_cons.mp hx with rfl | hx
            · subst k; decide
            · exact spec_no q x hx
        · rw [if_neg k] at h; cases h
    intro c hc
    rw [← List.take_append_drop (nmLen b) b, List.mem_append] at hc
    rcases hc with hc | hc
    · exact nm_no b c hc
    · exact tail c hc
/-- a right format holds an even number of braces -/
theorem even : ∀ {s : S} {o : Option (List Pt)}, PB s o → o ≠ none → cnt s % 2 = 0
  | _, _, .nil, _ => rfl
  | _, _, .two (c := c) (r := r) (o := o) hc h, k => by
    have ih := even h (fun z => k (by rw [z]; rfl))
    have e : cnt (c :: c :: r) = cnt r + 2 := by
      unfold cnt
      rw [List.countP_cons, List.countP_cons, if_pos (show brB c = true from decide_eq_true hc)]
    rw [e]; omega
  | _, _, .ch (c := c) (r := r) h1 h2 h, k => by
    have ih := even h (fun z => k (by rw [z]; rfl))
    have e : cnt (c :: r) = cnt r := by
      unfold cnt
      rw [List.countP_cons, if_neg (show ¬ brB c = true from fun z => (of_decide_eq_true z).elim h1 h2)]; rfl
    rw [e]; exact ih
  | _, _, .close _, k => absurd rfl k
  | _, _, .lost _ _, k => absurd rfl k
  | _, _, .bad _ _ _, k => absurd rfl k
  | _, _, .fld (b := b) (r := r) _ _ hf h, k => by
    have ih := even h (fun z => k (by rw [z]; rfl))
    have e : cnt (123 :: (b ++ 125 :: r)) = cnt r + 2 := by
      show cnt ([123] ++ (b ++ ([125] ++ r))) = _
      rw [cnt_app, cnt_app, cnt_app, cnt_zero (field_no hf)]
      show 1 + (0 + (1 + cnt r)) = _
      omega
    rw [e]; omega
/-- an odd number: broken -/
theorem odd_none {s : S} (h : cnt s % 2 = 1) : PB s none := by
  obtain ⟨o, ho⟩ := total s.length s (Nat.le_refl _)
  cases o with
  | none => exact ho
  | some ps => have := even ho (fun z => nomatch z); omega
/-- a piece: read as these parts whatever follows -/
def Pc (p : S) (fs : List Pt) : Prop := ∀ (X : S) (o : Option (List Pt)), PB X o → PB (p ++ X) (o.map (fs ++ ·))
theorem Pc.nil : Pc [] [] := fun X o h => by
  have e : o.map (([] : List Pt) ++ ·) = o := by cases o <;> rfl
  rw [e]; exact h
theorem Pc.app {p q : S} {fs gs : List Pt} (h : Pc p fs) (k : Pc q gs) : Pc (p ++ q) (fs ++ gs) := fun X o hX => by
  have e : o.map ((fs ++ gs) ++ ·) = (o.map (gs ++ ·)).map (fs ++ ·) := by cases o <;> simp
  rw [e, List.append_assoc]
  exact h _ _ (k _ _ hX)
theorem Pc.right {p : S} {fs : List Pt} (h : Pc p fs) : PB p (some fs) := by
  have := h [] _ .nil
  rw [List.append_nil] at this
  rw [show some fs = (some ([] : List Pt)).map (fs ++ ·) by simp]
  exact this
theorem Pc.wrong {p X : S} {fs : List Pt} (h : Pc p fs) (k : PB X none) : PB (p ++ X) none := h X none k
def escB : S → S
  | [] => []
  | c :: r => if c = 123 ∨ c = 125 then c :: c :: escB r else c :: escB r
theorem Pc.text : ∀ t : S, Pc (escB t) (t.map Sum.inl)
  | [] => Pc.nil
  | c :: t => fun X o h => by
    have ih := Pc.text t X o h
    have e : o.map ((c :: t).map Sum.inl ++ ·) = (o.map ((t.map Sum.inl : List Pt) ++ ·)).map (Sum.inl c :: ·) := by cases o <;> rfl
    rw [e]
    unfold escB
    by_cases k : c = 123 ∨ c = 125
    · rw [if_pos k]; exact .two k ih
    · rw [if_neg k]; exact .ch (fun z => k (.inl z)) (fun z => k (.inr z)) ih
theorem Pc.field {b : S} {f : Fd} (h : fieldB b = some f) : Pc (123 :: (b ++ [125])) [Sum.inr f] := fun X o hX => by
  have no := field_no h
  have e : 123 :: (b ++ [125]) ++ X = 123 :: (b ++ 125 :: X) := by simp
  rw [e]
  refine .fld (fun z => ?_) (fun z => (no _ z).2 rfl) h hX
  cases b with
  | nil => cases z
  | cons c b => exact (no c List.mem_cons_self).1 (Option.some.inj z)
theorem field_bad {b : S} (h : fieldB b = none) (h1 : 125 ∉ b) (h2 : b.head? ≠ some 123) (X : S) : PB (123 :: (b ++ 125 :: X)) none := by
  refine .bad (fun z => ?_) h1 h
  cases b with
  | nil => cases z
  | cons c b => exact h2 z
end RO

set_option Elab.async false
set_option linter.all false
set_option maxRecDepth 100000
set_option maxHeartbeats 4000000
/-! Defs that may raise own errors, calls of them, raise, except X as e of several clauses. -/
namespace RQ
open PySem PySem.Spec PyProof.Rows L2 RC
/-- as Callable, where an error may leave the def -/
def CallX (P : Program) (w : World) (K : PySem.W.Frag) (mg : Str → Option Value) (base : Heap) (k : Nat) (f : Addr) (ps : List Str) (dvs : List V) (sp : Sp) : Prop :=
  ∃ fd ds, FnOk P w K mg base (L2.CX P w) k f fd ps sp ∧ Vals dvs ds ∧ Binds K fd ps ds ∧ PySem.W.keepIn K (.ref f) = true
section
variable {P : Program} {w : World} {K : PySem.W.Frag} {mg : Str → Option Value} {base : Heap} {x qual : Str} {dvs : List V} {f : Addr} {k : Nat} {N ps : List Str} {sp : Sp}
theorem CallX.up {j : Nat} (c : CallX P w K mg base j f ps dvs sp) (h : j ≤ k) : CallX P w K mg base k f ps dvs sp :=
  let ⟨fd, ds, F, r⟩ := c
  ⟨fd, ds, F.mono h, r⟩
theorem stands_callX {st : Stmt} (F : Stands K x qual st dvs f) (S : FnScope N ps (defScope st)) (n j : Nat) (len : ∀ vs H Q E, sp vs H Q E → vs.length = ps.length)
    (hbody : ∀ (cdv : Value) (A : Around) (outer : List Env) (s : Shared) (H : Hp) (vs : List V) (Q : VK) (E : XK), Room k (A.deeper (envOfC qual (defScope st) s.heap.objs.size f cdv)) → sp vs H Q E →
      ∃ t, PSs (cxOf (L2.CX P w) P w K mg base N qual (defScope st) f cdv A outer s H E) (defBody st) t ∧ t { nx := fun _ H' => Q .non H', rt := Q } (start N vs) H)
    (h0 : dvs = [] → n = ps.length ∧ ∀ (kV doc pm : Value) (an : Option Addr) (cdv ct : Value) (us : List Value), us.length = ps.length → bindArgs (PySem.W.fnOf x qual (defArgs st) (defBody st) (defScope st) .none kV doc pm an cdv ct) ⟨us, []⟩ = pure (ps.zip us))
    (h1 : dvs ≠ [] → n + (dvs.length - j) = ps.length ∧ ∀ (T : Addr) (kV doc pm : Value) (an : Option Addr) (cdv ct : Value) (us its : List Value), us.length = n → its.length = dvs.length →
      ∃ k, bindArgs (PySem.W.fnOf x qual (defArgs st) (defBody st) (defScope st) (.ref T) kV doc pm an cdv ct) ⟨us, []⟩ = seqItems? (.ref T) >>= k ∧ k (some its.toArray) = pure (ps.zip (us ++ its.drop j))) :
    CallX P w K mg base (k + 1) f ps (dvs.drop j) sp := by
  obtain ⟨fd, F⟩ := F
  have ok : FnOk P w K mg base (L2.CX P w) (k + 1) f fd ps sp := F.ok S len fun cdv A outer s H vs Q E hr hsp => hbody cdv A outer s H vs Q E hr hsp
  by_cases hd : dvs = []
  · subst hd
    exact ⟨fd, [], ok, by rw [List.drop_nil]; exact .nil, F.bindsN (h0 rfl).2, F.kp⟩
  · obtain ⟨ds, hv, hb⟩ := F.binds1 n j hd (h1 hd).1 (h1 hd).2
    exact ⟨fd, ds, ok, hv, hb, F.kp⟩
theorem stands_callX0 {st : Stmt} (F : Stands K x qual st [] f) (S : FnScope N ps (defScope st)) (len : ∀ vs H Q E, sp vs H Q E → vs.length = ps.length)
    (hbody : ∀ (cdv : Value) (A : Around) (outer : List Env) (s : Shared) (H : Hp) (vs : List V) (Q : VK) (E : XK), Room k (A.deeper (envOfC qual (defScope st) s.heap.objs.size f cdv)) → sp vs H Q E →
      ∃ t, PSs (cxOf (L2.CX P w) P w K mg base N qual (defScope st) f cdv A outer s H E) (defBody st) t ∧ t { nx := fun _ H' => Q .non H', rt := Q } (start N vs) H)
    (h0 : ∀ (kV doc pm : Value) (an : Option Addr) (cdv ct : Value) (us : List Value), us.length = ps.length → bindArgs (PySem.W.fnOf x qual (defArgs st) (defBody st) (defScope st) .none kV doc pm an cdv ct) ⟨us, []⟩ = pure (ps.zip us)) :
    CallX P w K mg base (k + 1) f ps [] sp := by
  obtain ⟨fd, F⟩ := F
  have ok : FnOk P w K mg base (L2.CX P w) (k + 1) f fd ps sp := F.ok S len fun cdv A outer s H vs Q E hr hsp => hbody cdv A outer s H vs Q E hr hsp
  exact ⟨fd, [], ok, .nil, F.bindsN h0, F.kp⟩
end
section
variable {X : Cx} {k : Nat} {f C : Addr} {ps : List Str} {sp : Sp} {dvs : List V} {x m : Str} {p pos apos : Pos} {e o : Expr} {es : List Expr} {ta : TE} {t : TA} {pl : Sem Bool} {W : WX}
/-- f(e, ..), where f may raise -/
theorem pe_fnX (tk : Takes X W) (hm : X.mg x = some (.ref f)) (c : CallX X.prog X.w X.K X.mg X.base k f ps dvs sp) (hr : Room k X.A) (hg : Gl X x) (ha : PA X (e :: es) t) (hdb : (x == ("__debug__" : Str)) = false := by decide)
    (he : starEach (e :: es) X.env = (false, eval e X.env) :: starEach es X.env := by rfl) (hpl : (backTo pos (starEach es X.env)).any (·.1) = false := by rfl) : PE X (.Call (.Name x p) (e :: es) [] pos) (tCallSD sp dvs (WE W) t) := by
  obtain ⟨fd, ds, F, hd, hb, hk⟩ := c
  exact pe_callSD F hr hg hm hk hb hd (fun σ => passAt tk σ) ha hdb he hpl
/-- o.m(e, ..), where m may raise -/
def tMethX (C : Addr) (m : Str) (sp : Sp) (dvs : List V) (E : L2.St → XK) (ta : TE) (t : TA) : TE := fun σ H Q => ta σ H fun x H1 => ∃ a dx fs, x = .ref a ∧ H1 a = some (.ins C dx fs) ∧ fs.lookup m = none ∧ t σ H1 fun vs H2 => sp (x :: (vs ++ dvs)) H2 Q (E σ)
theorem pe_mtX (tk : Takes X W) (cl : Cls X.K C) (hm : Meth X.K C m f) (c : CallX X.prog X.w X.K X.mg X.base k f ps dvs sp) (hr : Room k X.A) (he : PE X o ta) (ha : PA X (e :: es) t)
    (hst : starEach (e :: es) X.env = (false, eval e X.env) :: starEach es X.env := by rfl) (hpl : (backTo pos (starEach es X.env)).any (·.1) = false := by rfl)
    (ht : eval (.Call (.Attribute o m apos) (e :: es) [] pos) X.env = (do
      let ov ← eval o X.env
      standAt apos.atName
      let (f, first) ← holding [ov] (getMethod ov m pl)
      callWith pos f first (backTo pos (starEach (e :: es) X.env)) (backToKw pos (keywordEach [] X.env))) := by rfl) :
    PE X (.Call (.Attribute o m apos) (e :: es) [] pos) (tMethX C m sp dvs (WE W) ta t) := by
  obtain ⟨fd, ds, F, hd, hb, hk⟩ := c
  refine ⟨fun pins s σ H Q I h => ?_⟩
  refine PySem.W.methodCall_KW (pl := pl) (thn (he.run pins s σ H _ I h) fun u s1 ⟨z, H1, I1, rz, a, dx, fs, ez, ea, l, q⟩ => ?_) ht
  subst ez
  obtain rfl : u = Value.ref a := rz
  refine getmeth_ok I1 ea cl hm l ?_
  refine PySem.W.callWith_K (first := [.ref a]) (h₀ := X.base) I.ok.mod.kin hm.kp (thn (ha.run pos pins s1 σ H1 _ I1 q) fun us s2 ⟨ws, H2, I2, r, q2⟩ => ⟨I2.kIn, ?_⟩) hst hpl
  exact run_fnSD (us := .ref a :: us) (vs := .ref a :: ws) F hr hb hd (passAt tk σ) I2 (.cons rfl r) q2
/-- C(e, ..), where __init__ may raise -/
def tMakeX (C : Addr) (sp : Sp) (dvs : List V) (E : L2.St → XK) (t : TA) : TE := fun σ H Q => t σ H fun vs H1 => ∀ x dx, H1 x = none → H1 dx = none → dx ≠ x →
  sp (.ref x :: (vs ++ dvs)) (upd (upd H1 dx (.own x)) x (.ins C dx [])) (fun v H2 => v = .non ∧ Q (.ref x) H2) (E σ)
theorem pe_mkX (tk : Takes X W) (M : Mk X.K C f) (hm : X.mg x = some (.ref C)) (c : CallX X.prog X.w X.K X.mg X.base k f ps dvs sp) (hr : Room (k + 1) X.A) (hg : Gl X x) (ha : PA X (e :: es) t) (hdb : (x == ("__debug__" : Str)) = false := by decide)
    (he : starEach (e :: es) X.env = (false, eval e X.env) :: starEach es X.env := by rfl) (hpl : (backTo pos (starEach es X.env)).any (·.1) = false := by rfl) : PE X (.Call (.Name x p) (e :: es) [] pos) (tMakeX C sp dvs (WE W) t) := by
  obtain ⟨fd, ds, F, hd, hb, hk⟩ := c
  refine ⟨fun pins s σ H Q I h => ?_⟩
  refine wpAny_Call_Name_kw (ld_glob I hg hm ?_ hdb)
  refine PySem.W.callWith_K (h₀ := X.base) I.ok.mod.kin M.kp (thn (ha.run pos pins s σ H _ I h) fun us s1 ⟨ws, H1, I1, r, q⟩ => ⟨I1.kIn, ?_⟩) he hpl
  have big := Nat.le_succ s1.heap.objs.size
  have spx := q (s1.heap.objs.size + 1) s1.heap.objs.size (I1.hok.fresh big) (I1.hok.fresh (Nat.le_refl _)) (Nat.ne_of_lt (Nat.lt_succ_self _))
  have made := Inv.made (C := C) I1
  have rel : Vals (V.ref (s1.heap.objs.size + 1) :: (ws ++ dvs)) (Value.ref (s1.heap.objs.size + 1) :: (us ++ ds)) := .cons rfl (r.append hd)
  have len : (Value.ref (s1.heap.objs.size + 1) :: us ++ ds).length = ps.length := rel.length.symm.trans (F.len _ _ _ _ spx)
  have bind := hb _ (Value.ref (s1.heap.objs.size + 1) :: us) made.kIn len
  have env := made.env0.make C us []
  have room := hr.make C us []
  refine wpAny_call (make_map (f := f) I1.kIn M.makes M.init (beq_iff_eq.mp M.fn) (codeAny_mono (F.run _ X.stack _ _ ⟨Value.ref (s1.heap.objs.size + 1) :: us, []⟩ _ _ _ (WE W σ) room env bind rel spx) fun z s' hz => ?_))
  cases z with
  | error er => exact passAt tk σ pins _ _ er s' made hz
  | ok fl =>
    cases fl with
    | ret u =>
      obtain ⟨v, H', I3, rv, ev, q3⟩ := made.after hz
      subst ev
      exact ⟨rv, V.ref (s1.heap.objs.size + 1), H', I3, rfl, q3⟩
    | next => exact hz.elim
    | brk => exact hz.elim
    | cont => exact hz.elim
end
/-! ### raise X(e) -/
/-- __init__ of an own error: one field kept -/
def spExcInit (K : PySem.W.Frag) (f : Str) : Sp := fun vs H Q _ => ∃ (a C : Addr) (v : V), vs = [.ref a, v] ∧ RB.ExcF K C f ∧ H a = some (exo a C none) ∧ ∀ dx, H dx = none → dx ≠ a → Q .non (upd (upd H dx (exd dx [(f, v)])) a (exo a C (some dx)))
section
variable {X : Cx} {C : Addr} {f x : Str} {k : Nat} {ps : List Str} {e : Expr} {p pos pos2 : Pos} {ta : TA} {W : WX}
def tMkE (C : Addr) (f : Str) (ta : TA) : L2.St → Hp → XK → Prop := fun σ H Q => ta σ H fun vs H1 => ∃ v, vs = [v] ∧ ∀ d, H1 d = none → Q (.ref C) (some d) (upd H1 d (.xd [(f, v)]))
theorem mkE_of {K : PySem.W.Frag} {Q : XK} {vs : List V} {H1 : Hp} (T : RB.ExcF K C f) (h : ∃ v, vs = [v] ∧ ∀ d, H1 d = none → Q (.ref C) (some d) (upd H1 d (.xd [(f, v)]))) :
    vs.length ≤ 1000 ∧ ∀ a, H1 a = none → spExcInit K f (.ref a :: (vs ++ [])) (upd H1 a (exo a C none))
      (fun v H2 => v = .non ∧ ∃ (d : Addr) (fs : List (Str × V)), H2 a = some (exo a C (some d)) ∧ H2 d = some (exd d fs) ∧ H1 d = none ∧ Q (.ref C) (some d) (upd (del H2 a) d (.xd fs))) (fun _ _ _ => False) := by
  obtain ⟨v, rfl, h⟩ := h
  refine ⟨by show 1 ≤ 1000; decide, fun a ha => ⟨a, C, v, rfl, T, upd_same, fun dx hdx nd => ⟨rfl, dx, [(f, v)], upd_same, by rw [upd_ne nd, upd_same], ?_, ?_⟩⟩⟩
  · have := hdx
    rw [upd_ne nd] at this
    exact this
  · have hd : H1 dx = none := by have := hdx; rw [upd_ne nd] at this; exact this
    have e : upd (del (upd (upd (upd H1 a (exo a C none)) dx (exd dx [(f, v)])) a (exo a C (some dx))) a) dx (.xd [(f, v)]) = upd H1 dx (.xd [(f, v)]) := by
      funext b
      by_cases c : b = dx
      · rw [c, upd_same, upd_same]
      · rw [upd_ne c, upd_ne c]
        by_cases z : b = a
        · rw [z, del_same, ha]
        · rw [del_ne z, upd_ne z, upd_ne c, upd_ne z]
    rw [e]
    exact h dx hd
theorem pmk_exc (T : RB.ExcF X.K C f) (c : Callable X.prog X.w X.K X.mg X.base k (He.ma X.K C "__init__") ps [] (spExcInit X.K f)) (hr : Room (k + 1) X.A) (hm : X.mg x = some (.ref C)) (hg : Gl X x) (ha : PA X [e] ta)
    (hdb : (x == ("__debug__" : Str)) = false := by decide) (he : starEach (e :: []) X.env = (false, eval e X.env) :: starEach [] X.env := by rfl) (hpl : (backTo pos (starEach [] X.env)).any (·.1) = false := by rfl) :
    PMk X (.Call (.Name x p) [e] [] pos) (tMkE C f ta) := by
  obtain ⟨fd, ds, F, hd, hb, hk⟩ := c
  have m := pmk_oex (dvs := []) (x := x) (p := p) (pos := pos) T.ox T.ini T.ty F hr hb hd pass0 hg hm ha hdb he hpl
  intro pins s σ H Q I h
  have ha2 : PA X [e] (fun σ0 H0 K0 => ta σ0 H0 (fun vs H1 => ∃ v, vs = [v] ∧ ∀ d, H1 d = none → Q (.ref C) (some d) (upd H1 d (.xd [(f, v)]))) ∧
      ∀ vs H1, (∃ v, vs = [v] ∧ ∀ d, H1 d = none → Q (.ref C) (some d) (upd H1 d (.xd [(f, v)]))) → K0 vs H1) := ⟨fun pos0 pins0 s0 σ0 H0 K0 I0 h0 =>
    wpAny_mono (ha.run pos0 pins0 s0 σ0 H0 _ I0 h0.1) (fun us s1 hz => by
      obtain ⟨vs, H1, I1, r1, q1⟩ := hz
      exact ⟨vs, H1, I1, r1, h0.2 vs H1 q1⟩) (fun _ _ z => z)⟩
  exact pmk_oex (dvs := []) (x := x) (p := p) (pos := pos) T.ox T.ini T.ty F hr hb hd pass0 hg hm ha2 hdb he hpl pins s σ H Q I ⟨h, fun vs H1 q => mkE_of T q⟩
/-- raise X(e) -/
def tExc (C : Addr) (f : Str) (W : WX) (ta : TA) : TS := fun _ σ H => tMkE C f ta σ H fun cls d H' => W cls d σ H'
theorem ps_exc (hc : X.calm = true) (tk : Takes X W) (T : RB.ExcF X.K C f) (c : Callable X.prog X.w X.K X.mg X.base k (He.ma X.K C "__init__") ps [] (spExcInit X.K f)) (hr : Room (k + 1) X.A) (hm : X.mg x = some (.ref C)) (hg : Gl X x) (ha : PA X [e] ta)
    (hdb : (x == ("__debug__" : Str)) = false := by decide) (he : starEach (e :: []) X.env = (false, eval e X.env) :: starEach [] X.env := by rfl) (hpl : (backTo pos (starEach [] X.env)).any (·.1) = false := by rfl) :
    PS X (.Raise (some (.Call (.Name x p) [e] [] pos)) none pos2) (tExc C f W ta) := ps_raise hc tk (pmk_exc T c hr hm hg ha hdb he hpl)
/-- self.f = e in an own error's __init__, the first field -/
theorem init_rd {K : PySem.W.Frag} {D : Ends} {σ : L2.St} {H : Hp} {a C : Addr} {v : V} {to te : TE} (T : RB.ExcF K C f) (h : ∀ (Q : V → Hp → Prop), Q v H → te σ H Q) (h2 : ∀ (Q : V → Hp → Prop), Q (.ref a) H → to σ H Q) (ea : H a = some (exo a C none))
    (q : ∀ dx, H dx = none → dx ≠ a → D.nx σ (upd (upd H dx (exd dx [(f, v)])) a (exo a C (some dx)))) : tOst K f to te D σ H :=
  h _ (h2 _ ⟨a, C, rfl, T.ox, T.no, .inl ⟨ea, q⟩⟩)
end
/-! ### except X as e, several clauses -/
abbrev HdT : Type := Value × Option Nat × (Addr → Value → Option Addr → TS)
/-- the ends of a suite whose slot i goes -/
def Ends.un (D : Ends) (i : Nat) : Ends := { nx := fun σ' H' => D.nx (σ'.set i none) H', rt := D.rt, bk := fun σ' H' => D.bk (σ'.set i none) H', ct := fun σ' H' => D.ct (σ'.set i none) H' }
def wAny (K : PySem.W.Frag) (Wout : WX) (D : Ends) : List HdT → WX
  | [] => Wout
  | (c, none, ts) :: r => fun cls d σ H => ∃ b, PySem.W.exmOne K cls c = some b ∧ (b = true → ∀ a, H a = none → ts a cls d D σ H) ∧ (b = false → wAny K Wout D r cls d σ H)
  | (c, some i, ts) :: r => fun cls d σ H => ∃ b, PySem.W.exmOne K cls c = some b ∧ (b = true → ∀ a, H a = none → ts a cls d (Ends.un D i) (σ.set i (some (.ref a))) H) ∧ (b = false → wAny K Wout D r cls d σ H)
inductive HdA (X : Cx) : List ExceptHandler → List HdT → Prop
  | nil : HdA X [] []
  | plain {x : Str} {c : Value} {ts : Addr → Value → Option Addr → TS} {b : Stmt} {bs : List Stmt} {np pe : Pos} {hds : List ExceptHandler} {l : List HdT} (hc : Names X x c)
      (su : ∀ (a : Addr) (oe : Obj) (cls : Value) (d : Option Addr) (pn : List (Addr × Obj)), Zc cls d oe → (∃ vs, oe.data = .fields vs) → PSs (X.suite a ((a, oe) :: pn)) (b :: bs) (ts a cls d)) (r : HdA X hds l) :
      HdA X (.ExceptHandler (some (.Name x np)) none (b :: bs) pe :: hds) ((c, none, ts) :: l)
  | named {x n : Str} {c : Value} {i : Nat} {ts : Addr → Value → Option Addr → TS} {b : Stmt} {bs : List Stmt} {np pe : Pos} {hds : List ExceptHandler} {l : List HdT} (hN : X.N.Nodup) (hi : X.N[i]? = some n) (hl : X.env.kindOf n = some .local) (hc : Names X x c)
      (su : ∀ (a : Addr) (oe : Obj) (cls : Value) (d : Option Addr) (pn : List (Addr × Obj)), Zc cls d oe → (∃ vs, oe.data = .fields vs) → PSs (X.suite a ((a, oe) :: pn)) (b :: bs) (ts a cls d)) (r : HdA X hds l) :
      HdA X (.ExceptHandler (some (.Name x np)) (some n) (b :: bs) pe :: hds) ((c, some i, ts) :: l)
section
variable {X : Cx} {body : List Stmt} {hd0 : ExceptHandler} {hds : List ExceptHandler} {l : List HdT} {pos : Pos} {tb : WX → TS} {Wout : WX}
/-- what a caught error leaves: looked at by clause after clause -/
theorem hd_go {pins : List (Addr × Obj)} {σq : L2.St} {Hq : Hp} {B : Heap} {a : Addr} {cls : Value} {d : Option Addr} {sq : Shared} {st : Shared} {D : Ends} (ok : X.Ok) (hs : X.stack = X.env :: X.outer) (hf : X.env.frame = some X.env.locals) (tk : Takes X Wout)
    (J : Inv X pins σq Hq sq) (grd : ∀ b o, sq.heap.get? b = some o → b ∉ frs X.stack → B.get? b = some o) (up : sq.heap.UpToSlots st.heap) (free : Hq a = none) (os : st.os = sq.os) (bare : AllBare st.gens)
    (fly : PySem.HandSPX.FlyingZ B (X.env :: X.outer) a (Zc cls d) st.heap) : ∀ {hds : List ExceptHandler} {l : List HdT}, HdA X hds l → wAny X.K Wout D l cls d σq Hq → wpAny (model X.prog X.w) X.A (handleBy (.ref a) X.env hds) (SP X pins D) X.xe st := by
  have J3 : Inv X pins σq Hq st := J.landed grd fly.1 up os bare
  obtain ⟨oA, vA, eA, zA, dA⟩ := fly.there
  have out : a ∉ frs (X.env :: X.outer) := fun hm => by
    obtain ⟨_, o2, e2, nf⟩ := fly.2.2.1.mem hm
    rw [eA] at e2
    cases e2
    exact nf _ dA
  have aL : a ≠ X.env.locals := fun z => out (List.mem_filterMap.mpr ⟨X.env, List.mem_cons_self, hf.trans (congrArg some z.symm)⟩)
  have aF : a ∉ X.fs := fun hm => by
    obtain ⟨v, hv, q⟩ := List.mem_filterMap.mp hm
    exact out (List.mem_filterMap.mpr ⟨v, List.mem_cons_of_mem _ hv, q⟩)
  have S3 := J3.suite eA dA free aL aF
  have ty : PySem.W.Looks (model X.prog X.w) st.heap (typeOf (.ref a)) cls := fun A Q E s kp q => wpAny_typeOf_ref (kp _ _ eA) (by rw [zA.1]; exact q)
  have named : ∀ {x : Str} {c : Value} {np : Pos} {Q : Value → Shared → Prop} {E : Value → Shared → Prop}, Names X x c → Q c st → wpAny (model X.prog X.w) (X.A.mark (some (.ref a))) (eval (.Name x np) X.env) Q E st := fun {x c np Q E} hc q => by
    obtain ⟨g1, g2, g3 | ⟨g3, g4, g5⟩⟩ := hc
    · exact ld_glob (X := X.suite a ((a, oA) :: (X.pn ++ pins))) S3 g1 g3 q g2
    · exact ld_blt (X := X.suite a ((a, oA) :: (X.pn ++ pins))) S3 g1 g3 g4 q g5 g2
  intro hds l hk
  induction hk with
  | nil =>
    intro w
    refine wpAny_handleBy_nil ?_
    obtain ⟨k1, k2, k3, oe, vs, T, oT, ts', he, hz, hd, h1, hr⟩ := id fly
    unfold PySem.passOn
    refine wpAny_bind (wpAny_field he hd h1 ?_)
    rw [if_neg (show ¬((Value.ref T == Value.none) = true) by simp)]
    have last : wpAny (model X.prog X.w) X.A (setFlight (.ref a) X.env.frame) (fun _ s4 => wpAny (model X.prog X.w) X.A (throw (.ref a) : Sem Flow) (SP X pins D) X.xe s4) X.xe st := by
      rw [hf]
      refine PySem.HandSPX.setFlight_upZ fly fun hW held upW => wpAny_throw (tk _ _ ?_)
      exact ⟨a, B, sq, pins, σq, Hq, cls, d, rfl, J, grd, up.trans upW, .inr (.inr (by rw [hs]; exact held)), free, os, bare, w⟩
    first
      | exact wpAny_bind (wpAny_pure (wpAny_bind last))
      | exact wpAny_bind last
  | @plain x c ts b bs np pe hds2 l2 hc su r ih =>
    rintro ⟨z, hz, hyes, hno⟩
    refine wpAny_handleBy_cons (codeAny_handlers_test ?_) (by intro q; cases q)
    refine named hc ((PySem.W.exm_one (M := model X.prog X.w) J3.kIn ty hz).here ?_)
    cases z with
    | false => exact ih (hno rfl)
    | true =>
      refine codeAny_handlers_suite (PySem.HandSPX.lands_againZ fly fun h4 fl4 up4 => ?_)
      have J4 : Inv X pins σq Hq { st with heap := h4 } := J.landed grd fl4.1 (up.trans up4) os bare
      obtain ⟨o4, v4, e4, z4, d4⟩ := fl4.there
      refine wpAny_mono ((su a o4 cls d (X.pn ++ pins) z4 ⟨_, d4⟩).run [] _ _ Hq _ (J4.suite e4 d4 free aL aF) (hyes rfl a free)) (fun fl s6 hsp => ?_) (fun _ _ z => z.elim)
      cases fl with
      | ret u =>
        obtain ⟨v6, σ6, H6, S6, r6, q6⟩ := hsp
        exact ⟨v6, σ6, H6, S6.unsuite ok, r6, q6⟩
      | next =>
        obtain ⟨σ6, H6, S6, q6⟩ := hsp
        exact ⟨σ6, H6, S6.unsuite ok, q6⟩
      | brk =>
        obtain ⟨σ6, H6, S6, q6⟩ := hsp
        exact ⟨σ6, H6, S6.unsuite ok, q6⟩
      | cont =>
        obtain ⟨σ6, H6, S6, q6⟩ := hsp
        exact ⟨σ6, H6, S6.unsuite ok, q6⟩
  | @named x n c i ts b bs np pe hds2 l2 hN hi hl hc su r ih =>
    rintro ⟨z, hz, hyes, hno⟩
    refine wpAny_handleBy_cons (codeAny_handlers_test ?_) (by intro q; cases q)
    refine named hc ((PySem.W.exm_one (M := model X.prog X.w) J3.kIn ty hz).here ?_)
    cases z with
    | false => exact ih (hno rfl)
    | true =>
      refine codeAny_handlers_suite_as (PySem.HandSPX.lands_againZ fly fun h4 fl4 up4 => ?_)
      have J4 : Inv X pins σq Hq { st with heap := h4 } := J.landed grd fl4.1 (up.trans up4) os bare
      obtain ⟨o4, v4, e4, z4, d4⟩ := fl4.there
      refine store_ok (X := X.suite a ((a, o4) :: (X.pn ++ pins))) (v := .ref a) (J4.suite e4 d4 free aL aF) hN hi (.inl hl) rfl (fun s5 S5 => ?_) (.inr hl)
      refine wpAny_mono ((su a o4 cls d (X.pn ++ pins) z4 ⟨_, d4⟩).run [] s5 _ Hq _ S5 (hyes rfl a free)) (fun fl s6 hsp => ?_) (fun _ _ z => z.elim)
      have gone : ∀ {σ6 : L2.St} {H6 : Hp} {Q : Shared → Prop}, Inv (X.suite a ((a, o4) :: (X.pn ++ pins))) [] σ6 H6 s6 → (∀ s7, Inv X pins (σ6.set i none) H6 s7 → Q s7) →
          wpAny (model X.prog X.w) X.A (do bindName X.env n .none; unbindBehindTheSuite X.env n pe) (fun _ s7 => Q s7) X.xe s6 := fun {σ6 H6 Q} S6 hq => gone_ok (S6.unsuite ok) hN hi hl hq
      cases fl with
      | ret u =>
        obtain ⟨v6, σ6, H6, S6, r6, q6⟩ := hsp
        exact gone S6 fun s7 J7 => ⟨v6, _, H6, J7, r6, q6⟩
      | next =>
        obtain ⟨σ6, H6, S6, q6⟩ := hsp
        exact gone S6 fun s7 J7 => ⟨_, H6, J7, q6⟩
      | brk =>
        obtain ⟨σ6, H6, S6, q6⟩ := hsp
        exact gone S6 fun s7 J7 => ⟨_, H6, J7, q6⟩
      | cont =>
        obtain ⟨σ6, H6, S6, q6⟩ := hsp
        exact gone S6 fun s7 J7 => ⟨_, H6, J7, q6⟩
theorem ps_tryA (hs : X.stack = X.env :: X.outer) (hf : X.env.frame = some X.env.locals) (tk : Takes X Wout)
    (hb : ∀ (W : WX) (pn : List (Addr × Obj)) (xe : Value → Shared → Prop), Takes (X.tr pn xe) W → PassesOwn (model X.prog X.w) X.A X.env xe → PSs (X.tr pn xe) body (tb W))
    (hh : HdA X (hd0 :: hds) l) : PS X (.Try body (hd0 :: hds) [] [] pos) (fun D σ H => tb (wAny X.K Wout D l) D σ H) := by
  refine ⟨fun pins s σ H D I h => ?_⟩
  have ok := I.ok
  have fr : X.A.frames = some (X.env :: X.outer) := ok.frames.trans (congrArg some hs)
  refine wpAny_Try_except ?_
  have air : Takes (X.tr (X.pn ++ pins) (fun e s₁ => wpAny (model X.prog X.w) X.A (noteFrame e X.env) (fun _ s₂ => wpAny (model X.prog X.w) X.A (setFlight e none) (fun _ s₃ =>
      wpAny (model X.prog X.w) X.A (handleBy e X.env (hd0 :: hds)) (SP X pins D) X.xe s₃) X.xe s₂) X.xe s₁)) (wAny X.K Wout D l) := fun u s' xx => by
    obtain ⟨a, B, sq, pq, σq, Hq, cls, d, rfl, Jq, grd, up, sky, free, os, bare, w⟩ := xx
    have J : Inv X pins σq Hq sq := Jq.ofTry ok
    have sky2 : Sky B (X.env :: X.outer) a (Zc cls d) X.env.locals s'.heap := hs ▸ sky
    show wpAny (model X.prog X.w) X.A (noteFrame (.ref a) X.env) _ _ _
    refine Sky.land Zc.steady fr hf sky2 fun h3 fly up3 => ?_
    exact hd_go (st := { s' with heap := h3 }) ok hs hf tk J grd (up.trans up3) free os bare fly hh w
  refine wpAny_mono ((hb (wAny X.K Wout D l) (X.pn ++ pins) _ air PassesOwn.looking).run [] s σ H D (I.toTry _) h) (fun fl s1 hsp => ?_) (fun e s1 he => he)
  cases fl with
  | ret u =>
    obtain ⟨v, σ', H', J', r, q⟩ := hsp
    exact ⟨v, σ', H', J'.ofTry ok, r, q⟩
  | next =>
    obtain ⟨σ', H', J', q⟩ := hsp
    exact wpAny_execs_nil ⟨σ', H', J'.ofTry ok, q⟩
  | brk =>
    obtain ⟨σ', H', J', q⟩ := hsp
    exact ⟨σ', H', J'.ofTry ok, q⟩
  | cont =>
    obtain ⟨σ', H', J', q⟩ := hsp
    exact ⟨σ', H', J'.ofTry ok, q⟩
end
end RQ

set_option Elab.async false
set_option linter.all false
set_option maxRecDepth 100000
set_option maxHeartbeats 4000000
/-! A token is out: str.replace in a for; list(text); a list's item in an op=; a dict of the top asked. -/
namespace RT
open PySem PySem.Spec PyProof.Rows L2 RC
section
variable {X : Cx} {st : Stmt} {rest body : List Stmt} {t u : TS} {e f : Expr} {te : TE} {pos : Pos}
/-- x = e -/
theorem pst_set {i : Nat} {x : Str} {px : Pos} (hN : X.N.Nodup) (hi : X.N[i]? = some x) (hx : Loc X.env.scope x) (he : PET X e te) (hs : swapsWith e (some (.Name x px)) pos.line X.env = pure false := by rfl)
    (hf : X.fn x = true ∨ X.env.scope.names.lookup x = some .local := by first | exact .inl rfl | exact .inr rfl | assumption) : PST X (.Assign [.Name x px] e pos) (tAsg te (gName i)) := by
  intro pins s σ H D h0 I h
  refine wpAny_Assign_Name (thn (he pins s σ H _ h0 I h) fun v sA ⟨y, HA, IA, rA, qA⟩ => ?_) hs
  exact store_ok IA hN hi hx rA (fun sB IB => ⟨_, HA, IB, qA⟩) hf
/-- x, y = 'a', 'b': a token is out behind it -/
theorem pss_parS {i j k1 k2 : Nat} {x y c d : Str} {px py pt pc pd pu : Pos} {kt kt2} (hc : X.calm = true) (hN : X.N.Nodup) (hi : X.N[i]? = some x) (hj : X.N[j]? = some y) (hij : i ≠ j)
    (hx : X.env.scope.names.lookup x = some .local) (hy : X.env.scope.names.lookup y = some .local) (hr : PSsT X rest u)
    (hw : swappedStores [.Tuple [.Name x px, .Name y py] kt pt] (.Tuple [.Constant (.str c) k1 pc, .Constant (.str d) k2 pd] kt2 pu) X.env = pure (some [x, y]))
    (hs : swapsWithSole [.Tuple [.Name x px, .Name y py] kt pt] (.Tuple [.Constant (.str c) k1 pc, .Constant (.str d) k2 pd] kt2 pu) pos.line X.env = pure false := by rfl) :
    PSs X (.Assign [.Tuple [.Name x px, .Name y py] kt pt] (.Tuple [.Constant (.str c) k1 pc, .Constant (.str d) k2 pd] kt2 pu) pos :: rest) (tSeq (tPar i j (tCons (tC (.str c)) (tCons (tC (.str d)) tNil))) u) := by
  refine ⟨fun pins s σ H D I h => ?_⟩
  have h : u D ((σ.set i (some (.str c))).set j (some (.str d))) H := by
    obtain ⟨v, w, e1, q⟩ := h
    cases e1
    exact q
  refine wpAny_execs_cons ?_
  rw [exec_Assign_arm]
  refine wpAny_bind (wpAny_standAt ?_)
  rw [hs]
  refine wpAny_bind (wpAny_pure ?_)
  rw [if_neg (by decide)]
  refine wpAny_bind (Tuple_ (Calls.spliced_cons (Calls.Constant_str (k := k1) (pos := pc) (Calls.spliced_cons (Calls.Constant_str (k := k2) (pos := pd) (Calls.spliced_nil ?_))))))
  have tA : 1 ≤ ({ s with toks := s.toks + 1 + 1 } : Shared).toks := by show 1 ≤ s.toks + 1 + 1; omega
  have I1 : Inv X pins σ H { s with toks := s.toks + 1 + 1 } := I.tok _
  refine wpAny_newObj_type ?_ (by show 2 ≤ sizeLine; decide)
  generalize hsA : ({ s with toks := s.toks + 1 + 1 } : Shared) = sA at I1 tA ⊢
  have I2 := I1.kept (t' := sA.toks) (h' := sA.heap.push { cls := .type "tuple", data := .seq [Value.str c s.toks, Value.str d (s.toks + 1)].toArray }) fun b o q => Heap.get?_push_of_some _ q
  rw [hw]
  refine wpAny_bind (wpAny_pure ?_)
  show wpAny (model X.prog X.w) X.A (do rule "assign.swapped-stores"; let its ← unpackItems (.ref sA.heap.objs.size) 2 none; assignInOrder [fun v => bindName X.env y v, fun v => bindName X.env x v] its.reverse; pure Flow.next) _ _ _
  refine wpAny_with_toks (n := 1) tA ?_
  refine wpAny_bind (wpAny_rule (wpAny_bind (unpackItems_tuple (items := #[Value.str c s.toks, Value.str d (s.toks + 1)]) (I.ok.hd hc) (IsTup.new sA.heap _) fun hB kB => ?_)))
  have I3 := I2.kept (h' := hB) (t' := sA.toks) fun b o q => kB b o (Nat.ne_of_lt (Heap.lt_size q)) q
  refine wpAny_bind (assignInOrder_cons (wpAny_bindName (store_ok I3 hN hj (.inl hy) (v := .str d) ⟨_, rfl⟩ (fun s2 I4 => ?_) (.inr hy))))
  refine assignInOrder_cons (wpAny_bindName (store_ok I4 hN hi (.inl hx) (v := .str c) ⟨_, rfl⟩ (fun s3 I5 => assignInOrder_nil (wpAny_pure ?_)) (.inr hx)))
  rw [List.set_comm _ _ (Ne.symm hij)] at I5
  intro h1
  exact hr pins s3 _ H D h1 I5 h
/-- x, y = 'a', 'b', a folded pair: a token is out behind it -/
theorem pss_parC {c d : Str} {k1 k2 kt2 : Nat} {pc pd pu : Pos} {tg : Expr} {g : TG} (hg : PG X tg g) (hr : PSsT X rest u)
    (hw : swappedStores [tg] (.Tuple [.Constant (.str c) k1 pc, .Constant (.str d) k2 pd] kt2 pu) X.env = pure none := by rfl)
    (hs : swapsWithSole [tg] (.Tuple [.Constant (.str c) k1 pc, .Constant (.str d) k2 pd] kt2 pu) pos.line X.env = pure false := by rfl)
    (he : (assignEach [tg] X.env).map (·.2) = [assign tg X.env] := by rfl) :
    PSs X (.Assign [tg] (.Tuple [.Constant (.str c) k1 pc, .Constant (.str d) k2 pd] kt2 pu) pos :: rest) (tSeq (tAsg (tTup (tCons (tC (.str c)) (tCons (tC (.str d)) tNil))) g) u) := by
  refine ⟨fun pins s σ H D I h => ?_⟩
  refine wpAny_execs_cons ?_
  refine wpAny_Assign_stores ?_ hs hw
  refine Tuple_ (Calls.spliced_cons (Calls.Constant_str (k := k1) (pos := pc) (Calls.spliced_cons (Calls.Constant_str (k := k2) (pos := pd) (Calls.spliced_nil ?_)))))
  have tA : 1 ≤ ({ s with toks := s.toks + 1 + 1 } : Shared).toks := by show 1 ≤ s.toks + 1 + 1; omega
  have I1 : Inv X pins σ H { s with toks := s.toks + 1 + 1 } := I.tok _
  refine wpAny_newObj_type ?_ (by show 2 ≤ sizeLine; decide)
  generalize hsA : ({ s with toks := s.toks + 1 + 1 } : Shared) = sA at I1 tA ⊢
  have h : 2 ≤ sizeLine ∧ ∀ a, H a = none → g (.ref a) σ (upd H a (.tup [.str c, .str d])) (u D) := h
  have hf : H sA.heap.objs.size = none := I1.hok.fresh (Nat.le_refl _)
  have I2 := I1.laid (t' := sA.toks) (h' := sA.heap.push { cls := .type "tuple", data := .seq [Value.str c s.toks, Value.str d (s.toks + 1)].toArray }) (a := sA.heap.objs.size) (o := .tup [.str c, .str d]) (fun b u e => Heap.get?_push_of_some _ e) (Nat.le_refl _)
    ⟨by show 2 ≤ sizeLine; decide, [Value.str c s.toks, Value.str d (s.toks + 1)], .cons ⟨_, rfl⟩ (.cons ⟨_, rfl⟩ .nil), ⟨_, Heap.get?_push_size _ rfl, rfl, _, rfl⟩⟩
  rw [he]
  refine wpAny_mono (wpAny_toks_of tA (hg.run pins _ σ _ (.ref sA.heap.objs.size) (.ref sA.heap.objs.size) _ I2 rfl (h.2 _ hf))) (fun _ s2 ⟨t2, σ2, H2, I3, q3⟩ => ?_) (fun _ _ z => z.2)
  exact hr pins s2 σ2 H2 D t2 I3 q3
/-- for, the body where a token is out -/
theorem pst_forT {tg iter : Expr} {wi : TI} {g : TG} {tb : TS} (hp : PassesOwn (model X.prog X.w) X.A X.env X.xe) (hc : X.calm = true) (hi : PI X tg iter wi) (hg : PG X tg g) (hb : PSsT X body tb)
    (hs : ∀ x, foldedSetIterable iter X.env x = pure x := by intro _; rfl) : PST X (.For tg iter body [] pos) (tFor wi g tb) := by
  intro pins s σ H D h0 I h
  refine wpAny_For (wpAny_mono (wpAny_toks_of h0 (hi.run pins s σ H _ I h)) (fun v s1 ⟨t1, h1⟩ => wpAny_mono (wpAny_toks_of t1 h1) (fun itv s2 ⟨t2, h2⟩ => ?_) fun _ _ z => z.2) fun _ _ z => z.2) hs
  obtain ⟨it, fp, tn, J, H2, e, I2, T, st2, f2, W, ⟨m0, w0⟩, turn⟩ := h2
  subst e
  have stat : ∀ {HA : Hp}, (∀ b ∈ fp, HA b = none) → ∀ b ∈ fp, FpOk X pins HA b := fun hn b hb => ⟨hn b hb, (f2 b hb).2⟩
  refine codeAny_forLoop_any (fun n sA => 1 ≤ sA.toks ∧ ∃ i σA HA, Inv X pins σA HA sA ∧ tn i sA.heap ∧ (∀ b ∈ fp, HA b = none) ∧ W i n σA HA) ?_ m0 ⟨t2, 0, σ, H2, I2, st2, fun b hb => (f2 b hb).1, w0⟩
  rintro n s3 ⟨t3, i, σ3, H3, I3, st3, fr3, w3⟩
  rcases turn i n σ3 H3 w3 with ⟨stop, qn⟩ | ⟨go, N, hN, step⟩
  · refine wpAny_passesOwn hp (thn (T.done X rfl rfl rfl hc i pins s3 σ3 H3 X.xe I3 (stat fr3) st3 stop) fun r s4 ⟨hr, I4⟩ => ?_)
    subst hr
    exact wpAny_execs_nil ⟨σ3, H3, I4, qn⟩
  · refine wpAny_passesOwn hp (wpAny_mono (wpAny_toks_of t3 (T.item X rfl rfl rfl hc i pins s3 σ3 H3 X.xe I3 (stat fr3) st3 go)) (fun r s4 ⟨t4, u4, hr, h4⟩ => ?_) fun _ _ z => z.2)
    subst hr
    refine wpAny_passesOwn hp (wpAny_mono (wpAny_toks_of t4 h4) (fun _ s5 ⟨t5, x5, H5, I5, r5, y5, st5, fr5⟩ => ?_) fun _ _ z => z.2)
    have IP := I5.pinned (stat fr5) (T.obj _ _ st5)
    refine wpAny_passesOwn hp (wpAny_mono (wpAny_toks_of t5 (hg.run _ s5 σ3 H5 x5 u4 _ IP r5 (step x5 H5 y5))) (fun _ s6 ⟨t6, σ6, H6, I6, q6⟩ => ?_) fun _ _ z => z.2)
    refine wpAny_passesOwn hp (wpAny_mono (wpAny_toks_of t6 (hb _ s6 σ6 H6 _ t6 I6 q6)) (fun fl s7 ⟨t7, q7⟩ => ?_) fun _ _ z => z.2)
    have again : ∀ {σ7 : L2.St} {H7 : Hp}, Inv X (pins ++ pinsAt fp s5.heap) σ7 H7 s7 → N σ7 H7 → ∃ m, m < n ∧ 1 ≤ s7.toks ∧ ∃ i σA HA, Inv X pins σA HA s7 ∧ tn i s7.heap ∧ (∀ b ∈ fp, HA b = none) ∧ W i m σA HA := fun {σ7 H7} I7 n7 => by
      obtain ⟨m7, lt7, w7⟩ := hN σ7 H7 n7
      refine ⟨m7, lt7, t7, i + 1, σ7, H7, I7.unpinned, T.keep _ _ _ st5 fun b hb o eb => (I7.pin (b, o) (List.mem_append_right _ (List.mem_append_right _ (mem_pinsAt hb eb)))).1, fun b hb => ?_, w7⟩
      obtain ⟨o, eb, _⟩ := T.obj _ _ st5 b hb
      exact (I7.pin (b, o) (List.mem_append_right _ (List.mem_append_right _ (mem_pinsAt hb eb)))).2.1
    cases fl with
    | ret v =>
      obtain ⟨x7, σ7, H7, I7, r7, q8⟩ := q7
      exact ⟨x7, σ7, H7, I7.unpinned, r7, q8⟩
    | next =>
      obtain ⟨σ7, H7, I7, n7⟩ := q7
      exact again I7 n7
    | cont =>
      obtain ⟨σ7, H7, I7, n7⟩ := q7
      exact again I7 n7
    | brk =>
      obtain ⟨σ7, H7, I7, q8⟩ := q7
      exact ⟨σ7, H7, I7.unpinned, q8⟩
end
section
variable {X : Cx}
/-- z not in D, D a dict of the top, z a text -/
theorem op_notInKD {D : Addr} {kvs : List (Key × V)} (k : RB.KD X.prog X.w X.K D kvs) : OpR X (compareOp .NotIn) (fun x y H Q => ∃ z : Str, x = .str z ∧ y = .ref D ∧ Q (.bl (!(valV kvs (Sum.inr z)).isSome)) H) := by
  intro pins s σ H x y v u Q I rx ry h
  obtain ⟨z, rfl, rfl, q⟩ := h
  cases ry
  obtain ⟨vs, rel, dd⟩ := k.at_
  refine wpAny_notIn_of (kV_is (k := Sum.inr z) rx) k.low (dd _ I.kIn).mapOf ?_
  rw [← (rel.val (Sum.inr z)).isSome_eq]
  exact ⟨.bl _, H, I.tok _, rfl, q⟩
theorem op_inKD {D : Addr} {kvs : List (Key × V)} (k : RB.KD X.prog X.w X.K D kvs) : OpR X (compareOp .In) (fun x y H Q => ∃ z : Str, x = .str z ∧ y = .ref D ∧ Q (.bl (valV kvs (Sum.inr z)).isSome) H) := by
  intro pins s σ H x y v u Q I rx ry h
  obtain ⟨z, rfl, rfl, q⟩ := h
  cases ry
  obtain ⟨vs, rel, dd⟩ := k.at_
  refine wpAny_in_of (kV_is (k := Sum.inr z) rx) k.low (dd _ I.kIn).mapOf ?_
  rw [← (rel.val (Sum.inr z)).isSome_eq]
  exact ⟨.bl _, H, I.tok _, rfl, q⟩
/-- list(text) -/
theorem call_listS (hc : X.calm = true) : CallR X (.type "list") (fun xs H Q => ∃ z : Str, xs = [.str z] ∧ z.length ≤ 1000000 ∧ ∀ p, H p = none → Q (.ref p) (upd H p (.lst (z.cps.toList.map fun c => .str ⟨#[c]⟩)))) := by
  intro pins s σ H xs us Q I r q
  obtain ⟨z, ez, hz, q⟩ := q
  subst ez
  obtain ⟨u, eu, rx⟩ := vals1 r
  subst eu
  obtain ⟨t, et⟩ := rx
  subst et
  have z1 : z.cps.size ≤ sizeLine := by rw [sizeLine_eq]; exact Nat.le_trans hz (by decide)
  refine call_list_str (I.ok.hd hc) z t (fun h' tk acc c keep new items => ?_) z1
  have rel : Vals (z.cps.toList.map fun c => V.str ⟨#[c]⟩) acc.toList := by
    obtain ⟨hsz, hat⟩ := items
    refine vals_of_at (by rw [List.length_map, Array.length_toList, Array.length_toList]; exact hsz.symm) fun i v u hv hu => ?_
    rw [List.getElem?_map] at hv
    obtain ⟨c', hc', rfl⟩ := Option.map_eq_some_iff.mp hv
    obtain ⟨c2, u2, hc2, rfl⟩ := hat i u (by rw [← Array.getElem?_toList]; exact hu)
    rw [← Array.getElem?_toList, hc'] at hc2
    cases hc2
    exact ⟨u2, rfl⟩
  refine ⟨.ref s.heap.objs.size, _, I.laid (t' := tk) (o := .lst (z.cps.toList.map fun c => .str ⟨#[c]⟩)) keep (Nat.le_refl _) ?_, rfl, q _ (I.hok.fresh (Nat.le_refl _))⟩
  exact ⟨by rw [List.length_map, Array.length_toList]; exact z1, acc.toList, c, rel, by rw [Array.toArray_toList]; exact new⟩
/-- l[i], by values -/
theorem get_list : PGet X (rIxL X.K) := by
  intro pins s σ H o i ov iv Q I ro ri h
  obtain ⟨p, xs, n, z, rfl, rfl, hq, he, q⟩ := h
  cases ro
  obtain ⟨t, rfl⟩ := ri
  obtain ⟨its, r, pl, hz⟩ := I.list hq
  obtain ⟨j, h1, h2, h3, h4, h5⟩ := atI_get he
  obtain ⟨w, ew, rw'⟩ := r.get h2
  have hl := r.length
  have hn := line63
  by_cases h0 : 0 ≤ n
  · have hj : n.toNat = j := by
      rw [seqIndex_of h0 h5] at h1
      exact Option.some.inj h1
    exact wpAny_getItem_list pl.isList h0 (by omega) (by rw [hj]; simpa using ew) ⟨z, H, I, rw', q⟩
  · have hj : (n + (its.toArray.size : Int)).toNat = j := by
      rw [seqIndex_neg (by omega) h4] at h1
      rw [List.size_toArray, ← hl]
      exact Option.some.inj h1
    exact wpAny_getItem_list_neg pl.isList (by omega) (by rw [List.size_toArray] <;> omega) (by omega) (by rw [hj]; simpa using ew) ⟨z, H, I, rw', q⟩
end
section
variable {P : Program} {w : World} {K : PySem.W.Frag} {mg : Str → Option Value} {base : Heap} {x qual : Str} {f : Addr} {k : Nat} {N ps : List Str} {sp : Sp}
/-- a def with parameters and no cells: a token is out when its body begins -/
theorem call0T {st : Stmt} (F : Stands K x qual st [] f) (S : FnScope N ps (defScope st)) (hnc : ∀ y ∈ (defScope st).names, y.2 ≠ .cell) (hps : 1 ≤ ps.length) (len : ∀ vs H Q E, sp vs H Q E → vs.length = ps.length)
    (hbody : ∀ (cdv : Value) (A : Around) (outer : List Env) (s : Shared) (H : Hp) (vs : List V) (Q : VK) (E : XK), Room k (A.deeper (envOfC qual (defScope st) s.heap.objs.size f cdv)) → sp vs H Q E →
      ∃ t, PSsT (cxOf CX0 P w K mg base N qual (defScope st) f cdv A outer s H E) (defBody st) t ∧ t { nx := fun _ H' => Q .non H', rt := Q } (L2.start N vs) H)
    (h0 : ∀ (kV doc pm : Value) (an : Option Addr) (cdv ct : Value) (us : List Value), us.length = ps.length → bindArgs (PySem.W.fnOf x qual (defArgs st) (defBody st) (defScope st) .none kV doc pm an cdv ct) ⟨us, []⟩ = pure (ps.zip us)) :
    Callable P w K mg base (k + 1) f ps [] sp := by
  obtain ⟨fd, F⟩ := F
  have ok : FnOk P w K mg base CX0 (k + 1) f fd ps sp := by
    obtain ⟨oc, od, dV, kV, doc, pm, an, cdv, ct, osl, rfl, lk, hcd, _, _⟩ := F.ex
    exact fn_ofT lk hcd S hnc hps len fun A outer s H vs Q E hr hsp => hbody cdv A outer s H vs Q E hr hsp
  exact ⟨fd, [], ok, .nil, F.bindsN h0, F.kp⟩
end
end RT

set_option Elab.async false
set_option linter.all false
set_option maxRecDepth 100000
/-! str.replace of a dollar by two, over lists of signs. -/
namespace RU
open PySem PySem.Spec PyProof.Rows L2 SeqAt
theorem rep_esc (t : List Nat) : Txt.replace ⟨t.toArray⟩ (Str.ofString "$") (Str.ofString "$$") = ⟨(RP.esc t).toArray⟩ := by
  have e := PySem.StrLaws.replace_list (x := ⟨t.toArray⟩) (y := Str.ofString "$") (z := Str.ofString "$$") (by decide +kernel)
  have e1 : (Str.ofString "$").cps.toList = [36] := by decide +kernel
  have e2 : (Str.ofString "$$").cps.toList = [36, 36] := by decide +kernel
  rw [e1, e2] at e
  have e3 : ∀ l : List Nat, PySem.StrLaws.replL [36] [36, 36] l = RP.esc l := fun l => by
    induction l with
    | nil => exact PySem.StrLaws.replL_nil
    | cons c r ih =>
      unfold RP.esc
      by_cases h : c = 36
      · subst h
        rw [if_pos rfl, PySem.StrLaws.replL_hit (by decide) rfl]
        show 36 :: 36 :: PySem.StrLaws.replL [36] [36, 36] r = _
        rw [ih]
      · rw [if_neg h, PySem.StrLaws.replL_miss (y := [36]) (fun z => h (List.cons.inj (show [c] = [36] from z)).1), ih]
  have e4 : (Txt.replace (⟨t.toArray⟩) (Str.ofString "$") (Str.ofString "$$")).cps.toList = RP.esc t := e.trans (e3 t)
  rw [← e4]
def rNeVT (K : PySem.W.Frag) : R2 := fun x y H Q => ∃ (a b : Addr) (xs : List V), x = .ref a ∧ y = .ref b ∧ SqT K H a xs ∧ SqT K H b xs ∧ xs.all RY.flatW = true ∧ Q (.bl false) H
/-- two tuples of the same flat items -/
theorem op_neVT {X : Cx} (hu : X.A.units < cLine) : OpR X (compareOp .NotEq) (rNeVT X.K) := by
  intro pins s σ H x y v u Q I rx ry h
  obtain ⟨a, b, xs, rfl, rfl, ta, tb, hf, q⟩ := h
  obtain rfl : v = Value.ref a := rx
  obtain rfl : u = Value.ref b := ry
  obtain ⟨i1, r1, p1, _⟩ := I.tuple ta
  obtain ⟨i2, r2, p2, _⟩ := I.tuple tb
  obtain ⟨el, ee⟩ := RY.eq_all (A := X.A.in1) (s := s) r1 r2 hf
  have es : (i1.toArray.size == i2.toArray.size) = true := by simp [el]
  refine RcNeAt.tuples (e := fun _ => true) p1 p2 hu (fun j h1 h2 => by simpa using ee j (by simpa using h1) (by simpa using h2)) X.prog X.w X.xe _ ?_
  rw [RY.all_tt, es]
  exact fin_bl I q rfl
end RU

set_option Elab.async false
set_option linter.all false
set_option maxRecDepth 100000
set_option maxHeartbeats 4000000
/-! The number of a width. -/
namespace RV
open RP (digits digB)
theorem one : ∀ a ∈ digits, (PySem.intText? ⟨#[a]⟩).isSome = true := by decide +kernel
theorem two : ∀ a ∈ digits, ∀ b ∈ digits, (PySem.intText? ⟨#[a, b]⟩).isSome = true := by decide +kernel
theorem width_int : ∀ {l : List Nat}, RO.wdB l = true → ∃ n, PySem.intText? ⟨l.toArray⟩ = some n
  | [], h => by cases h
  | [a], h => by
    obtain ⟨_, h2⟩ := Bool.and_eq_true_iff.mp h
    have h3 := List.all_eq_true.mp (Bool.and_eq_true_iff.mp h2).2
    exact Option.isSome_iff_exists.mp (one a (of_decide_eq_true (h3 a List.mem_cons_self)))
  | [a, b], h => by
    obtain ⟨_, h2⟩ := Bool.and_eq_true_iff.mp h
    have h3 := List.all_eq_true.mp (Bool.and_eq_true_iff.mp h2).2
    exact Option.isSome_iff_exists.mp (two a (of_decide_eq_true (h3 a List.mem_cons_self)) b (of_decide_eq_true (h3 b (List.mem_cons_of_mem _ List.mem_cons_self))))
  | _ :: _ :: _ :: r, h => by
    obtain ⟨h1, _⟩ := Bool.and_eq_true_iff.mp h
    have h3 := of_decide_eq_true (Bool.and_eq_true_iff.mp h1).2
    simp only [List.length_cons] at h3
    omega
end RV

set_option Elab.async false
set_option linter.all false
set_option maxRecDepth 100000
set_option maxHeartbeats 4000000
/-! Formats in braces: what is drawn and written, over lists of signs. -/
namespace RJ
open RO
open RP (S)
def spcB (fl al w : S) : S := (if fl = [32] then [] else fl) ++ al ++ w
def bodyB (k sg fl al w : S) : S := k ++ (if sg = [] then [] else 33 :: sg) ++ (if spcB fl al w = [] then [] else 58 :: spcB fl al w)
def keysS : List S := [[97], [109, 101, 115, 115, 97, 103, 101], [95, 57]]
def signsS : List S := [[], [114], [115]]
def alignsS : List S := [[60], [62], [94]]
def fillsS : List S := [[42], [60], [62], [94], [58], [33], [48], [53], [36], [120], [10], [39]]
def faS : List (S × S) := ([32], []) :: (([32] :: fillsS).map fun f => alignsS.map fun a => (f, a)).flatten
def widS : List (Int × S) := [(0, []), (1, [49]), (5, [53]), (9, [57]), (10, [49, 48]), (12, [49, 50]), (30, [51, 48]), (99, [57, 57])]
theorem all_ok : (keysS.all fun k => signsS.all fun g => faS.all fun p => widS.all fun w => (fieldB (bodyB k g p.1 p.2 w.2)).isSome && decide ((bodyB k g p.1 p.2 w.2).length ≤ 16)) = true := by decide +kernel
theorem body_ok {k g f a ws : S} {w : Int} (h1 : k ∈ keysS) (h2 : g ∈ signsS) (h3 : (f, a) ∈ faS) (h4 : (w, ws) ∈ widS) : (∃ d, fieldB (bodyB k g f a ws) = some d) ∧ (bodyB k g f a ws).length ≤ 16 := by
  have h := List.all_eq_true.mp (List.all_eq_true.mp (List.all_eq_true.mp (List.all_eq_true.mp all_ok k h1) g h2) (f, a) h3) (w, ws) h4
  obtain ⟨z1, z2⟩ := Bool.and_eq_true_iff.mp h
  exact ⟨Option.isSome_iff_exists.mp z1, of_decide_eq_true z2⟩
/-- a written part -/
def PcOk (p : S) : Prop := (∃ fs, Pc p fs) ∧ p.length ≤ 20
theorem field_ok {k g f a ws : S} {w : Int} (h1 : k ∈ keysS) (h2 : g ∈ signsS) (h3 : (f, a) ∈ faS) (h4 : (w, ws) ∈ widS) : PcOk (123 :: (bodyB k g f a ws ++ [125])) := by
  obtain ⟨⟨d, hd⟩, hl⟩ := body_ok h1 h2 h3 h4
  exact ⟨⟨_, Pc.field hd⟩, by rw [List.length_cons, List.length_append, List.length_singleton]; omega⟩
theorem escB_len : ∀ t : S, (escB t).length ≤ 2 * t.length
  | [] => Nat.le_refl _
  | c :: t => by
    have := escB_len t
    unfold escB
    split
    · rw [List.length_cons, List.length_cons, List.length_cons]; omega
    · rw [List.length_cons, List.length_cons]; omega
theorem text_ok {t : S} (h : t.length ≤ 4) : PcOk (escB t) := ⟨⟨_, Pc.text t⟩, Nat.le_trans (escB_len t) (by omega)⟩
theorem pc_flat : ∀ ps : List S, (∀ p ∈ ps, PcOk p) → (∃ fs, Pc ps.flatten fs) ∧ ps.flatten.length ≤ 20 * ps.length
  | [], _ => ⟨⟨_, Pc.nil⟩, Nat.zero_le _⟩
  | p :: r, h => by
    obtain ⟨⟨f1, h1⟩, l1⟩ := h p List.mem_cons_self
    obtain ⟨⟨f2, h2⟩, l2⟩ := pc_flat r fun q hq => h q (List.mem_cons_of_mem _ hq)
    refine ⟨⟨f1 ++ f2, ?_⟩, ?_⟩
    · rw [List.flatten_cons]; exact h1.app h2
    · rw [List.flatten_cons, List.length_append, List.length_cons]; omega
theorem pc_even {p : S} {fs : List Pt} (h : Pc p fs) : cnt p % 2 = 0 := even h.right (fun z => nomatch z)
/-- one brace between two right pieces -/
theorem brace_none {a b : S} {fa fb : List Pt} {c : Nat} (ha : Pc a fa) (hb : Pc b fb) (hc : c = 123 ∨ c = 125) : PB (a ++ (c :: b)) none := by
  refine odd_none ?_
  have e : cnt (a ++ (c :: b)) = cnt a + (1 + cnt b) := by
    rw [cnt_app, show c :: b = [c] ++ b from rfl, cnt_app]
    rcases hc with rfl | rfl <;> rfl
  have h1 := pc_even ha
  have h2 := pc_even hb
  rw [e]; omega
/-- one brace anywhere in a right format -/
theorem spot_none {r : S} {fs : List Pt} (h : Pc r fs) (k : Nat) {c : Nat} (hc : c = 123 ∨ c = 125) : PB (r.take k ++ (c :: r.drop k)) none := by
  refine odd_none ?_
  have e : cnt (r.take k ++ (c :: r.drop k)) = cnt (r.take k) + (1 + cnt (r.drop k)) := by
    rw [cnt_app, show c :: r.drop k = [c] ++ r.drop k from rfl, cnt_app]
    rcases hc with rfl | rfl <;> rfl
  have e2 : cnt r = cnt (r.take k) + cnt (r.drop k) := by
    conv => lhs; rw [← List.take_append_drop k r]
    rw [cnt_app]
  have h1 := pc_even h
  rw [e]; omega
/-- what is no part, wherever it stands: a field that is none, or one brace -/
def wrongB (p : S) : Bool :=
  match p with
  | 123 :: r => (decide (125 ∈ r) && decide (fieldB (r.takeWhile fun c => decide (c ≠ 125)) = none) && decide ((r.takeWhile fun c => decide (c ≠ 125)).head? ≠ some 123)) || decide (r = [])
  | c :: r => decide (c = 125) && decide (r = [])
  | [] => false
theorem take_split : ∀ r : S, 125 ∈ r → ∃ t, r = (r.takeWhile fun c => decide (c ≠ 125)) ++ 125 :: t ∧ 125 ∉ (r.takeWhile fun c => decide (c ≠ 125))
  | [], h => nomatch h
  | c :: r, h => by
    by_cases e : c = 125
    · subst e
      exact ⟨r, rfl, fun h => nomatch h⟩
    · rcases List.mem_cons.mp h with h | h
      · exact absurd h.symm e
      · obtain ⟨t, h1, h2⟩ := take_split r h
        have et : ((c :: r).takeWhile fun c => decide (c ≠ 125)) = c :: (r.takeWhile fun c => decide (c ≠ 125)) := by
          rw [List.takeWhile_cons, if_pos (decide_eq_true e)]
        rw [et]
        refine ⟨t, by rw [List.cons_append, ← h1], fun h => ?_⟩
        rcases List.mem_cons.mp h with h | h
        · exact e h.symm
        · exact h2 h
theorem wrong_none {a b p : S} {fa fb : List Pt} (ha : Pc a fa) (hb : Pc b fb) (h : wrongB p = true) : PB (a ++ (p ++ b)) none := by
  unfold wrongB at h
  split at h
  · rename_i r
    rcases Bool.or_eq_true_iff.mp h with h | h
    · obtain ⟨h12, h3⟩ := Bool.and_eq_true_iff.mp h
      obtain ⟨h1, h2⟩ := Bool.and_eq_true_iff.mp h12
      obtain ⟨t, e1, e2⟩ := take_split r (of_decide_eq_true h1)
      refine ha.wrong ?_
      have e3 : (123 :: r) ++ b = 123 :: ((r.takeWhile fun c => decide (c ≠ 125)) ++ 125 :: (t ++ b)) := by
        conv => lhs; rw [e1]
        simp
      rw [e3]
      exact field_bad (of_decide_eq_true h2) e2 (of_decide_eq_true h3) _
    · rw [of_decide_eq_true h]
      exact brace_none ha hb (.inl rfl)
  · rename_i c r _
    obtain ⟨h1, h2⟩ := Bool.and_eq_true_iff.mp h
    rw [of_decide_eq_true h1, of_decide_eq_true h2]
    exact brace_none ha hb (.inr rfl)
  · cases h
/-- an end that breaks -/
theorem end_none {a p : S} {fa : List Pt} (ha : Pc a fa) (h : cnt p % 2 = 1 ∨ p = [123, 125]) : PB (a ++ p) none := by
  rcases h with h | rfl
  · refine odd_none ?_
    have h1 := pc_even ha
    rw [cnt_app]; omega
  · refine ha.wrong ?_
    exact field_bad (b := []) rfl (fun z => nomatch z) (fun z => nomatch z) []
theorem rep_escB (t : S) : PySem.Txt.replace (PySem.Txt.replace ⟨t.toArray⟩ (PySem.Str.ofString "{") (PySem.Str.ofString "{{")) (PySem.Str.ofString "}") (PySem.Str.ofString "}}") = ⟨(escB t).toArray⟩ := by
  have e := PySem.StrLaws.replace_list (x := ⟨t.toArray⟩) (y := PySem.Str.ofString "{") (z := PySem.Str.ofString "{{") (by decide +kernel)
  have e2 := PySem.StrLaws.replace_list (x := PySem.Txt.replace ⟨t.toArray⟩ (PySem.Str.ofString "{") (PySem.Str.ofString "{{")) (y := PySem.Str.ofString "}") (z := PySem.Str.ofString "}}") (by decide +kernel)
  have a1 : (PySem.Str.ofString "{").cps.toList = [123] := by decide +kernel
  have a2 : (PySem.Str.ofString "{{").cps.toList = [123, 123] := by decide +kernel
  have a3 : (PySem.Str.ofString "}").cps.toList = [125] := by decide +kernel
  have a4 : (PySem.Str.ofString "}}").cps.toList = [125, 125] := by decide +kernel
  rw [a1, a2] at e
  rw [a3, a4, e] at e2
  have miss : ∀ (y z : S) (c d : Nat) (r : S), y = [d] → c ≠ d → PySem.StrLaws.replL y z (c :: r) = c :: PySem.StrLaws.replL y z r := fun y z c d r hy h => by
    subst hy
    exact PySem.StrLaws.replL_miss (y := [d]) (fun w => h (List.cons.inj (show [c] = [d] from w)).1)
  have e3 : ∀ l : S, PySem.StrLaws.replL [125] [125, 125] (PySem.StrLaws.replL [123] [123, 123] l) = escB l := fun l => by
    induction l with
    | nil => rw [PySem.StrLaws.replL_nil, PySem.StrLaws.replL_nil]; rfl
    | cons c r ih =>
      unfold escB
      by_cases h : c = 123
      · subst h
        rw [if_pos (.inl rfl), PySem.StrLaws.replL_hit (by decide) rfl]
        show PySem.StrLaws.replL [125] [125, 125] (123 :: 123 :: PySem.StrLaws.replL [123] [123, 123] r) = _
        rw [miss [125] _ 123 125 _ rfl (by decide), miss [125] _ 123 125 _ rfl (by decide), ih]
      · rw [miss [123] _ c 123 _ rfl h]
        by_cases h2 : c = 125
        · subst h2
          rw [if_pos (.inr rfl), PySem.StrLaws.replL_hit (by decide) rfl]
          show 125 :: 125 :: PySem.StrLaws.replL [125] [125, 125] (PySem.StrLaws.replL [123] [123, 123] r) = _
          rw [ih]
        · rw [if_neg (fun z => z.elim h h2), miss [125] _ c 125 _ rfl h2, ih]
  rw [e3] at e2
  rw [← e2]
end RJ

set_option Elab.async false
set_option linter.all false
set_option maxRecDepth 100000
set_option maxHeartbeats 0
set_option pp.maxSteps 1000
local macro_rules | `(tactic| walk_at "cls") => `(tactic| first
  | with_reducible exact K17.Txt.c_Field (by assumption)
  | with_reducible exact K17.Txt.c_Formatter (by assumption))
local macro_rules | `(tactic| walk_at "noat") => `(tactic| first
  | with_reducible exact K17.Txt.n_Field_name (by assumption)
  | with_reducible exact K17.Txt.n_Field_conversion (by assumption)
  | with_reducible exact K17.Txt.n_Field_fill (by assumption)
  | with_reducible exact K17.Txt.n_Field_align (by assumption)
  | with_reducible exact K17.Txt.n_Field_width (by assumption)
  | with_reducible exact K17.Txt.n_Formatter_fmt (by assumption)
  | with_reducible exact K17.Txt.n_Formatter_style (by assumption)
  | with_reducible exact K17.Txt.n_Formatter_parts (by assumption)
  | with_reducible exact K17.Txt.n_Formatter_defaults (by assumption))
local macro_rules | `(tactic| walk_at "hp") => `(tactic| first
  | with_reducible assumption
  | with_reducible exact L2.upd_same
  | ((with_reducible apply RW.at_upd); (focus (walk_at "ne"; done)); (focus (walk_at "hp"; done)))
  | ((with_reducible apply RW.at_same); (focus (with_reducible assumption; done)); (focus (walk_at "hp"; done)))
  | ((with_reducible apply RW.at_old); (focus (with_reducible assumption; done)); (focus (walk_at "ne"; done)); (focus (walk_at "ne"; done)); (focus (walk_at "hp"; done))))
local macro_rules | `(tactic| walk_at "ne") => `(tactic| first
  | with_reducible assumption
  | with_reducible exact Ne.symm (by with_reducible assumption)
  | with_reducible exact RW.ne_upd (by with_reducible assumption)
  | with_reducible exact Ne.symm (RW.ne_upd (by with_reducible assumption))
  | ((with_reducible apply RW.ne_new); (focus (with_reducible assumption; done)); (focus (walk_at "hp"; done)))
  | ((with_reducible apply RW.ne_new'); (focus (with_reducible assumption; done)); (focus (walk_at "hp"; done)))
  | ((with_reducible apply RW.ne_kind); (focus (walk_at "hp"; done)); (focus (walk_at "hp"; done)); (exact fun z => nomatch z)))
local macro_rules | `(tactic| walk_at "no") => `(tactic| first
  | with_reducible assumption
  | ((with_reducible apply RW.no_upd); (focus (walk_at "ne"; done)); (focus (walk_at "no"; done)))
  | ((with_reducible apply RW.free_same); (focus (with_reducible assumption; done)); (focus (with_reducible assumption; done))))
local macro_rules | `(tactic| walk_at "sm") => `(tactic| first
  | with_reducible assumption
  | with_reducible exact L2.Same.refl _
  | ((with_reducible apply RW.same_put_new); (focus (walk_at "sm"; done)); (focus (walk_at "no"; done)))
  | ((with_reducible apply RW.same_put); (focus (walk_at "sm"; done)); (focus (walk_at "no"; done)))
  | ((with_reducible apply RW.same_then); (focus (with_reducible assumption; done)); (focus (walk_at "sm"; done))))
local macro_rules | `(tactic| walk_at "sq") => `(tactic| first
  | with_reducible assumption
  | ((with_reducible apply L2.SqL.of); (focus (walk_at "hp"; done)))
  | ((with_reducible apply L2.SqT.of); (focus (walk_at "hp"; done)))
  | ((with_reducible apply RW.sql_same); (focus (with_reducible assumption; done)); (focus (walk_at "sm"; done)))
  | ((with_reducible apply RW.sqt_same); (focus (with_reducible assumption; done)); (focus (walk_at "sm"; done))))
local macro_rules | `(tactic| walk_at "pr") => `(tactic| first
  | with_reducible exact PySem.Paired.nil
  | ((with_reducible apply PySem.Paired.cons); (focus (first | exact L2.ClsV.ty _ | exact L2.ClsV.own _; done)); (focus (walk_at "pr"; done))))
local macro_rules | `(tactic| walk_at "stm") => `(tactic| first
  | with_reducible assumption
  | ((with_reducible apply RW.stm_upd); (focus (walk_at "ne"; done)); (focus (walk_at "ne"; done)); (focus (walk_at "stm"; done)))
  | ((with_reducible apply RW.stm_same); (focus (with_reducible assumption; done)); (focus (walk_at "sm"; done))))
local macro_rules | `(tactic| walk_at "od") => `(tactic| first
  | with_reducible assumption
  | with_reducible exact RC.Old.refl _
  | ((with_reducible apply RW.old_upd); (focus (walk_at "od"; done)); (focus (walk_at "no"; done)))
  | ((with_reducible apply RW.old_then); (focus (with_reducible assumption; done)); (focus (walk_at "od"; done)))
  | ((with_reducible apply RW.old_same); (focus (walk_at "od"; done)); (focus (with_reducible assumption; done))))
local macro_rules | `(tactic| walk_at "num") => `(tactic| first
  | exact Nat.le_of_ble_eq_true rfl
  | omega
  | (simp only [List.length_cons, List.length_nil, List.length_append, List.length_map, List.length_replicate, List.length_take, PySem.sizeLine_eq]; omega))
local macro_rules | `(tactic| walk_at "ki") => `(tactic| first
  | with_reducible exact RW.k_int_int
  | with_reducible exact RW.k_bool_int
  | with_reducible exact RW.k_str_int
  | with_reducible exact RW.k_NoneType_int
  | with_reducible exact RW.k_list_int
  | with_reducible exact RW.k_tuple_int
  | with_reducible exact RW.k_dict_int)
local macro_rules | `(tactic| walk_at "kb") => `(tactic| first
  | with_reducible exact RW.k_int_bool
  | with_reducible exact RW.k_bool_bool
  | with_reducible exact RW.k_str_bool
  | with_reducible exact RW.k_NoneType_bool
  | with_reducible exact RW.k_list_bool
  | with_reducible exact RW.k_tuple_bool
  | with_reducible exact RW.k_dict_bool)
local macro_rules | `(tactic| walk_at "ks") => `(tactic| first
  | with_reducible exact RW.k_int_str
  | with_reducible exact RW.k_bool_str
  | with_reducible exact RW.k_str_str
  | with_reducible exact RW.k_NoneType_str
  | with_reducible exact RW.k_list_str
  | with_reducible exact RW.k_tuple_str
  | with_reducible exact RW.k_dict_str)
local macro_rules | `(tactic| walk_at "kl") => `(tactic| first
  | with_reducible exact RW.k_int_list
  | with_reducible exact RW.k_bool_list
  | with_reducible exact RW.k_str_list
  | with_reducible exact RW.k_NoneType_list
  | with_reducible exact RW.k_list_list
  | with_reducible exact RW.k_tuple_list
  | with_reducible exact RW.k_dict_list)
local macro_rules | `(tactic| walk_at "kt") => `(tactic| first
  | with_reducible exact RW.k_int_tuple
  | with_reducible exact RW.k_bool_tuple
  | with_reducible exact RW.k_str_tuple
  | with_reducible exact RW.k_NoneType_tuple
  | with_reducible exact RW.k_list_tuple
  | with_reducible exact RW.k_tuple_tuple
  | with_reducible exact RW.k_dict_tuple)
local macro_rules | `(tactic| walk_at "kd") => `(tactic| first
  | with_reducible exact RW.k_int_dict
  | with_reducible exact RW.k_bool_dict
  | with_reducible exact RW.k_str_dict
  | with_reducible exact RW.k_NoneType_dict
  | with_reducible exact RW.k_list_dict
  | with_reducible exact RW.k_tuple_dict
  | with_reducible exact RW.k_dict_dict)
local macro_rules | `(tactic| walk_at "kit") => `(tactic| first
  | ((with_reducible apply RW.gKb); walk_at "kb")
  | ((with_reducible apply RW.gKi); walk_at "ki")
  | ((with_reducible apply RW.gKl); walk_at "kl")
  | ((with_reducible apply RW.gKs); walk_at "ks")
  | ((with_reducible apply RW.gKt); walk_at "kt")
  | ((with_reducible apply RW.gKd); walk_at "kd"))
local macro_rules | `(tactic| walk_at "kita") => `(tactic| first
  | ((with_reducible apply RW.ka2) <;> walk_at "kit")
  | ((with_reducible apply RW.ka3) <;> walk_at "kit")
  | ((with_reducible apply RW.ka4) <;> walk_at "kit")
  | ((with_reducible apply RW.ka5) <;> walk_at "kit"))
local macro_rules | `(tactic| walk_at "ty") => `(tactic| first
  | with_reducible exact L2.TyX.base (.int _)
  | with_reducible exact L2.TyX.base (.str _)
  | with_reducible exact L2.TyX.base (.bl _)
  | with_reducible exact L2.TyX.base .non
  | ((with_reducible apply L2.TyX.base); (with_reducible apply L2.TyOf.lst); (focus (walk_at "hp"; done)))
  | ((with_reducible apply L2.TyX.base); (with_reducible apply L2.TyOf.tup); (focus (walk_at "hp"; done)))
  | ((with_reducible apply L2.TyX.base); (with_reducible apply L2.TyOf.dK); (focus (walk_at "hp"; done)))
  | ((with_reducible apply RC.tyx_lst); (focus (walk_at "sq"; done)))
  | ((with_reducible apply RC.tyx_tup); (focus (walk_at "sq"; done))))
local macro_rules | `(tactic| walk_at "val") => `(tactic| first
  | with_reducible assumption
  | rfl)
local macro_rules | `(tactic| walk_at "dg") => `(tactic| first
  | (apply RW.dget_s; (focus (walk_at "hp"; done)); (focus (walk_at "val"; done)))
  | (apply RW.dget_i; (focus (walk_at "hp"; done)); (focus (walk_at "val"; done)))
  | (apply RW.dget_sF; (focus (walk_at "hp"; done)); (focus (walk_at "val"; done)))
  | (apply RW.dget_sR; (focus (assumption; done)); (focus (walk_at "val"; done)))
  | (apply RW.dput_s; (focus (walk_at "hp"; done)); (focus (walk_at "num"; done)))
  | (apply RW.dput_i; (focus (walk_at "hp"; done)); (focus (walk_at "num"; done)))
  | ((with_reducible apply RW.tyv_l); (focus (walk_at "hp"; done)))
  | ((with_reducible apply RW.tyv_s); (focus (walk_at "sq"; done)))
  | (apply RW.isd; (focus (walk_at "hp"; done)))
  | (apply RW.rd_of; (focus (walk_at "hp"; done)))
  | (apply RW.sql_of; (focus (walk_at "hp"; done)))
  | (apply RW.sqt_of; (focus (walk_at "hp"; done)))
  | (apply RW.len_l; (focus (walk_at "hp"; done)))
  | (apply RW.len_sl; (focus (walk_at "sq"; done)))
  | (apply RW.len_st; (focus (walk_at "sq"; done))))
local macro_rules | `(tactic| walk_at "side") => `(tactic| first
  | with_reducible rfl
  | ((with_reducible apply RW.gHp); walk_at "hp")
  | ((with_reducible apply RW.gSm); walk_at "sm")
  | ((with_reducible apply RW.gNe); walk_at "ne")
  | ((with_reducible apply RW.gStm); walk_at "stm")
  | ((with_reducible apply RW.gOld); walk_at "od")
  | ((with_reducible apply RW.gNo); walk_at "noat")
  | ((with_reducible apply RW.gCls); walk_at "cls")
  | ((with_reducible apply RW.gCv); (first | with_reducible exact L2.ClsV.ty _ | with_reducible exact L2.ClsV.own _))
  | ((with_reducible apply RW.gTy); walk_at "ty")
  | ((with_reducible apply RW.gKit); walk_at "kit")
  | ((with_reducible apply RW.gKita); walk_at "kita")
  | ((with_reducible apply RW.gSl); walk_at "sq")
  | ((with_reducible apply RW.gSt); walk_at "sq")
  | ((with_reducible apply RW.gPr); walk_at "pr")
  | with_reducible assumption
  | with_reducible exact RW.gCp ⟨by decide, by decide, by decide⟩
  | walk_at "dg"
  | rfl
  | walk_at "num")
local macro_rules | `(tactic| walk_at "nu") => `(tactic| (repeat (refine RW.fr ?_)))
local macro_rules | `(tactic| walk_at "tt") => `(tactic| first
  | with_reducible rfl
  | with_reducible assumption
  | rfl
  | with_reducible exact RW.cSsT (by with_reducible assumption)
  | with_reducible exact RW.cSsF (by with_reducible assumption)
  | with_reducible exact RW.cNsT (by with_reducible assumption)
  | with_reducible exact RW.cNsF (by with_reducible assumption)
  | with_reducible exact RW.cSiT (by with_reducible assumption)
  | with_reducible exact RW.cSiF (by with_reducible assumption)
  | with_reducible exact RW.cNiT (by with_reducible assumption)
  | with_reducible exact RW.cNiF (by with_reducible assumption)
  | with_reducible exact RW.someT (by with_reducible assumption)
  | with_reducible exact RW.someF (by with_reducible assumption)
  | with_reducible exact RW.nsomeT (by with_reducible assumption)
  | with_reducible exact RW.nsomeF (by with_reducible assumption))
local macro_rules | `(tactic| walk_at "disp") => `(tactic| first
  | with_reducible refine RW.disp1 ?_
  | with_reducible refine RW.disp2 ?_
  | with_reducible refine RW.disp3 ?_
  | with_reducible refine RW.disp4 ?_
  | with_reducible refine RW.disp5 ?_
  | with_reducible refine RW.disp6 ?_
  | with_reducible refine RW.disp7 ?_
  | with_reducible refine RW.disp8 ?_)
local macro_rules | `(tactic| walk_at "ex") => `(tactic| ((fail_if_success (apply @Exists.intro (Nat → Nat → _))); (fail_if_success (apply @Exists.intro (Nat → L2.St → L2.Hp → Prop))); (fail_if_success (apply @Exists.intro (L2.St → L2.Hp → Prop))); apply Exists.intro))
local macro_rules | `(tactic| walk_at "st") => `(tactic| first
  | ((fail_if_success (with_reducible apply RW.isMut)); (fail_if_success (with_reducible apply RW.isMut2)); (apply And.intro); (focus (walk_at "side"; done)))
  | walk_at "disp"
  | walk_at "ex"
  | refine RC.iteT' (by walk_at "tt") ?_
  | refine RC.iteF' (by walk_at "tt") ?_)
local macro_rules | `(tactic| walk_at "gi") => `(tactic| (repeat (first | walk_at "st" | ((walk_at "nu"); (intro _ h0; have h1 : _ = none := h0; clear h1); intros))))
local macro_rules | `(tactic| walk_at "in") => `(tactic| (try dsimp only [RW.cxK]))
local macro_rules | `(tactic| walk_at "go") => `(tactic| (repeat walk_at "st"))
namespace K17
open PySem PySem.Spec PyProof.Rows L2 RC
section
variable {P : Program} {w : World} {K : PySem.W.Frag} {mg : Str → Option Value} {base : Heap}
/-! ### fields of formats with dollars -/
abbrev CFd (K : PySem.W.Frag) : Addr := He.ga K "Field"
abbrev tx (l : List Nat) : Str := ⟨l.toArray⟩
def fdF (n c f a : Str) (w : Int) : List (Str × V) := [("name", .str n), ("conversion", .str c), ("fill", .str f), ("align", .str a), ("width", .int w)]
def spFieldInit (K : PySem.W.Frag) : Sp := fun vs H Q _ => ∃ (p dx : Addr) (n c f a : Str) (w : Int), vs = [.ref p, .str n, .str c, .str f, .str a, .int w] ∧ H p = some (.ins (CFd K) dx []) ∧ Q .non (upd H p (.ins (CFd K) dx (fdF n c f a w)))
theorem field_body {f : Addr} {cdv : Value} {A : Around} {outer : List Env} {s : Shared} {H : Hp} {vs : List V} {Q : VK} {E : XK} (T : Txt P w K mg) (h : spFieldInit K vs H Q E) :
    ∃ t, PSs (cxOf CX0 P w K mg base nm_Field_init "Field.__init__" (defScope s_Field_init) f cdv A outer s H E).nox (defBody s_Field_init) t ∧ t { nx := fun _ H' => Q .non H', rt := Q } (L2.start nm_Field_init vs) H := by
  obtain ⟨p, dx, n, c, fl, al, wd, rfl, hp, hQ⟩ := h
  refine ⟨_, (pss_cons (ps_fld (pv 0) (pv 1) rfl)
      (pss_cons (ps_fld (pv 0) (pv 2) rfl)
      (pss_cons (ps_fld (pv 0) (pv 3) rfl)
      (pss_cons (ps_fld (pv 0) (pv 4) rfl)
      (pss_one (ps_fld (pv 0) (pv 5) rfl)))))), ?_⟩
  walk_at "in"
  walk_at "go"
  rw [upd_upd, upd_upd, upd_upd, upd_upd]
  exact hQ
/-- all but the first default given: Field(name, conversion) leaves three -/
theorem ok_field_init2 {f : Addr} (T : Txt P w K mg) (F : Stands K "__init__" "Field.__init__" s_Field_init [.str "", .str " ", .str "", .int 0] f) : Callable P w K mg base 1 f ["self", "name", "conversion", "fill", "align", "width"] [.str " ", .str "", .int 0] (spFieldInit K) := by
  refine F.call sc_Field_init 3 1 (fun vs H Q E h => ?_) (fun cdv A outer s H vs Q E hr h => field_body T h) (fun z => nomatch z) fun _ => ⟨rfl, fun _ _ _ _ _ _ _ us its hl hi => match us, hl, its, hi with | [_, _, _], _, [_, _, _, _], _ => ⟨_, rfl, rfl⟩⟩
  obtain ⟨p, dx, n, c, f, a, w, rfl, _⟩ := h; rfl
/-- all five given -/
theorem ok_field_init5 {f : Addr} (T : Txt P w K mg) (F : Stands K "__init__" "Field.__init__" s_Field_init [.str "", .str " ", .str "", .int 0] f) : Callable P w K mg base 1 f ["self", "name", "conversion", "fill", "align", "width"] [] (spFieldInit K) := by
  refine F.call sc_Field_init 6 4 (fun vs H Q E h => ?_) (fun cdv A outer s H vs Q E hr h => field_body T h) (fun z => nomatch z) fun _ => ⟨rfl, fun _ _ _ _ _ _ _ us its hl hi => match us, hl, its, hi with | [_, _, _, _, _, _], _, [_, _, _, _], _ => ⟨_, rfl, rfl⟩⟩
  obtain ⟨p, dx, n, c, f, a, w, rfl, _⟩ := h; rfl
def spNameEnd : Sp := fun vs H Q _ => ∃ (z : Str) (i n : Nat), vs = [.str z, .int (i : Nat)] ∧ z.length ≤ 1000000 ∧ i ≤ z.length ∧ RP.nmLen (z.cps.toList.drop i) = n ∧ Q (.int ((i + n : Nat) : Int)) H
theorem ok_name_end {f : Addr} (T : Txt P w K mg) (F : Stands K "name_end" "name_end" s_name_end [] f) : Callable P w K mg base 1 f ["text", "start"] [] spNameEnd := by
  refine F.call0 sc_name_end (fun vs H Q E h => ?_) (fun cdv A outer s H vs Q E hr h => ?_) (fun _ _ _ _ _ _ us hl => match us, hl with | [_, _], _ => rfl)
  · obtain ⟨z, i, n, rfl, _⟩ := h; rfl
  obtain ⟨z, i, n, rfl, hz, hi, rfl, hQ⟩ := h
  refine ⟨_, (pss_cons (ps_set (i := 2) sc_name_end.nd rfl (by first | exact Or.inl rfl | exact Or.inr rfl) (pv 1))
      (pss_cons (ps_while PassesOwn.never (PW.pt (pw_and (pt_cmpR op_lt (pv 2) (pe_callB call_len_str (by rfl) T.b_len (by decide +kernel) (pa_cons (pv 0) pa_nil)) (nomark _)) (pw_and1 (PW.pt (pw_or (pt_cmpR op_inS (pe_ix ix_str (pv 0) (pv 2) (fun _ _ => rfl)) (pe_gs (by rfl) T.g_LETTERS) (by rfl)) (pw_or1 (PW.pt (pw_and (pt_cmpR op_gt (pv 2) (pv 1) (nomark _)) (pw_and1 (pt_cmpR op_inS (pe_ix ix_str (pv 0) (pv 2) (fun _ _ => rfl)) (pe_gs (by rfl) T.g_DIGITS) (by rfl))))))))))) (pss_one (ps_aug (i := 2) sc_name_end.nd rfl (by first | exact Or.inl rfl | exact Or.inr rfl) pe_int ip_add)))
      (pss_one (ps_ret (pv 2))))), ?_⟩
  walk_at "in"
  have hl : z.cps.toList.length = z.length := Array.length_toList ..
  have hn := RP.nm_le (z.cps.toList.drop i)
  rw [List.length_drop, hl] at hn
  refine ⟨_, rfl, ?_⟩
  refine ⟨fun m σ H' => H' = H ∧ ∃ k, k ≤ RP.nmLen (z.cps.toList.drop i) ∧ m = RP.nmLen (z.cps.toList.drop i) - k ∧ σ = [some (.str z), some (.int (i : Nat)), some (.int ((i + k : Nat) : Int))], ⟨_, rfl, 0, Nat.zero_le _, rfl, rfl⟩, ?_⟩
  rintro m σ H' ⟨rfl, k, hk, rfl, rfl⟩
  have eL : ("abcdefghijklmnopqrstuvwxyzABCDEFGHIJKLMNOPQRSTUVWXYZ_" : Str).cps.toList = RP.letters := by decide +kernel
  have eD : ("0123456789" : Str).cps.toList = RP.digits := by decide +kernel
  have hget : (z.cps.toList.drop i)[k]? = z.cps.toList[i + k]? := List.getElem?_drop ..
  by_cases c : k = RP.nmLen (z.cps.toList.drop i)
  · have ce := RP.cont_end (z.cps.toList.drop i)
    rw [← c] at ce hQ
    by_cases e : i + k < z.length
    · have t1 : decide (((i + k : Nat) : Int) < (z.length : Nat)) = true := decide_eq_true (by omega)
      obtain ⟨ch, hc⟩ : ∃ ch, z.cps.toList[i + k]? = some ch := ⟨_, List.getElem?_eq_getElem (by rw [hl]; exact e)⟩
      have hat : atI z.cps.toList ((i + k : Nat) : Int) = some ch := atI_nat hc
      unfold RP.contB at ce
      rw [hget, hc] at ce
      obtain ⟨ce1, ce2⟩ := Bool.or_eq_false_iff.mp ce
      have t2 : decide (ch ∈ ("abcdefghijklmnopqrstuvwxyzABCDEFGHIJKLMNOPQRSTUVWXYZ_" : Str).cps.toList) = false := by rw [eL]; exact ce1
      have hz2 : z.length ≤ sizeLine := by rw [sizeLine_eq]; omega
      by_cases k0 : k = 0
      · have t3 : decide (((i : Nat) : Int) < ((i + k : Nat) : Int)) = false := decide_eq_false (by omega)
        walk_at "go"
        exact hQ
      · have t3 : decide (((i : Nat) : Int) < ((i + k : Nat) : Int)) = true := decide_eq_true (by omega)
        have t4 : decide (ch ∈ ("0123456789" : Str).cps.toList) = false := by
          rw [eD]
          rcases Bool.and_eq_false_iff.mp ce2 with h | h
          · exact absurd (of_decide_eq_false h) (by omega)
          · exact h
        walk_at "go"
        exact hQ
    · have t1 : decide (((i + k : Nat) : Int) < (z.length : Nat)) = false := decide_eq_false (by omega)
      walk_at "go"
      exact hQ
  · have lt : k < RP.nmLen (z.cps.toList.drop i) := by omega
    have ce := RP.cont_lt lt
    have e : i + k < z.length := by omega
    have t1 : decide (((i + k : Nat) : Int) < (z.length : Nat)) = true := decide_eq_true (by omega)
    obtain ⟨ch, hc⟩ : ∃ ch, z.cps.toList[i + k]? = some ch := ⟨_, List.getElem?_eq_getElem (by rw [hl]; exact e)⟩
    have hat : atI z.cps.toList ((i + k : Nat) : Int) = some ch := atI_nat hc
    have hz2 : z.length ≤ sizeLine := by rw [sizeLine_eq]; omega
    unfold RP.contB at ce
    rw [hget, hc] at ce
    have next : ∀ H2 : Hp, H2 = H' → ∃ m', m' < RP.nmLen (z.cps.toList.drop i) - k ∧ H2 = H' ∧ ∃ k', k' ≤ RP.nmLen (z.cps.toList.drop i) ∧ m' = RP.nmLen (z.cps.toList.drop i) - k' ∧ [some (V.str z), some (V.int (i : Nat)), some (V.int (((i + k : Nat) : Int) + 1))] = [some (.str z), some (.int (i : Nat)), some (.int ((i + k' : Nat) : Int))] :=
      fun H2 h => ⟨RP.nmLen (z.cps.toList.drop i) - (k + 1), by omega, h, k + 1, by omega, rfl, by rw [show ((i + (k + 1) : Nat) : Int) = ((i + k : Nat) : Int) + 1 by omega]⟩
    cases ce1 : RP.letB ch with
    | true =>
      have t2 : decide (ch ∈ ("abcdefghijklmnopqrstuvwxyzABCDEFGHIJKLMNOPQRSTUVWXYZ_" : Str).cps.toList) = true := by rw [eL]; exact ce1
      walk_at "go"
      refine ⟨_, fun _ _ h => h, ?_⟩
      walk_at "go"
      exact (next _ rfl).choose_spec
    | false =>
      replace ce : (RP.letB ch || (decide (0 < k) && RP.digB ch)) = true := ce
      rw [ce1, Bool.false_or] at ce
      obtain ⟨ce3, ce4⟩ := Bool.and_eq_true_iff.mp ce
      have t2 : decide (ch ∈ ("abcdefghijklmnopqrstuvwxyzABCDEFGHIJKLMNOPQRSTUVWXYZ_" : Str).cps.toList) = false := by rw [eL]; exact ce1
      have t3 : decide (((i : Nat) : Int) < ((i + k : Nat) : Int)) = true := decide_eq_true (by have := of_decide_eq_true ce3; omega)
      have t4 : decide (ch ∈ ("0123456789" : Str).cps.toList) = true := by rw [eD]; exact ce4
      walk_at "go"
      refine ⟨_, fun _ _ h => h, ?_⟩
      walk_at "go"
      exact (next _ rfl).choose_spec
end
end K17

set_option Elab.async false
set_option linter.all false
set_option maxRecDepth 100000
set_option maxHeartbeats 0

namespace K17
open PySem PySem.Spec PyProof.Rows L2 RC
section
variable {P : Program} {w : World} {K : PySem.W.Frag} {mg : Str → Option Value} {base : Heap}
/-! ### widths and specs -/
theorem sIx_nat' {n d k : Nat} (h : k ≤ n) : HT.sIx n d (some (k : Int)) = k := by
  unfold HT.sIx; dsimp only; rw [if_neg (by omega)]; show min ((k : Int).toNat) n = k; omega
theorem cut_nat {z : Str} {a b : Nat} (ha : a ≤ z.length) (hb : b ≤ z.length) : cutS z (some (a : Int)) (some (b : Int)) = tx ((z.cps.toList.drop a).take (b - a)) := by
  unfold cutS
  rw [sIx_nat' ha, sIx_nat' hb]
theorem cut_one {z : Str} {a : Nat} (ha : a ≤ z.length) : cutS z (some (a : Int)) (some ((a : Int) + 1)) = tx ((z.cps.toList.drop a).take 1) := by
  have hl : z.cps.toList.length = z.length := Array.length_toList ..
  by_cases c : a + 1 ≤ z.length
  · have := cut_nat ha c
    rw [show ((a + 1 : Nat) : Int) = (a : Int) + 1 by omega, show a + 1 - a = 1 by omega] at this
    exact this
  · unfold cutS
    have d0 : z.cps.toList.drop a = [] := List.drop_eq_nil_of_le (by omega)
    rw [sIx_nat' ha, d0, List.take_nil, List.take_nil]
theorem tx_inj {a b : List Nat} (h : tx a = tx b) : a = b := congrArg (fun s => s.cps.toList) h
theorem take_snoc {α : Type} {xs : List α} {i : Nat} {x : α} (h : xs[i]? = some x) : xs.take (i + 1) = xs.take i ++ [x] := by
  obtain ⟨h1, h2⟩ := List.getElem?_eq_some_iff.mp h
  rw [← h2, List.take_append_getElem]
theorem yes_if {σ : L2.St} {H : Hp} {A B : Hp → Prop} (h : A H) : tYes σ H (fun b H3 => if b = true then A H3 else B H3) := by
  show if true = true then A H else B H
  rw [if_pos rfl]; exact h
def spWidth : Sp := fun vs H Q _ => ∃ z : Str, vs = [.str z] ∧ z.length ≤ 1000000 ∧ ∀ H', Same H H' → Q (.bl (RO.wdB z.cps.toList)) H'
theorem ok_width {f : Addr} (T : Txt P w K mg) (F : Stands K "is_width" "is_width" s_is_width [] f) : Callable P w K mg base 1 f ["text"] [] spWidth := by
  refine F.call0 sc_is_width (fun vs H Q E h => ?_) (fun cdv A outer s0 H vs Q E hr h => ?_) (fun _ _ _ _ _ _ us hl => match us, hl with | [_], _ => rfl)
  · obtain ⟨z, rfl, _⟩ := h; rfl
  obtain ⟨z, rfl, hz, hQ⟩ := h
  refine ⟨_, (pss_one (ps_ret (pe_and (pe_chain op_lt op_lt pe_int (pe_callB call_len_str (by rfl) T.b_len (by decide +kernel) (pa_cons (pv 0) pa_nil)) pe_int) (pe_and (pe_cmpR op_ne (pe_ix ix_str (pv 0) pe_int (fun _ _ => rfl)) pe_str (nomark _)) (pe_one (pe_callB (cr_all rfl) (by rfl) T.b_all (by decide +kernel) (pa_cons (pe_lc (own := [("sign", 1)]) (by rfl) sc_is_width.nd (pi_str (pv 0)) (blkOk_by (own := [("sign", 1)]) (N := nm_is_width) (sc := defScope s_is_width) (by decide +kernel)) (fun _ _ _ _ _ => (pg_name (i := 1) sc_is_width.nd rfl (by first | exact Or.inl rfl | exact Or.inr rfl))) (fun _ _ _ _ _ => pts_nil) (fun _ _ _ _ _ => (pe_cmpR op_inS (pv 1) (pe_gs (by rfl) T.g_DIGITS) (by rfl)))) pa_nil))))))), ?_⟩
  walk_at "in"
  have hl : z.cps.toList.length = z.length := Array.length_toList ..
  have hz2 : z.length ≤ sizeLine := by rw [sizeLine_eq]; omega
  have eW : RO.wdB z.cps.toList = ((decide (0 < z.length) && decide (z.length < 3)) && (decide (z.cps.toList.head? ≠ some 48) && z.cps.toList.all RP.digB)) := by unfold RO.wdB; rw [hl]
  have q := hQ H (Same.refl H)
  walk_at "go"
  by_cases h0 : 0 < z.length
  · refine iteT' (decide_eq_true (by omega)) ?_
    by_cases h3 : z.length < 3
    · refine ⟨_, _, rfl, rfl, _, rfl, iteT' (decide_eq_true (by omega)) ?_⟩
      rw [decide_eq_true h0, decide_eq_true h3] at eW
      obtain ⟨c, r, hc⟩ : ∃ c r, z.cps.toList = c :: r := by
        cases e : z.cps.toList with
        | nil => rw [e, List.length_nil] at hl; omega
        | cons c r => exact ⟨c, r, rfl⟩
      have hat : atI z.cps.toList 0 = some c := atI_nat (j := 0) (by rw [hc]; rfl)
      have e0 : Str.ofString "0" = tx [48] := by decide +kernel
      by_cases c0 : c = 48
      · have t5 : (!decide (V.str ⟨#[c]⟩ = V.str (Str.ofString "0"))) = false := by rw [e0, c0, decide_eq_true rfl]; rfl
        have eW2 : RO.wdB z.cps.toList = false := by rw [eW, hc, c0]; rfl
        rw [eW2] at q
        walk_at "go"
        exact q
      · have t5 : (!decide (V.str ⟨#[c]⟩ = V.str (Str.ofString "0"))) = true := by
          rw [e0, decide_eq_false fun h => c0 (List.cons.inj (tx_inj (a := [c]) (V.str.inj h))).1]; rfl
        have eW2 : RO.wdB z.cps.toList = z.cps.toList.all RP.digB := by
          rw [eW, hc]
          have : decide ((c :: r).head? ≠ some 48) = true := decide_eq_true fun h => c0 (Option.some.inj h)
          rw [this]; rfl
        rw [eW2] at hQ
        clear q
        have eD : (Str.ofString "0123456789").cps.toList = RP.digits := by decide +kernel
        walk_at "go"
        intro D hD
        refine lc_it walk_str (fun i H' => H' = upd H D (.lst ((z.cps.toList.take i).map fun c => V.bl (RP.digB c)))) rfl (fun _ _ _ _ => trivial) (fun i x H1 H2 hi hp hy => ?_) (fun H1 hp => ?_)
        · obtain ⟨rfl, e, he, rfl⟩ := hy
          subst hp
          have he' : z.cps.toList[i]? = some e := by simpa using he
          refine ⟨rfl, yes_if ?_⟩
          refine ⟨_, rfl, e, Str.ofString "0123456789", rfl, rfl, _, upd_same, ?_, ?_⟩
          · rw [List.length_map, List.length_take, sizeLine_eq]; omega
          · rw [upd_upd, take_snoc he', List.map_append, eD]; rfl
        · subst hp
          refine ⟨D, z.cps.toList.map RP.digB, rfl, SqL.of ?_, ?_⟩
          · rw [upd_same, List.map_map, ← Array.length_toList, List.take_length]; rfl
          · have e2 : ((z.cps.toList.map RP.digB).all id) = z.cps.toList.all RP.digB := by rw [List.all_map]; rfl
            rw [e2]
            exact hQ _ (same_new hD _)
    · refine ⟨_, _, rfl, rfl, _, rfl, iteF' (decide_eq_false (by omega)) ?_⟩
      rw [eW, decide_eq_false h3] at q
      rw [Bool.and_false, Bool.false_and] at q
      exact q
  · refine iteF' (decide_eq_false (by omega)) ⟨_, rfl, iteF' rfl ?_⟩
    rw [eW, decide_eq_false h0] at q
    exact q
end
end K17

set_option Elab.async false
set_option linter.all false
set_option maxRecDepth 100000
set_option maxHeartbeats 0
namespace K17
open PySem PySem.Spec PyProof.Rows L2 RC
section
variable {P : Program} {w : World} {K : PySem.W.Frag} {mg : Str → Option Value} {base : Heap}
/-! ### cuts, by lists -/
theorem cut_list (l : List Nat) {a b : Nat} (h : a ≤ b) : (l.drop (min a l.length)).take (min b l.length - min a l.length) = (l.drop a).take (b - a) := by
  by_cases ha : a ≤ l.length
  · rw [Nat.min_eq_left ha]
    by_cases hb : b ≤ l.length
    · rw [Nat.min_eq_left hb]
    · rw [Nat.min_eq_right (by omega), List.take_of_length_le (by rw [List.length_drop]; exact Nat.le_refl _), List.take_of_length_le (by rw [List.length_drop]; omega)]
  · rw [List.drop_eq_nil_of_le (by omega), List.drop_eq_nil_of_le (show l.length ≤ a by omega), List.take_nil, List.take_nil]
theorem cut_ab {z : Str} {a b : Nat} (h : a ≤ b) : cutS z (some (a : Int)) (some (b : Int)) = tx ((z.cps.toList.drop a).take (b - a)) := by
  have hl : z.cps.toList.length = z.length := Array.length_toList ..
  unfold cutS
  rw [HT.sIx_nat, HT.sIx_nat, ← hl, cut_list _ h]
theorem cut_to {z : Str} {b : Nat} : cutS z none (some (b : Int)) = tx (z.cps.toList.take b) := by
  have hl : z.cps.toList.length = z.length := Array.length_toList ..
  have := cut_list z.cps.toList (Nat.zero_le b)
  unfold cutS
  rw [HT.sIx_nat, ← hl]
  rw [Nat.zero_min] at this
  exact congrArg tx this
theorem cut_from {z : Str} {a : Nat} : cutS z (some (a : Int)) none = tx (z.cps.toList.drop a) := by
  have hl : z.cps.toList.length = z.length := Array.length_toList ..
  unfold cutS
  rw [HT.sIx_nat, ← hl]
  show tx ((z.cps.toList.drop (min a z.cps.toList.length)).take (z.length - min a z.cps.toList.length)) = _
  refine congrArg tx ?_
  by_cases ha : a ≤ z.cps.toList.length
  · rw [Nat.min_eq_left ha, List.take_of_length_le (by rw [List.length_drop]; omega)]
  · rw [Nat.min_eq_right (by omega), List.drop_length, List.take_nil, List.drop_eq_nil_of_le (by omega)]
theorem tx_of (z : Str) : tx z.cps.toList = z := by
  show (⟨z.cps.toList.toArray⟩ : Str) = z
  rw [Array.toArray_toList]
theorem tx_len (l : List Nat) : (tx l).length = l.length := List.size_toArray ..
theorem tx_beq (a b : List Nat) : (tx a == tx b) = decide (a = b) := by
  by_cases h : a = b
  · subst h; rw [decide_eq_true rfl]; exact beq_self_eq_true _
  · rw [decide_eq_false h]; exact beq_eq_false_iff_ne.mpr fun e => h (tx_inj e)
theorem tx_dec (a b : List Nat) : decide (V.str (tx a) = V.str (tx b)) = decide (a = b) := by
  by_cases h : a = b
  · subst h; rw [decide_eq_true rfl, decide_eq_true rfl]
  · rw [decide_eq_false h, decide_eq_false fun e => h (tx_inj (V.str.inj e))]
theorem inV_tx (l : List Nat) : ∀ ls : List (List Nat), inV (.str (tx l)) (ls.map fun m => V.str (tx m)) = decide (l ∈ ls)
  | [] => rfl
  | m :: r => by
    have ih := inV_tx l r
    unfold inV at ih ⊢
    rw [List.map_cons, List.any_cons, ih]
    show ((tx m == tx l) || _) = _
    rw [tx_beq]
    by_cases h : m = l
    · subst h
      rw [decide_eq_true rfl, decide_eq_true List.mem_cons_self]; rfl
    · rw [decide_eq_false h, Bool.false_or]
      exact decide_eq_decide.mpr ⟨fun q => List.mem_cons_of_mem _ q, fun q => (List.mem_cons.mp q).resolve_left fun e => h e.symm⟩
theorem s_aligns : [Str.ofString "<", Str.ofString ">", Str.ofString "^"].map V.str = ([[60], [62], [94]] : List (List Nat)).map fun m => V.str (tx m) := by
  have e1 : Str.ofString "<" = tx [60] := by decide +kernel
  have e2 : Str.ofString ">" = tx [62] := by decide +kernel
  have e3 : Str.ofString "^" = tx [94] := by decide +kernel
  rw [e1, e2, e3]; rfl
theorem s_empty : Str.ofString "" = tx [] := by decide +kernel
theorem s_open : Str.ofString "{" = tx [123] := by decide +kernel
theorem s_close : Str.ofString "}" = tx [125] := by decide +kernel
theorem s_open2 : Str.ofString "{{" = tx [123, 123] := by decide +kernel
theorem s_close2 : Str.ofString "}}" = tx [125, 125] := by decide +kernel
theorem s_blank : Str.ofString " " = tx [32] := by decide +kernel
theorem s_bangr : Str.ofString "!r" = tx [33, 114] := by decide +kernel
theorem s_bangs : Str.ofString "!s" = tx [33, 115] := by decide +kernel
theorem s_bang : Str.ofString "!" = tx [33] := by decide +kernel
theorem s_colon : Str.ofString ":" = tx [58] := by decide +kernel
theorem al_in (c : Nat) : decide ([c] ∈ ([[60], [62], [94]] : List (List Nat))) = RO.alB c := by
  unfold RO.alB
  refine decide_eq_decide.mpr ⟨fun h => ?_, fun h => ?_⟩
  · rcases List.mem_cons.mp h with h | h
    · cases h; decide
    rcases List.mem_cons.mp h with h | h
    · cases h; decide
    rcases List.mem_cons.mp h with h | h
    · cases h; decide
    · cases h
  · rcases List.mem_cons.mp h with h | h
    · subst h; decide
    rcases List.mem_cons.mp h with h | h
    · subst h; decide
    rcases List.mem_cons.mp h with h | h
    · subst h; decide
    · cases h
theorem seq_of {a b : TS} {D : Ends} {σ : L2.St} {H : Hp} (Mid : L2.St → Hp → Prop) (hA : ∀ b' : TS, (∀ σ' H', Mid σ' H' → b' D σ' H') → tSeq a b' D σ H) (hB : ∀ σ' H', Mid σ' H' → b D σ' H') : tSeq a b D σ H := hA b hB
theorem seq_doc {u : TS} {D : Ends} {σ : L2.St} {H : Hp} (h : u D σ H) : tSeq tNext u D σ H := h
end
end K17

set_option Elab.async false
set_option linter.all false
set_option maxRecDepth 100000
set_option maxHeartbeats 0

namespace K17
open PySem PySem.Spec PyProof.Rows L2 RC
section
variable {P : Program} {w : World} {K : PySem.W.Frag} {mg : Str → Option Value} {base : Heap}
theorem cut_two {z : Str} {a : Nat} (ha : a ≤ z.length) : cutS z (some (a : Int)) (some ((a : Int) + 2)) = tx ((z.cps.toList.drop a).take 2) := by
  have hl : z.cps.toList.length = z.length := Array.length_toList ..
  by_cases c : a + 2 ≤ z.length
  · have := cut_nat ha c
    rw [show ((a + 2 : Nat) : Int) = (a : Int) + 2 by omega, show a + 2 - a = 2 by omega] at this
    exact this
  · have e : HT.sIx z.length z.length (some ((a : Int) + 2)) = z.length := by
      have := HT.sIx_nat z.length z.length (a + 2)
      rw [show ((a + 2 : Nat) : Int) = (a : Int) + 2 by omega] at this
      rw [this]; omega
    unfold cutS
    rw [e, sIx_nat' ha, List.take_of_length_le (by rw [List.length_drop, hl]; exact Nat.le_refl _), List.take_of_length_le (by rw [List.length_drop, hl]; omega)]
/-! ### the parts of a format in braces -/
def PtV (K : PySem.W.Frag) (H : Hp) : RO.Pt → V → Prop
  | .inl c, v => v = .str ⟨#[c]⟩
  | .inr _, v => ∃ q dx fs, v = .ref q ∧ H q = some (.ins (CFd K) dx fs) ∧ fs.length = 5
inductive PtsV (K : PySem.W.Frag) (H : Hp) : List RO.Pt → List V → Prop
  | nil : PtsV K H [] []
  | cons {p : RO.Pt} {v : V} {ps : List RO.Pt} {vs : List V} : PtV K H p v → PtsV K H ps vs → PtsV K H (p :: ps) (v :: vs)
theorem PtV.to {K : PySem.W.Frag} {H H' : Hp} (h : ∀ (q dx : Addr) (fs : List (Str × V)), fs.length = 5 → H q = some (.ins (CFd K) dx fs) → H' q = some (.ins (CFd K) dx fs)) : ∀ {p : RO.Pt} {v : V}, PtV K H p v → PtV K H' p v
  | .inl _, _, e => e
  | .inr _, _, ⟨q, dx, fs, e, g, l⟩ => ⟨q, dx, fs, e, h _ _ _ l g, l⟩
theorem PtsV.to {K : PySem.W.Frag} {H H' : Hp} (h : ∀ (q dx : Addr) (fs : List (Str × V)), fs.length = 5 → H q = some (.ins (CFd K) dx fs) → H' q = some (.ins (CFd K) dx fs)) : ∀ {ps : List RO.Pt} {vs : List V}, PtsV K H ps vs → PtsV K H' ps vs
  | _, _, .nil => .nil
  | _, _, .cons a b => .cons (a.to h) (b.to h)
theorem PtsV.same {K : PySem.W.Frag} {H H' : Hp} (s : Same H H') {ps : List RO.Pt} {vs : List V} (h : PtsV K H ps vs) : PtsV K H' ps vs := h.to fun _ _ _ _ e => s _ _ e
theorem PtsV.put {K : PySem.W.Frag} {H : Hp} {p : Addr} {xs : List V} {o : HO} (e : H p = some (.lst xs)) {ps : List RO.Pt} {vs : List V} (h : PtsV K H ps vs) : PtsV K (upd H p o) ps vs := h.to fun q dx fs l g => by
  rw [upd_ne]; exact g
  intro z; rw [z, e] at g; cases g
theorem PtV.put {K : PySem.W.Frag} {H : Hp} {p : Addr} {xs : List V} {o : HO} (e : H p = some (.lst xs)) {x : RO.Pt} {v : V} (h : PtV K H x v) : PtV K (upd H p o) x v := h.to fun q dx fs l g => by
  rw [upd_ne]; exact g
  intro z; rw [z, e] at g; cases g
theorem PtsV.own {K : PySem.W.Frag} {H : Hp} {p C dx : Addr} {o : HO} (e : H p = some (.ins C dx [])) {ps : List RO.Pt} {vs : List V} (h : PtsV K H ps vs) : PtsV K (upd H p o) ps vs := h.to fun q dx n l g => by
  rw [upd_ne]; exact g
  intro z; rw [z, e] at g; cases g; cases l
theorem PtsV.snoc {K : PySem.W.Frag} {H : Hp} {p : RO.Pt} {v : V} (h : PtV K H p v) : ∀ {ps : List RO.Pt} {vs : List V}, PtsV K H ps vs → PtsV K H (ps ++ [p]) (vs ++ [v])
  | _, _, .nil => .cons h .nil
  | _, _, .cons a b => .cons a (b.snoc h)
/-! ### joined texts -/
inductive NmV (K : PySem.W.Frag) (H : Hp) (b : Nat) : List V → Prop
  | nil : NmV K H b []
  | str {x : Str} {vs : List V} : x.length ≤ b → NmV K H b vs → NmV K H b (.str x :: vs)
  | fld {q dx : Addr} {fs : List (Str × V)} {vs : List V} : H q = some (.ins (CFd K) dx fs) → fs.length = 5 → NmV K H b vs → NmV K H b (.ref q :: vs)
theorem NmV.to {K : PySem.W.Frag} {H H' : Hp} {b b' : Nat} (hb : b ≤ b') (h : ∀ (q dx : Addr) (fs : List (Str × V)), fs.length = 5 → H q = some (.ins (CFd K) dx fs) → H' q = some (.ins (CFd K) dx fs)) : ∀ {vs : List V}, NmV K H b vs → NmV K H' b' vs
  | _, .nil => .nil
  | _, .str a c => .str (Nat.le_trans a hb) (c.to hb h)
  | _, .fld a l c => .fld (h _ _ _ l a) l (c.to hb h)
theorem NmV.snocS {K : PySem.W.Frag} {H : Hp} {b : Nat} {x : Str} (hx : x.length ≤ b) : ∀ {vs : List V}, NmV K H b vs → NmV K H b (vs ++ [.str x])
  | _, .nil => .str hx .nil
  | _, .str a c => .str a (c.snocS hx)
  | _, .fld a l c => .fld a l (c.snocS hx)
theorem NmV.snocF {K : PySem.W.Frag} {H : Hp} {b : Nat} {q dx : Addr} {fs : List (Str × V)} (hx : H q = some (.ins (CFd K) dx fs)) (hl : fs.length = 5) : ∀ {vs : List V}, NmV K H b vs → NmV K H b (vs ++ [.ref q])
  | _, .nil => .fld hx hl .nil
  | _, .str a c => .str a (c.snocF hx hl)
  | _, .fld a l c => .fld a l (c.snocF hx hl)
/-- the last of the found: a text, or a field -/
theorem NmV.last {K : PySem.W.Frag} {H : Hp} {b : Nat} : ∀ {vs : List V}, NmV K H b vs → vs = [] ∨ (∃ ws x, vs = ws ++ [.str x] ∧ x.length ≤ b ∧ NmV K H b ws) ∨ (∃ ws q dx fs, vs = ws ++ [.ref q] ∧ H q = some (.ins (CFd K) dx fs))
  | _, .nil => .inl rfl
  | _, .str (x := x) (vs := vs) a c => by
    rcases c.last with h | ⟨ws, y, h1, h2, h3⟩ | ⟨ws, q, dx, n, h1, h2⟩
    · subst h; exact .inr (.inl ⟨[], x, rfl, a, c⟩)
    · subst h1; exact .inr (.inl ⟨.str x :: ws, y, rfl, h2, .str a h3⟩)
    · subst h1; exact .inr (.inr ⟨.str x :: ws, q, dx, n, rfl, h2⟩)
  | _, .fld (q := q) (dx := dx) (fs := fs) (vs := vs) a l c => by
    rcases c.last with h | ⟨ws, y, h1, h2, h3⟩ | ⟨ws, q', dx', n', h1, h2⟩
    · subst h; exact .inr (.inr ⟨[], q, dx, fs, rfl, a⟩)
    · subst h1; exact .inr (.inl ⟨.ref q :: ws, y, rfl, h2, .fld a l h3⟩)
    · subst h1; exact .inr (.inr ⟨.ref q :: ws, q', dx', n', rfl, h2⟩)
theorem PtsV.get {K : PySem.W.Frag} {H : Hp} : ∀ {ps : List RO.Pt} {vs : List V}, PtsV K H ps vs → ∀ {i : Nat} {v : V}, vs[i]? = some v → ∃ x, ps[i]? = some x ∧ PtV K H x v
  | _, _, .nil, _, _, h => by cases h
  | _, _, .cons a b, 0, _, h => by cases h; exact ⟨_, rfl, a⟩
  | _, _, .cons a b, _ + 1, _, h => b.get h
theorem PtsV.len {K : PySem.W.Frag} {H : Hp} : ∀ {ps : List RO.Pt} {vs : List V}, PtsV K H ps vs → ps.length = vs.length
  | _, _, .nil => rfl
  | _, _, .cons _ b => congrArg Nat.succ b.len
theorem len_add (a b : Str) : (a ++ b).length = a.length + b.length := by
  rw [TL.len_tl, TL.tl_append, List.length_append, ← TL.len_tl, ← TL.len_tl]
def spJoined (K : PySem.W.Frag) : Sp := fun vs H Q _ => ∃ (p : Addr) (xs : List V) (ps : List RO.Pt), vs = [.ref p] ∧ H p = some (.lst xs) ∧ PtsV K H ps xs ∧ xs.length ≤ 1000000 ∧
  ∀ (t : Addr) (ws : List V) (H' : Hp), Same H H' → H' t = some (.tup ws) → NmV K H' 1000000 ws → ws.length ≤ 1000000 → Q (.ref t) H'
theorem ok_joined {f : Addr} (T : Txt P w K mg) (F : Stands K "joined_texts" "joined_texts" s_joined_texts [] f) : Callable P w K mg base 1 f ["parts"] [] (spJoined K) := by
  refine F.call0 sc_joined_texts (fun vs H Q E h => ?_) (fun cdv A outer s H vs Q E hr h => ?_) (fun _ _ _ _ _ _ us hl => match us, hl with | [_], _ => rfl)
  · obtain ⟨p, xs, ps, rfl, _⟩ := h; rfl
  obtain ⟨p, xs, ps, rfl, hp, hps, hxl, hQ⟩ := h
  refine ⟨_, (pss_cons (ps_set (i := 1) sc_joined_texts.nd rfl (by first | exact Or.inl rfl | exact Or.inr rfl) (pe_lst pa_nil))
      (pss_cons (ps_for PassesOwn.never rfl (pi_list (pv 0)) (pg_name (i := 2) sc_joined_texts.nd rfl (by first | exact Or.inl rfl | exact Or.inr rfl)) (pss_one (ps_if (PW.pt (pw_and (pt_val (pe_callB call_isi (by rfl) T.b_isinstance (by decide +kernel) (pa_cons (pv 2) (pa_cons (pe_bltn (v := .ty "str") (u := .type "str") (by rfl) T.b_str (by decide +kernel) rfl) pa_nil)))) (pw_and (pt_cmpR (RY.op_neE (Nat.lt_of_succ_lt (hu_of hr))) (pv 1) (pe_lst pa_nil) (nomark _)) (pw_and1 (pt_val (pe_callB call_isi (by rfl) T.b_isinstance (by decide +kernel) (pa_cons (pe_ix ix_list (pv 1) (pe_un un_neg pe_int) (fun _ _ => rfl)) (pa_cons (pe_bltn (v := .ty "str") (u := .type "str") (by rfl) T.b_str (by decide +kernel) rfl) pa_nil)))))))) (pss_one (ps_augS (pv 1) (pe_un un_neg pe_int) RT.get_list (pv 2) iop_add_str set_list)) (pss_one (ps_expr (pe_bm PySem.F.plainAttrs_list PySem.F.slot_list_append PySem.F.type_list_append mt_append (pv 1) (pa_cons (pv 2) pa_nil)))))))
      (pss_one (ps_ret (pe_callTy call_tuple_of (by rfl) T.b_tuple (by decide +kernel) (pa_cons (pv 1) pa_nil)))))), ?_⟩
  walk_at "in"
  walk_at "go"
  intro q fq
  walk_at "go"
  refine for_it walk_list (fun i σ H' => Same H H' ∧ ∃ ws a, H' q = some (.lst ws) ∧ ws.length ≤ i ∧ NmV K H' i ws ∧ σ = [some (.ref p), some (.ref q), a]) ⟨same_new fq _, [], _, upd_same, Nat.le_refl _, .nil, rfl⟩ (fun i σ H' _ h => SqL.of (h.1 _ _ hp)) (fun i v σ H0 H2 hi hP hx => ?_) (fun σ H2 hP => ?_)
  · obtain ⟨rfl, hx⟩ := hx
    obtain ⟨s2, ws, a, hq, hwl, hn, rfl⟩ := hP
    obtain ⟨x, gx, hpx⟩ := hps.get hx
    have hil : i < xs.length := (List.getElem?_eq_some_iff.mp hx).1
    have hwz : ws.length < sizeLine := by rw [sizeLine_eq]; omega
    have hn1 : NmV K H2 (i + 1) ws := hn.to (by omega) fun _ _ _ _ h => h
    have keep : ∀ (H4 : Hp) (o : HO), Same H2 H4 → ∀ (q' dx : Addr) (fs : List (Str × V)), fs.length = 5 → H2 q' = some (.ins (CFd K) dx fs) → upd H4 q o q' = some (.ins (CFd K) dx fs) := fun H4 o s4 q' dx fs _ g => by
      rw [upd_ne]; exact s4 _ _ g
      intro z; rw [z, hq] at g; cases g
    have sq : ∀ (H4 : Hp) (o : HO), Same H2 H4 → Same H (upd H4 q o) := fun H4 o s4 b u hb => by rw [upd_ne (ne_of_none hb fq)]; exact s4 _ _ (s2 _ _ hb)
    have ky := T.kiy_Field_str
    cases x with
    | inl c =>
      obtain rfl : v = .str ⟨#[c]⟩ := hpx
      have fin : ∀ (H4 : Hp) (o : HO) (ws' : List V), Same H2 H4 → NmV K H2 (i + 1) ws' → NmV K (upd H4 q o) (i + 1) ws' := fun H4 o ws' s4 h2 => h2.to (Nat.le_refl _) (keep _ _ s4)
      have hc1 : (⟨#[c]⟩ : Str).length = 1 := rfl
      rcases hn.last with rfl | ⟨ws2, y, rfl, hy, hn2⟩ | ⟨ws2, q2, dx2, n2, rfl, hq2⟩
      · have t2 : (!([] : List V).isEmpty) = false := rfl
        walk_at "go"
        intro r fr
        have s4 := same_new fr (.lst [])
        have hq4 := s4 _ _ hq
        have hr4 : (upd H2 r (.lst [])) r = some (.lst []) := upd_same
        generalize upd H2 r (.lst []) = H4 at s4 hq4 hr4
        walk_at "go"
        exact ⟨fin _ _ _ s4 (hn1.snocS (by rw [hc1]; omega)), rfl⟩
      · have t2 : (!(ws2 ++ [V.str y]).isEmpty) = true := by simp
        have hat : atI (ws2 ++ [V.str y]) (-1) = some (V.str y) := atI_last _ _
        have hix : ixN (ws2 ++ [V.str y]).length (-1) = some ws2.length := by
          rw [List.length_append]; unfold ixN; simp; omega
        have hy2 : y.length + (⟨#[c]⟩ : Str).length ≤ sizeLine := by rw [sizeLine_eq, hc1]; omega
        walk_at "go"
        intro r fr
        have s4 := same_new fr (.lst [])
        have hq4 := s4 _ _ hq
        have hr4 : (upd H2 r (.lst [])) r = some (.lst []) := upd_same
        generalize upd H2 r (.lst []) = H4 at s4 hq4 hr4
        walk_at "go"
        rw [List.length_append] at hwl
        have es : (ws2 ++ [V.str y]).set ws2.length (V.str (y ++ ⟨#[c]⟩)) = ws2 ++ [V.str (y ++ ⟨#[c]⟩)] := by simp [List.set_append]
        rw [es]
        exact ⟨by rw [List.length_append]; show ws2.length + 1 ≤ i + 1; exact Nat.le_succ_of_le hwl, fin _ _ _ s4 ((hn2.to (by omega) fun _ _ _ _ h => h).snocS (by rw [len_add, hc1]; omega)), rfl⟩
      · have t2 : (!(ws2 ++ [V.ref q2]).isEmpty) = true := by simp
        have hat : atI (ws2 ++ [V.ref q2]) (-1) = some (V.ref q2) := atI_last _ _
        walk_at "go"
        intro r fr
        have s4 := same_new fr (.lst [])
        have hq4 := s4 _ _ hq
        have hr4 : (upd H2 r (.lst [])) r = some (.lst []) := upd_same
        have hq24 := s4 _ _ hq2
        generalize upd H2 r (.lst []) = H4 at s4 hq4 hr4 hq24
        have ty4 := RB.TyC.tyx T.ty_Field T.c_Field hq24
        walk_at "go"
        exact ⟨by rw [List.length_append]; exact Nat.succ_le_succ hwl, fin _ _ _ s4 (hn1.snocS (by rw [hc1]; omega)), rfl⟩
    | inr n =>
      obtain ⟨q3, dx3, fs3, rfl, g3, l3⟩ := hpx
      have g4 := s2 _ _ g3
      have ty4 := RB.TyC.tyx T.ty_Field T.c_Field g4
      walk_at "go"
      exact ⟨(hn1.to (Nat.le_refl _) (keep _ _ (Same.refl _))).snocF (keep _ _ (Same.refl _) _ _ _ l3 g4) l3, rfl⟩
  · obtain ⟨s2, ws, a, hq, hwl, hn, rfl⟩ := hP
    walk_at "go"
    refine .inl ⟨SqL.of hq, fun l fl => ?_⟩
    refine hQ l ws _ (s2.trans (same_new fl _)) upd_same ?_ (Nat.le_trans hwl hxl)
    exact hn.to hxl fun q' dx fs _ g => same_new fl _ _ _ g
end
end K17

set_option Elab.async false
set_option linter.all false
set_option maxRecDepth 100000
set_option maxHeartbeats 0

namespace K17
open PySem PySem.Spec PyProof.Rows L2 RC
section
variable {P : Program} {w : World} {K : PySem.W.Frag} {mg : Str → Option Value} {base : Heap}
/-! ### the errors, the formatter -/
def spParts (K : PySem.W.Frag) : Sp := fun vs H Q _ => ∃ (z : Str) (o : Option (List RO.Pt)), vs = [.str z] ∧ z.length ≤ 1000000 ∧ RO.PB z.cps.toList o ∧
  (∀ H' : Hp, o = none → Same H H' → Q .non H') ∧
  (∀ (ps : List RO.Pt) (vs : List V) (p : Addr) (H' : Hp), o = some ps → Same H H' → H p = none → H' p = some (.lst vs) → vs.length ≤ 1000000 → PtsV K H' ps vs → Q (.ref p) H')
theorem ok_badformat_init {f : Addr} (T : Txt P w K mg) (F : Stands K "__init__" "BadFormat.__init__" s_BadFormat_init [] f) : Callable P w K mg base 1 f ["self", "fmt"] [] (RQ.spExcInit K "fmt") := by
  refine F.call0 sc_BadFormat_init (fun vs H Q E h => ?_) (fun cdv A outer s H vs Q E hr h => ?_) (fun _ _ _ _ _ _ us hl => match us, hl with | [_, _], _ => rfl)
  · obtain ⟨a, C, v, rfl, _⟩ := h; rfl
  obtain ⟨a, C, v, rfl, hx, ha, hQ⟩ := h
  refine ⟨_, (pss_one (ps_ost (pv 0) (pv 1))), ?_⟩
  walk_at "in"
  exact RQ.init_rd hx (fun Q h => ⟨_, rfl, h⟩) (fun Q h => ⟨_, rfl, h⟩) ha hQ
abbrev CFm (K : PySem.W.Frag) : Addr := He.ga K "Formatter"
abbrev CBf (K : PySem.W.Frag) : Addr := He.ga K "BadFormat"
abbrev CBs (K : PySem.W.Frag) : Addr := He.ga K "BadStyle"
def fmF (z : Str) (t d : Addr) : List (Str × V) := [("fmt", .str z), ("style", .str "{"), ("parts", .ref t), ("defaults", .ref d)]
def tB : RO.Pt → Bool
  | .inl _ => true
  | .inr _ => false
/-! ### what the parts hold -/
def bad (o : Option (List RO.Pt)) (firm : Bool) : Prop := o = none ∨ ∃ ps, o = some ps ∧ firm = true ∧ ((ps.map tB).all id) = true
/-- what is no style -/
inductive OddV (H : Hp) : V → Prop
  | non : OddV H .non
  | int (i : Int) : OddV H (.int i)
  | bl (b : Bool) : OddV H (.bl b)
  | lst {p : Addr} {xs : List V} : H p = some (.lst xs) → OddV H (.ref p)
  | tup {p : Addr} {xs : List V} : H p = some (.tup xs) → OddV H (.ref p)
  | dct {p : Addr} {kvs : List (Key × V)} : H p = some (.dK kvs) → OddV H (.ref p)
  | str {z : Str} : z ≠ "{" → z ≠ "$" → OddV H (.str z)
def spFmInit (K : PySem.W.Frag) : Sp := fun vs H Q E =>
  (∃ (p dx : Addr) (z : Str) (firm : Bool) (o : Option (List RO.Pt)), vs = [.ref p, .str z, .str "{", .bl firm, .non] ∧ H p = some (.ins (CFm K) dx []) ∧ z.length ≤ 1000000 ∧ RO.PB z.cps.toList o ∧
    (∀ (d : Addr) (H1 : Hp), bad o firm → Same H H1 → H1 d = none → E (.ref (CBf K)) (some d) (upd H1 d (.xd [("fmt", .str z)]))) ∧
    (∀ H' : Hp, ¬ bad o firm → (∀ b u, b ≠ p → H b = some u → H' b = some u) → Q .non H')) ∨
  (∃ (p dx : Addr) (y v : V) (firm : Bool), vs = [.ref p, y, v, .bl firm, .non] ∧ H p = some (.ins (CFm K) dx []) ∧ OddV H v ∧ ∀ d : Addr, H d = none → E (.ref (CBs K)) (some d) (upd H d (.xd [("style", v)])))
theorem fm_end {H H' H3 : Hp} {p d : Addr} {o1 o2 o3 o4 : HO} (s1 : Same H H') (s3 : Same (upd H' p o1) H3) (fd : upd H3 p o2 d = none) :
    ∀ b u, b ≠ p → H b = some u → upd (upd (upd H3 p o2) d o3) p o4 b = some u := by
  obtain ⟨fd1, fd2⟩ := upd_none fd
  intro b u h1 h2
  have h3 : H3 b = some u := s3 _ _ (by rw [upd_ne h1]; exact s1 _ _ h2)
  rw [upd_ne h1, upd_ne (ne_of_none h3 fd2), upd_ne h1]; exact h3
theorem ok_badstyle_init {f : Addr} (T : Txt P w K mg) (F : Stands K "__init__" "BadStyle.__init__" s_BadStyle_init [] f) : Callable P w K mg base 1 f ["self", "style"] [] (RQ.spExcInit K "style") := by
  refine F.call0 sc_BadStyle_init (fun vs H Q E h => ?_) (fun cdv A outer s H vs Q E hr h => ?_) (fun _ _ _ _ _ _ us hl => match us, hl with | [_, _], _ => rfl)
  · obtain ⟨a, C, v, rfl, _⟩ := h; rfl
  obtain ⟨a, C, v, rfl, hx, ha, hQ⟩ := h
  refine ⟨_, (pss_one (ps_ost (pv 0) (pv 1))), ?_⟩
  walk_at "in"
  exact RQ.init_rd hx (fun Q h => ⟨_, rfl, h⟩) (fun Q h => ⟨_, rfl, h⟩) ha hQ
theorem ok_fm_init_body {f : Addr} {cdv : Value} {A : Around} {outer : List Env} {s : Shared} {H : Hp} {vs : List V} {Q : VK} {E : XK} (T : Txt P w K mg) (c_parts_of_braces : Callable P w K mg base 4 (He.ga K "parts_of_braces") ["fmt"] [] (spParts K)) (c_joined_texts : Callable P w K mg base 1 (He.ga K "joined_texts") ["parts"] [] (spJoined K)) (c_BadFormat_init : Callable P w K mg base 1 (He.ma K (He.ga K "BadFormat") "__init__") ["self", "fmt"] [] (RQ.spExcInit K "fmt")) (c_BadStyle_init : Callable P w K mg base 1 (He.ma K (He.ga K "BadStyle") "__init__") ["self", "style"] [] (RQ.spExcInit K "style")) (hr : Room 4 (A.deeper (envOfC "Formatter.__init__" (defScope s_Formatter_init) s.heap.objs.size f cdv))) (h : spFmInit K vs H Q E) :
    ∃ t, PSs (cxOf (L2.CX P w) P w K mg base nm_Formatter_init "Formatter.__init__" (defScope s_Formatter_init) f cdv A outer s H E) (defBody s_Formatter_init) t ∧ t { nx := fun _ H' => Q .non H', rt := Q } (L2.start nm_Formatter_init vs) H := by
  refine ⟨_, (pss_cons (ps_if (PW.pt (pw_or (pt_not (pt_val (pe_callB call_isi (by rfl) T.b_isinstance (by decide +kernel) (pa_cons (pv 2) (pa_cons (pe_bltn (v := .ty "str") (u := .type "str") (by rfl) T.b_str (by decide +kernel) rfl) pa_nil))))) (pw_or1 (pt_cmpR (RT.op_notInKD T.t_MESSAGE_ALONE) (pv 2) (pe_glob (v := .ref _) (by rfl) T.g_MESSAGE_ALONE rfl) (by rfl))))) (pss_one (RQ.ps_exc rfl (takes_of rfl rfl rfl rfl) T.x_BadStyle c_BadStyle_init (hr.mono (by first | decide | exact Nat.le_refl _)) T.g_BadStyle (by rfl) (pa_cons (pv 2) pa_nil))) pss_nil)
      (pss_cons (ps_set (i := 5) sc_Formatter_init.nd rfl (by first | exact Or.inl rfl | exact Or.inr rfl) (pe_ifExp (pt_cmpR op_isN (pv 1) pe_non (nomark _)) pe_never (pv 1)))
      (pss_cons (ps_set (i := 6) sc_Formatter_init.nd rfl (by first | exact Or.inl rfl | exact Or.inr rfl) (pe_ifExp (pt_cmpR op_eq (pv 2) pe_str (nomark _)) (pe_fn T.g_parts_of_braces c_parts_of_braces (hr.mono (by first | decide | exact Nat.le_refl _)) (by rfl) (pa_cons (pv 5) pa_nil)) pe_never))
      (pss_cons (ps_if (PW.pt (pw_or (pt_cmpR op_isN (pv 6) pe_non (nomark _)) (pw_or1 (PW.pt (pw_and (pt_val (pv 3)) (pw_and1 (pt_val (pe_callB (cr_all rfl) (by rfl) T.b_all (by decide +kernel) (pa_cons (pe_lc (own := [("part", 7)]) (by rfl) sc_Formatter_init.nd (pi_list (pv 6)) (blkOk_by (own := [("part", 7)]) (N := nm_Formatter_init) (sc := defScope s_Formatter_init) (by decide +kernel)) (fun _ _ _ _ _ => (pg_name (i := 7) sc_Formatter_init.nd rfl (by first | exact Or.inl rfl | exact Or.inr rfl))) (fun _ _ _ _ _ => pts_nil) (fun _ _ _ _ _ => (pe_callB (callK (K := K) rIsi call_isi) (by rfl) T.b_isinstance (by decide +kernel) (pa_cons (pv 7) (pa_cons (pe_bltn (v := .ty "str") (u := .type "str") (by rfl) T.b_str (by decide +kernel) rfl) pa_nil))))) pa_nil))))))))) (pss_one (RQ.ps_exc rfl (takes_of rfl rfl rfl rfl) T.x_BadFormat c_BadFormat_init (hr.mono (by first | decide | exact Nat.le_refl _)) T.g_BadFormat (by rfl) (pa_cons (pv 1) pa_nil))) pss_nil)
      (pss_cons (ps_fld (pv 0) (pv 1) rfl)
      (pss_cons (ps_fld (pv 0) (pv 2) rfl)
      (pss_cons (ps_fld (pv 0) (pe_fn T.g_joined_texts c_joined_texts (hr.mono (by first | decide | exact Nat.le_refl _)) (by rfl) (pa_cons (pv 6) pa_nil)) rfl)
      (pss_one (ps_fld (pv 0) (pe_ifExp (pt_cmpR op_isN (pv 4) pe_non (nomark _)) pe_dnewK pe_never) rfl))))))))), ?_⟩
  have eK : (cxOf (L2.CX P w) P w K mg base nm_Formatter_init "Formatter.__init__" (defScope s_Formatter_init) f cdv A outer s H E).K = K := rfl
  rw [eK]
  clear eK
  walk_at "in"
  rcases h with ⟨p, dx, z, firm, o, rfl, hp, hz, hP, hE, hQ⟩ | ⟨p, dx, y, v, firm, rfl, hp, hv, hE⟩
  rotate_left
  · cases hv with
    | str h1 h2 =>
      have e1 : ∀ z : Str, z ≠ "{" → z ≠ "$" → (!(valV (kv_MESSAGE_ALONE.map fun q => (q.1, He.Dv.v K q.2)) (Sum.inr z : Key)).isSome) = true := fun z k1 k2 => by
        show (!(valV [(Sum.inr (Str.ofString "{"), _), (Sum.inr (Str.ofString "$"), _)] (Sum.inr z : Key)).isSome) = true
        rw [valV_neg (fun e => k1 (Sum.inr.inj e).symm), valV_neg (fun e => k2 (Sum.inr.inj e).symm)]; rfl
      walk_at "go"
      refine iteT' (e1 _ h1 h2) ?_
      walk_at "go"
      intro d fd
      exact hE d fd
    | _ =>
      walk_at "go"
      intro d fd
      exact hE d fd
  walk_at "go"
  refine ⟨fun H' ho s1 => ?_, fun ps vs q H' ho s1 fq hq hv hps => ?_⟩
  · walk_at "go"
    intro d fd
    exact hE d _ (.inl ho) s1 fd
  have hp1 := s1 _ _ hp
  cases firm with
  | false =>
    walk_at "go"
    simp only [upd_upd]
    refine ⟨hps.own hp1, hv, fun t ws H3 s3 ht hw hwl => ?_⟩
    have hp3 := s3 _ _ upd_same
    walk_at "go"
    intro d fd
    walk_at "go"
    exact hQ _ (fun hb => by
      rcases hb with h | ⟨ps2, h1, h2, _⟩
      · rw [ho] at h; cases h
      · cases h2) (fm_end (o3 := .dK []) (o4 := .ins (CFm K) dx (fmF z t d)) s1 s3 fd)
  | true =>
    walk_at "go"
    intro D hD
    refine lc_it walk_list (fun i H2 => Same H' H2 ∧ H2 D = some (.lst (((ps.take i).map tB).map V.bl))) ⟨same_new hD _, upd_same⟩ (fun i H2 _ h => SqL.of (h.1 _ _ hq)) (fun i x H3 H2 hi hP hy => ?_) (fun H2 h2 => ?_)
    · obtain ⟨rfl, hx⟩ := hy
      obtain ⟨g1, g2⟩ := hP
      obtain ⟨y, gy, hpy⟩ := hps.get hx
      have ky := T.kiy_Field_str
      cases y with
      | inl c =>
        obtain rfl : x = .str ⟨#[c]⟩ := hpy
        walk_at "go"
        rw [upd_same, take_snoc gy, List.map_append, List.map_append]; rfl
      | inr n =>
        obtain ⟨q3, dx3, fs3, rfl, g3, l3⟩ := hpy
        have g4 := g1 _ _ g3
        have ty4 := RB.TyC.tyx T.ty_Field T.c_Field g4
        walk_at "go"
        rw [upd_same, take_snoc gy, List.map_append, List.map_append]; rfl
    · obtain ⟨g1, g2⟩ := h2
      rw [List.take_of_length_le (by rw [hps.len]; exact Nat.le_refl _)] at g2
      by_cases hall : ((ps.map tB).all id) = true
      · walk_at "go"
        intro d fd
        exact hE d _ (.inr ⟨ps, ho, rfl, hall⟩) (s1.trans g1) fd
      · replace hall : ((ps.map tB).all id) = false := by
          cases e : (ps.map tB).all id with
          | false => rfl
          | true => exact absurd e hall
        walk_at "go"
        simp only [upd_upd]
        have hp4 := g1 _ _ hp1
        refine ⟨(hps.same g1).own hp4, hv, fun t ws H3 s3 ht hw hwl => ?_⟩
        have hp3 := s3 _ _ upd_same
        walk_at "go"
        intro d fd
        walk_at "go"
        exact hQ _ (fun hb => by
          rcases hb with h | ⟨ps2, h1, _, h2⟩
          · rw [ho] at h; cases h
          · rw [ho] at h1; cases h1; rw [hall] at h2; cases h2) (fm_end (o3 := .dK []) (o4 := .ins (CFm K) dx (fmF z t d)) (s1.trans g1) s3 fd)

end
end K17

set_option Elab.async false
set_option linter.all false
set_option maxRecDepth 100000
set_option maxHeartbeats 0
namespace K17
open PySem PySem.Spec PyProof.Rows L2 RC
section
variable {P : Program} {w : World} {K : PySem.W.Frag} {mg : Str → Option Value} {base : Heap}
theorem ok_fm_init1 {f : Addr} (T : Txt P w K mg) (F : Stands K "__init__" "Formatter.__init__" s_Formatter_init [.non, .str "{", .bl true, .non] f) (c_parts_of_braces : Callable P w K mg base 4 (He.ga K "parts_of_braces") ["fmt"] [] (spParts K)) (c_joined_texts : Callable P w K mg base 1 (He.ga K "joined_texts") ["parts"] [] (spJoined K)) (c_BadFormat_init : Callable P w K mg base 1 (He.ma K (He.ga K "BadFormat") "__init__") ["self", "fmt"] [] (RQ.spExcInit K "fmt")) (c_BadStyle_init : Callable P w K mg base 1 (He.ma K (He.ga K "BadStyle") "__init__") ["self", "style"] [] (RQ.spExcInit K "style")) : RQ.CallX P w K mg base 5 f ["self", "fmt", "style", "validate", "defaults"] [.non] (spFmInit K) := by
  refine RQ.stands_callX F sc_Formatter_init 4 3 (fun vs H Q E h => ?_) (fun cdv A outer s H vs Q E hr h => ?_) (fun z => nomatch z) fun _ => ⟨rfl, fun _ _ _ _ _ _ _ us its hl hi => match us, hl, its, hi with | [_, _, _, _], _, [_, _, _, _], _ => ⟨_, rfl, rfl⟩⟩
  · rcases h with ⟨p, dx, z, firm, o, rfl, _⟩ | ⟨p, dx, y, v, firm, rfl, _⟩ <;> rfl
  · exact ok_fm_init_body T c_parts_of_braces c_joined_texts c_BadFormat_init c_BadStyle_init hr h
theorem ok_fm_init3 {f : Addr} (T : Txt P w K mg) (F : Stands K "__init__" "Formatter.__init__" s_Formatter_init [.non, .str "{", .bl true, .non] f) (c_parts_of_braces : Callable P w K mg base 4 (He.ga K "parts_of_braces") ["fmt"] [] (spParts K)) (c_joined_texts : Callable P w K mg base 1 (He.ga K "joined_texts") ["parts"] [] (spJoined K)) (c_BadFormat_init : Callable P w K mg base 1 (He.ma K (He.ga K "BadFormat") "__init__") ["self", "fmt"] [] (RQ.spExcInit K "fmt")) (c_BadStyle_init : Callable P w K mg base 1 (He.ma K (He.ga K "BadStyle") "__init__") ["self", "style"] [] (RQ.spExcInit K "style")) : RQ.CallX P w K mg base 5 f ["self", "fmt", "style", "validate", "defaults"] [.str "{", .bl true, .non] (spFmInit K) := by
  refine RQ.stands_callX F sc_Formatter_init 2 1 (fun vs H Q E h => ?_) (fun cdv A outer s H vs Q E hr h => ?_) (fun z => nomatch z) fun _ => ⟨rfl, fun _ _ _ _ _ _ _ us its hl hi => match us, hl, its, hi with | [_, _], _, [_, _, _, _], _ => ⟨_, rfl, rfl⟩⟩
  · rcases h with ⟨p, dx, z, firm, o, rfl, _⟩ | ⟨p, dx, y, v, firm, rfl, _⟩ <;> rfl
  · exact ok_fm_init_body T c_parts_of_braces c_joined_texts c_BadFormat_init c_BadStyle_init hr h
end
end K17

set_option Elab.async false
set_option linter.all false
set_option maxRecDepth 100000
set_option maxHeartbeats 0

namespace K17
open PySem PySem.Spec PyProof.Rows L2 RC
section
variable {P : Program} {w : World} {K : PySem.W.Frag} {mg : Str → Option Value} {base : Heap}
/-! ### told how a format is taken -/
theorem made_same {H H1 : Hp} {x dx : Addr} {o1 o2 : HO} (f1 : H x = none) (f2 : H dx = none) (keep : ∀ b u, b ≠ x → upd (upd H dx o1) x o2 b = some u → H1 b = some u) : Same H H1 := fun b u hb => by
  have n1 := ne_of_none hb f1
  refine keep b u n1 ?_
  rw [upd_ne n1, upd_ne (ne_of_none hb f2)]; exact hb
theorem OddV.same {H H' : Hp} (s : Same H H') : ∀ {v : V}, OddV H v → OddV H' v
  | _, .non => .non
  | _, .int i => .int i
  | _, .bl b => .bl b
  | _, .lst h => .lst (s _ _ h)
  | _, .tup h => .tup (s _ _ h)
  | _, .dct h => .dct (s _ _ h)
  | _, .str a b => .str a b
def spTold (K : PySem.W.Frag) : Sp := fun vs H Q _ =>
  (∃ (z : Str) (firm : Bool) (o : Option (List RO.Pt)), vs = [.str z, .str "{", .bl firm] ∧ z.length ≤ 1000000 ∧ RO.PB z.cps.toList o ∧
    (∀ (t : Addr) (H' : Hp), bad o firm → Same H H' → H' t = some (.tup [.str "format", .str z]) → Q (.ref t) H') ∧
    (∀ (t : Addr) (H' : Hp), ¬ bad o firm → Same H H' → H' t = some (.tup [.str "made", .non]) → Q (.ref t) H')) ∨
  (∃ (y v : V) (firm : Bool), vs = [y, v, .bl firm] ∧ OddV H v ∧ ∀ (t : Addr) (H' : Hp), Same H H' → H' t = some (.tup [.str "style", v]) → Q (.ref t) H')
theorem ok_told {f : Addr} (T : Txt P w K mg) (F : Stands K "_law_formatter_told" "_law_formatter_told" s__law_formatter_told [] f) (c_Formatter_init_d1 : RQ.CallX P w K mg base 5 (He.ma K (He.ga K "Formatter") "__init__") ["self", "fmt", "style", "validate", "defaults"] [.non] (spFmInit K)) : Callable P w K mg base 7 f ["_law_form", "_law_sign", "_law_firm"] [] (spTold K) := by
  refine F.call0 sc__law_formatter_told (fun vs H Q E h => ?_) (fun cdv A outer s0 H vs Q E hr h => ?_) (fun _ _ _ _ _ _ us hl => match us, hl with | [_, _, _], _ => rfl)
  · rcases h with ⟨z, firm, o, rfl, _⟩ | ⟨y, v, firm, rfl, _⟩ <;> rfl
  refine ⟨_, (pss_cons (RQ.ps_tryA rfl rfl takes_none5 (fun W pn xe tk _ => (pss_one (ps_expr (RQ.pe_mkX tk T.k_Formatter T.g_Formatter c_Formatter_init_d1 (hr.mono (by first | decide | exact Nat.le_refl _)) (by rfl) (pa_cons (pv 0) (pa_cons (pv 1) (pa_cons (pv 2) pa_nil))))))) (RQ.HdA.named (i := 3) sc__law_formatter_told.nd rfl rfl ⟨by rfl, by decide, .inl T.g_BadFormat⟩ (fun a oe cls dd pn hz hf => (pss_one (ps_ret (pe_tup (pa_cons pe_str (pa_cons (pe_xf T.x_BadFormat.xf T.x_BadFormat.no hz hf (pv 3)) pa_nil)))))) (RQ.HdA.named (i := 3) sc__law_formatter_told.nd rfl rfl ⟨by rfl, by decide, .inl T.g_BadStyle⟩ (fun a oe cls dd pn hz hf => (pss_one (ps_ret (pe_tup (pa_cons pe_str (pa_cons (pe_xf T.x_BadStyle.xf T.x_BadStyle.no hz hf (pv 3)) pa_nil)))))) RQ.HdA.nil)))
      (pss_one (ps_ret (pe_tup (pa_cons pe_str (pa_cons pe_non pa_nil)))))), ?_⟩
  walk_at "in"
  rcases h with ⟨z, firm, o, rfl, hz, hP, hB, hM⟩ | ⟨y, v, firm, rfl, hv, hQ⟩
  · walk_at "go"
    intro x dx f1 f2 f3
    refine .inl ⟨x, dx, z, firm, o, rfl, upd_same, hz, hP, fun d H1 hb s1 fd => ?_, fun H1 hf keep => ?_⟩
    · refine ⟨true, T.e_BadFormat_BadFormat, fun _ a fa => ?_, fun h => nomatch h⟩
      walk_at "go"
      intro p fp
      exact hB p _ hb (((made_same f1 f2 (fun b u _ h => s1 _ _ h)).trans (same_new fd _)).trans (same_new fp _)) upd_same
    · refine ⟨rfl, ?_⟩
      walk_at "go"
      intro p fp
      exact hM p _ hf ((made_same f1 f2 keep).trans (same_new fp _)) upd_same
  · walk_at "go"
    intro x dx f1 f2 f3
    have s1 : Same H (upd (upd H dx (.own x)) x (.ins (CFm K) dx [])) := (same_new f2 (.own x)).trans (same_new (by rw [upd_ne (Ne.symm f3)]; exact f1) _)
    refine .inr ⟨x, dx, y, v, firm, rfl, upd_same, hv.same s1, fun d fd => ?_⟩
    refine ⟨false, (by first | exact T.e_BadStyle_BadFormat | exact T.e_BadFormat_BadStyle), (fun h => nomatch h), fun _ => ⟨true, T.e_BadStyle_BadStyle, fun _ a fa => ?_, fun h => nomatch h⟩⟩
    walk_at "go"
    intro p fp
    exact hQ p _ ((s1.trans (same_new fd _)).trans (same_new fp _)) upd_same
def spAlone (K : PySem.W.Frag) : Sp := fun vs H Q _ => ∃ (z : Str) (o : Option (List RO.Pt)), vs = [.str z, .str "{"] ∧ z.length ≤ 1000000 ∧ RO.PB z.cps.toList o ∧
  (∀ (t : Addr) (H' : Hp), bad o true → Same H H' → H' t = some (.tup [.str "format", .str z]) → Q (.ref t) H') ∧
  (∀ (t : Addr) (H' : Hp), ¬ bad o true → Same H H' → H' t = some (.tup [.str "made", .non]) → Q (.ref t) H')
theorem ok_alone {f : Addr} (T : Txt P w K mg) (F : Stands K "_law_made_alone" "_law_made_alone" s__law_made_alone [] f) (c_Formatter_init_d3 : RQ.CallX P w K mg base 5 (He.ma K (He.ga K "Formatter") "__init__") ["self", "fmt", "style", "validate", "defaults"] [.str "{", .bl true, .non] (spFmInit K)) : Callable P w K mg base 7 f ["_law_form", "_law_sign"] [] (spAlone K) := by
  refine F.call0 sc__law_made_alone (fun vs H Q E h => ?_) (fun cdv A outer s0 H vs Q E hr h => ?_) (fun _ _ _ _ _ _ us hl => match us, hl with | [_, _], _ => rfl)
  · obtain ⟨z, o, rfl, _⟩ := h; rfl
  obtain ⟨z, o, rfl, hz, hP, hB, hM⟩ := h
  refine ⟨_, (pss_cons (RQ.ps_tryA rfl rfl takes_none5 (fun W pn xe tk _ => (pss_one (ps_if (pt_cmpR op_eq (pv 1) pe_str (nomark _)) (pss_one (ps_expr (RQ.pe_mkX tk T.k_Formatter T.g_Formatter c_Formatter_init_d3 (hr.mono (by first | decide | exact Nat.le_refl _)) (by rfl) (pa_cons (pv 0) pa_nil)))) (pss_one (ps_expr pe_never))))) (RQ.HdA.named (i := 2) sc__law_made_alone.nd rfl rfl ⟨by rfl, by decide, .inl T.g_BadFormat⟩ (fun a oe cls dd pn hz hf => (pss_one (ps_ret (pe_tup (pa_cons pe_str (pa_cons (pe_xf T.x_BadFormat.xf T.x_BadFormat.no hz hf (pv 2)) pa_nil)))))) RQ.HdA.nil))
      (pss_one (ps_ret (pe_tup (pa_cons pe_str (pa_cons pe_non pa_nil)))))), ?_⟩
  walk_at "in"
  walk_at "go"
  intro x dx f1 f2 f3
  refine .inl ⟨x, dx, z, true, o, rfl, upd_same, hz, hP, fun d H1 hb s1 fd => ?_, fun H1 hf keep => ?_⟩
  · refine ⟨true, T.e_BadFormat_BadFormat, fun _ a fa => ?_, fun h => nomatch h⟩
    walk_at "go"
    intro p fp
    exact hB p _ hb (((made_same f1 f2 (fun b u _ h => s1 _ _ h)).trans (same_new fd _)).trans (same_new fp _)) upd_same
  · refine ⟨rfl, ?_⟩
    walk_at "go"
    intro p fp
    exact hM p _ hf ((made_same f1 f2 keep).trans (same_new fp _)) upd_same
end
end K17

set_option Elab.async false
set_option linter.all false
set_option maxRecDepth 100000
set_option maxHeartbeats 0

namespace K17
open PySem PySem.Spec PyProof.Rows L2 RC
section
variable {P : Program} {w : World} {K : PySem.W.Frag} {mg : Str → Option Value} {base : Heap}
/-! ### what the law draws -/
theorem stm_new {H : Hp} {s l D : Addr} {n : Nat} (h : Stm H s l n) (hD : H D = none) : D ≠ s ∧ D ≠ l :=
  ⟨fun z => (by obtain ⟨_, _, _, _, _, z1, _⟩ := h; rw [z, z1] at hD; cases hD), fun z => (by obtain ⟨_, _, _, _, _, _, z1, _⟩ := h; rw [z, z1] at hD; cases hD)⟩
theorem old_new {s l D : Addr} {H H' : Hp} {o : HO} (h : Old s l H H') (hD : H D = none) : Old s l H (upd H' D o) := fun b u h1 h2 e => by rw [upd_ne (ne_of_none e hD)]; exact h b u h1 h2 e
theorem _root_.RC.Stm.put {H : Hp} {s l D : Addr} {n : Nat} {o : HO} (h : Stm H s l n) (h1 : D ≠ s) (h2 : D ≠ l) : Stm (upd H D o) s l n := by
  obtain ⟨ne, ns, x, c, d, g1, g2, g3⟩ := h
  exact ⟨ne, ns, x, c, d, by rw [upd_ne (Ne.symm h1)]; exact g1, by rw [upd_ne (Ne.symm h2)]; exact g2, g3⟩
def spPick (K : PySem.W.Frag) : Sp := fun vs H Q _ => ∃ (s l : Addr) (n : Nat) (v : V), vs = [.ref s, v] ∧ Stm H s l n ∧ n ≤ 1000000 ∧
  ((∃ p xs, v = .ref p ∧ p ≠ s ∧ p ≠ l ∧ H p = some (.lst xs) ∧ 1 ≤ xs.length ∧ xs.length ≤ 1000 ∧ ∀ (H' : Hp) (x : V), Old s l H H' → Stm H' s l (n + 1) → x ∈ xs → Q x H') ∨
   (∃ z : Str, v = .str z ∧ 1 ≤ z.length ∧ z.length ≤ 1000 ∧ ∀ (H' : Hp) (c : Nat), Old s l H H' → Stm H' s l (n + 1) → Q (.str ⟨#[c]⟩) H'))
theorem ok_pick {f : Addr} (T : Txt P w K mg) (F : Stands K "_law_pick" "_law_pick" s__law_pick [] f) (c__law_draw : Callable P w K mg base 1 (He.ga K "_law_draw") ["_law_stream", "_law_many"] [] spDraw) : Callable P w K mg base 2 f ["_law_stream", "_law_some"] [] (spPick K) := by
  refine F.call0 sc__law_pick (fun vs H Q E h => ?_) (fun cdv A outer s H vs Q E hr h => ?_) (fun _ _ _ _ _ _ us hl => match us, hl with | [_, _], _ => rfl)
  · obtain ⟨s, l, n, v, rfl, _⟩ := h; rfl
  obtain ⟨s, l, n, v, rfl, hs, hn, hh⟩ := h
  refine ⟨_, (pss_one (ps_ret (RA.PE.or (pe_ix ix_list (pv 1) (pe_fn T.g__law_draw c__law_draw (hr.mono (by first | decide | exact Nat.le_refl _)) (by rfl) (pa_cons (pv 0) (pa_cons (pe_callB call_len (by rfl) T.b_len (by decide +kernel) (pa_cons (pv 1) pa_nil)) pa_nil))) (fun _ _ => rfl)) (pe_ix ix_str (pv 1) (pe_fn T.g__law_draw c__law_draw (hr.mono (by first | decide | exact Nat.le_refl _)) (by rfl) (pa_cons (pv 0) (pa_cons (pe_callB call_len (by rfl) T.b_len (by decide +kernel) (pa_cons (pv 1) pa_nil)) pa_nil))) (fun _ _ => rfl))))), ?_⟩
  rcases hh with ⟨p, xs, rfl, nps, npl, hp, hx1, hx2, hQ⟩ | ⟨z, rfl, hx1, hx2, hQ⟩
  · refine .inl ⟨_, rfl, _, rfl, _, rfl, _, xs.length, rfl, .inl ⟨xs, SqL.of hp, rfl⟩, s, l, n, xs.length, rfl, hs, hn, by omega, by omega, fun H' d h1 h2 h3 h4 => ?_⟩
    obtain ⟨j, rfl⟩ := Int.eq_ofNat_of_zero_le h3
    have hj : j < xs.length := by omega
    refine ⟨p, xs, j, xs[j], rfl, rfl, SqL.of (h1 _ _ nps npl hp), atI_nat (by simp [hj]), ?_⟩
    exact hQ H' _ h1 h2 (List.getElem_mem hj)
  · have hz2 : z.length ≤ sizeLine := by rw [sizeLine_eq]; omega
    have hl : z.cps.toList.length = z.length := Array.length_toList ..
    refine .inr ?_
    walk_at "go"
    refine ⟨⟨hz2, rfl⟩, s, l, n, z.length, rfl, hs, hn, by omega, by omega, fun H' d h1 h2 h3 h4 => ?_⟩
    obtain ⟨j, rfl⟩ := Int.eq_ofNat_of_zero_le h3
    have hj : j < z.cps.toList.length := by omega
    exact ⟨z, _, z.cps.toList[j], rfl, rfl, hz2, atI_nat (by simp [hj]), hQ H' _ h1 h2⟩
theorem join_size (y : Str) : ∀ ps : List Str, (Txt.join y ps).length ≤ (ps.map (·.length)).sum + ps.length * y.length := by
  intro ps
  rw [TL.join_eq, TL.len_tl, TL.tl_join]
  induction ps with
  | nil => exact Nat.zero_le _
  | cons p r ih =>
    cases r with
    | nil => show (TL.tl p).length ≤ _; rw [← TL.len_tl]; simp
    | cons q t =>
      show (TL.tl p ++ (TL.tl y ++ TL.joinL (TL.tl y) ((q :: t).map TL.tl))).length ≤ _
      rw [List.length_append, List.length_append, ← TL.len_tl, ← TL.len_tl]
      simp only [List.map_cons, List.sum_cons, List.length_cons] at ih ⊢
      rw [Nat.succ_mul]
      omega
def spText : Sp := fun vs H Q _ => ∃ (s l : Addr) (n : Nat) (z : Str) (most : Int), vs = [.ref s, .str z, .int most] ∧ Stm H s l n ∧ n ≤ 900000 ∧ 1 ≤ z.length ∧ z.length ≤ 1000 ∧ 0 ≤ most ∧ most ≤ 50 ∧
  ∀ (H' : Hp) (r : Str), Old s l H H' → Stm H' s l (n + 100) → (r.length : Int) ≤ most → Q (.str r) H'
theorem ok_text {f : Addr} (T : Txt P w K mg) (F : Stands K "_law_text" "_law_text" s__law_text [] f) (c__law_draw : Callable P w K mg base 1 (He.ga K "_law_draw") ["_law_stream", "_law_many"] [] spDraw)
    (c__law_pick : Callable P w K mg base 2 (He.ga K "_law_pick") ["_law_stream", "_law_some"] [] (spPick K)) : Callable P w K mg base 3 f ["_law_stream", "_law_signs", "_law_most"] [] spText := by
  refine F.call0 sc__law_text (fun vs H Q E h => ?_) (fun cdv A outer s0 H vs Q E hr h => ?_) (fun _ _ _ _ _ _ us hl => match us, hl with | [_, _, _], _ => rfl)
  · obtain ⟨s, l, n, z, most, rfl, _⟩ := h; rfl
  obtain ⟨s, l, n, z, most, rfl, hs, hn, hz1, hz2, hm1, hm2, hQ⟩ := h
  refine ⟨_, (pss_one (ps_ret (pe_join pe_str (pe_lc (own := [("_law_k", 3)]) (by rfl) sc__law_text.nd (pi_range1 (by rfl) T.b_range (pa_cons (pe_fn T.g__law_draw c__law_draw (hr.mono (by first | decide | exact Nat.le_refl _)) (by rfl) (pa_cons (pv 0) (pa_cons (pe_op op_add (pv 2) pe_int) pa_nil))) pa_nil)) (blkOk_by (own := [("_law_k", 3)]) (N := nm__law_text) (sc := defScope s__law_text) (by decide +kernel)) (fun _ _ _ _ _ => (pg_name (i := 3) sc__law_text.nd rfl (by first | exact Or.inl rfl | exact Or.inr rfl))) (fun _ _ _ _ _ => pts_nil) (fun _ _ _ _ _ => (pe_fn T.g__law_pick c__law_pick (hr.mono (by first | decide | exact Nat.le_refl _)) (by rfl) (pa_cons (pv 0) (pa_cons (pv 1) pa_nil)))))))), ?_⟩
  have eK : (cxOf CX0 P w K mg base nm__law_text "_law_text" (defScope s__law_text) f cdv A outer s0 H E).nox.K = K := rfl
  rw [eK]
  clear eK
  refine ⟨⟨_, rfl⟩, _, rfl, _, rfl, _, _, rfl, rfl, s, l, n, most + 1, rfl, hs, by omega, by omega, by omega, fun H1 d h1 h2 h3 h4 => ?_⟩
  obtain ⟨k, rfl⟩ := Int.eq_ofNat_of_zero_le h3
  refine ⟨(k : Int), rfl, by omega, by omega, fun D hD => ?_⟩
  obtain ⟨nDs, nDl⟩ := stm_new h2 hD
  have en : ((k : Nat) : Int).toNat = k := rfl
  refine lc_it (n := k) walk_range (fun i H' => Old s l H1 H' ∧ Stm H' s l (n + 1 + i) ∧ ∃ ps : List Str, ps.length = i ∧ (ps.map (·.length)).sum = i ∧ H' D = some (.lst (ps.map V.str))) ⟨Old.of_same (same_new hD _), h2.same (same_new hD _), [], rfl, rfl, upd_same⟩ (fun _ _ _ _ => trivial) (fun i x H2 H3 hi hp hy => ?_) (fun H2 h => ?_)
  · obtain ⟨rfl, rfl⟩ := hy
    obtain ⟨g1, g2, ps, g3, g4, g5⟩ := hp
    refine ⟨rfl, yes_if ?_⟩
    refine ⟨_, rfl, _, rfl, s, l, n + 1 + i, _, rfl, g2, by omega, .inr ⟨z, rfl, hz1, hz2, fun H4 c k1 k2 => ?_⟩⟩
    have gD := k1 _ _ nDs nDl g5
    refine ⟨_, gD, by rw [List.length_map, sizeLine_eq]; omega, ?_, ?_, ps ++ [⟨#[c]⟩], by simp [g3], ?_, by rw [upd_same, List.map_append]; rfl⟩
    · exact old_new (g1.trans k1) hD
    · exact k2.put nDs nDl
    · rw [List.map_append, List.sum_append, g4]; rfl
  · obtain ⟨g1, g2, ps, g3, g4, g5⟩ := h
    have hz0 : (("" : Str)).length = 0 := rfl
    refine ⟨"", D, ps, rfl, rfl, .inl (SqL.of g5), by rw [g4, hz0]; omega, hQ _ _ (h1.trans g1) (g2.mono (by omega)) ?_⟩
    have := join_size "" ps
    rw [g4, hz0] at this
    omega
end
end K17

set_option Elab.async false
set_option linter.all false
set_option maxRecDepth 100000
set_option maxHeartbeats 0

namespace K17
open PySem PySem.Spec PyProof.Rows L2 RC
section
variable {P : Program} {w : World} {K : PySem.W.Frag} {mg : Str → Option Value} {base : Heap}
/-! ### same, of texts and tuples -/
theorem walkZT {K : PySem.W.Frag} {a b : Addr} {xs ys : List V} (e : xs.length = ys.length) : Walk (RZ.ItzT K a b) xs.length (fun H => SqT K H a xs ∧ SqT K H b ys) (YPair (fun i => xs[i]?) (fun i => ys[i]?)) := by
  constructor
  · intro j _ hj ⟨ea, eb⟩
    have hj2 : j < ys.length := e ▸ hj
    exact ⟨xs, ys, _, _, ea, eb, List.getElem?_eq_getElem hj, List.getElem?_eq_getElem hj2⟩
  · intro _ ⟨ea, eb⟩
    exact ⟨xs, ys, ea, eb, Or.inl (Nat.le_refl _)⟩
  · intro j _ _ _ _ ⟨ea, eb⟩ ⟨T, x, z, k1, k2, k3, k4, k5⟩
    exact ⟨T, x, z, k1, k2, k3, k4 _ ea, k5 _ eb⟩
theorem walkZL {K : PySem.W.Frag} {a b : Addr} {xs ys : List V} (e : xs.length = ys.length) : Walk (Itz K a b) xs.length (fun H => SqL K H a xs ∧ SqL K H b ys) (YPair (fun i => xs[i]?) (fun i => ys[i]?)) := by
  constructor
  · intro j _ hj ⟨ea, eb⟩
    have hj2 : j < ys.length := e ▸ hj
    exact ⟨xs, ys, _, _, ea, eb, List.getElem?_eq_getElem hj, List.getElem?_eq_getElem hj2⟩
  · intro _ ⟨ea, eb⟩
    exact ⟨xs, ys, ea, eb, Or.inl (Nat.le_refl _)⟩
  · intro j _ _ _ _ ⟨ea, eb⟩ ⟨T, x, z, k1, k2, k3, k4, k5⟩
    exact ⟨T, x, z, k1, k2, k3, k4 _ ea, k5 _ eb⟩
/-- what is the same, up to n deep -/
inductive SameD (H : Hp) : Nat → V → V → Prop where
  | str (n : Nat) (x : Str) : SameD H (n + 1) (.str x) (.str x)
  | non (n : Nat) : SameD H (n + 1) .non .non
  | int (n : Nat) (i : Int) : SameD H (n + 1) (.int i) (.int i)
  | bl (n : Nat) (b : Bool) : SameD H (n + 1) (.bl b) (.bl b)
  | tup {n : Nat} {a b : Addr} {xs ys : List V} (ha : H a = some (.tup xs)) (hb : H b = some (.tup ys)) (hl : xs.length = ys.length) (hs : xs.length ≤ 1000000) (h : ∀ (i : Nat) (x y : V), xs[i]? = some x → ys[i]? = some y → SameD H n x y) : SameD H (n + 1) (.ref a) (.ref b)
  | lst {n : Nat} {a b : Addr} {xs ys : List V} (ha : H a = some (.lst xs)) (hb : H b = some (.lst ys)) (hl : xs.length = ys.length) (hs : xs.length ≤ 1000000) (h : ∀ (i : Nat) (x y : V), xs[i]? = some x → ys[i]? = some y → SameD H n x y) : SameD H (n + 1) (.ref a) (.ref b)
  | dct {n : Nat} {a : Addr} {v : Int} (ha : H a = some (.dK [(Sum.inr (Str.ofString "{"), .int v)])) : SameD H (n + 2) (.ref a) (.ref a)
theorem SameD.same {H H' : Hp} (s : Same H H') : ∀ {n : Nat} {x y : V}, SameD H n x y → SameD H' n x y
  | _, _, _, .str n x => .str n x
  | _, _, _, .non n => .non n
  | _, _, _, .int n i => .int n i
  | _, _, _, .bl n b => .bl n b
  | _, _, _, .tup ha hb hl hs h => .tup (s _ _ ha) (s _ _ hb) hl hs fun i x y hx hy => (h i x y hx hy).same s
  | _, _, _, .lst ha hb hl hs h => .lst (s _ _ ha) (s _ _ hb) hl hs fun i x y hx hy => (h i x y hx hy).same s
  | _, _, _, .dct ha => .dct (s _ _ ha)
def spSame (n : Nat) : Sp := fun vs H Q _ => ∃ x y : V, vs = [x, y] ∧ SameD H n x y ∧ ∀ H', Same H H' → Q (.bl true) H'
theorem ok_same {f : Addr} (T : Txt P w K mg) (F : Stands K "_law_same" "_law_same" s__law_same [] f) (e : f = He.ga K "_law_same") : ∀ n : Nat, Callable P w K mg base (n + 1) f ["_law_found", "_law_due"] [] (spSame n)
  | 0 => by
    refine F.call0 sc__law_same (fun vs H Q E h => ?_) (fun cdv A outer s H vs Q E hr h => ?_) (fun _ _ _ _ _ _ us hl => match us, hl with | [_, _], _ => rfl)
    · obtain ⟨x, y, rfl, _⟩ := h; rfl
    · obtain ⟨x, y, rfl, h, _⟩ := h; cases h
  | n + 1 => by
    have c__law_same := ok_same T F e n
    rw [e] at c__law_same
    refine F.call0 sc__law_same (fun vs H Q E h => ?_) (fun cdv A outer s H vs Q E hr h => ?_) (fun _ _ _ _ _ _ us hl => match us, hl with | [_, _], _ => rfl)
    · obtain ⟨x, y, rfl, _⟩ := h; rfl
    obtain ⟨x, y, rfl, h, hQ⟩ := h
    refine ⟨_, (pss_cons (ps_if (pt_val (pe_callB call_isi (by rfl) T.b_isinstance (by decide +kernel) (pa_cons (pv 1) (pa_cons (pe_bltn (v := .ty "dict") (u := .type "dict") (by rfl) T.b_dict (by decide +kernel) rfl) pa_nil)))) (pss_cons (ps_if (PW.pt (pw_or (pt_not (pt_val (pe_callB call_isi (by rfl) T.b_isinstance (by decide +kernel) (pa_cons (pv 0) (pa_cons (pe_bltn (v := .ty "dict") (u := .type "dict") (by rfl) T.b_dict (by decide +kernel) rfl) pa_nil))))) (pw_or1 (pt_cmpR (op_neD hr.units) (pe_callB cr_sortedS (by rfl) T.b_sorted (by decide +kernel) (pa_cons (pe_callTy (call_list_dK rfl) (by rfl) T.b_list (by decide +kernel) (pa_cons (pv 0) pa_nil)) pa_nil)) (pe_callB cr_sortedS (by rfl) T.b_sorted (by decide +kernel) (pa_cons (pe_callTy (call_list_dK rfl) (by rfl) T.b_list (by decide +kernel) (pa_cons (pv 1) pa_nil)) pa_nil)) (nomark _))))) (pss_one (ps_ret pe_bl)) pss_nil)
      (pss_one (ps_ret (pe_callB (cr_all rfl) (by rfl) T.b_all (by decide +kernel) (pa_cons (pe_lock (pe_lc (own := [("_law_key", 2)]) (by rfl) sc__law_same.nd (pi_keys (pv 1)) (blkOk_by (own := [("_law_key", 2)]) (N := nm__law_same) (sc := defScope s__law_same) (by decide +kernel)) (fun _ _ _ _ _ => (pg_name (i := 2) sc__law_same.nd rfl (by first | exact Or.inl rfl | exact Or.inr rfl))) (fun _ _ _ _ _ => pts_nil) (fun _ _ _ _ _ => (pe_fn T.g__law_same c__law_same (hr.mono (by first | decide | exact Nat.le_refl _)) (by rfl) (pa_cons (pe_dget (hu_of hr) (pv 0) (pv 2) (fun _ _ => rfl)) (pa_cons (pe_dget (hu_of hr) (pv 1) (pv 2) (fun _ _ => rfl)) pa_nil)))))) pa_nil))))) pss_nil)
      (pss_cons (ps_if (pt_val (pe_callB call_isiT (by rfl) T.b_isinstance (by decide +kernel) (pa_cons (pv 1) (pa_cons (pe_tup (pa_cons (pe_bltn (v := .ty "list") (u := .type "list") (by rfl) T.b_list (by decide +kernel) rfl) (pa_cons (pe_bltn (v := .ty "tuple") (u := .type "tuple") (by rfl) T.b_tuple (by decide +kernel) rfl) pa_nil))) pa_nil)))) (pss_cons (ps_if (PW.pt (pw_or (pt_cmpR op_ne (pe_callB call_isi (by rfl) T.b_isinstance (by decide +kernel) (pa_cons (pv 0) (pa_cons (pe_bltn (v := .ty "list") (u := .type "list") (by rfl) T.b_list (by decide +kernel) rfl) pa_nil))) (pe_callB call_isi (by rfl) T.b_isinstance (by decide +kernel) (pa_cons (pv 1) (pa_cons (pe_bltn (v := .ty "list") (u := .type "list") (by rfl) T.b_list (by decide +kernel) rfl) pa_nil))) (nomark _)) (pw_or1 (pt_cmpR op_ne (pe_callB call_isi (by rfl) T.b_isinstance (by decide +kernel) (pa_cons (pv 0) (pa_cons (pe_bltn (v := .ty "tuple") (u := .type "tuple") (by rfl) T.b_tuple (by decide +kernel) rfl) pa_nil))) (pe_callB call_isi (by rfl) T.b_isinstance (by decide +kernel) (pa_cons (pv 1) (pa_cons (pe_bltn (v := .ty "tuple") (u := .type "tuple") (by rfl) T.b_tuple (by decide +kernel) rfl) pa_nil))) (nomark _))))) (pss_one (ps_ret pe_bl)) pss_nil)
      (pss_one (ps_ret (pe_and (pe_cmpR op_eq (pe_callB call_len (by rfl) T.b_len (by decide +kernel) (pa_cons (pv 0) pa_nil)) (pe_callB call_len (by rfl) T.b_len (by decide +kernel) (pa_cons (pv 1) pa_nil)) (nomark _)) (pe_one (pe_callB (cr_all rfl) (by rfl) T.b_all (by decide +kernel) (pa_cons (pe_lc (own := [("_law_one", 3), ("_law_other", 4)]) (by rfl) sc__law_same.nd (RZ.pi_zipA (by rfl) T.b_zip (pa_cons (pv 0) (pa_cons (pv 1) pa_nil))) (blkOk_by (own := [("_law_one", 3), ("_law_other", 4)]) (N := nm__law_same) (sc := defScope s__law_same) (by decide +kernel)) (fun _ _ _ _ _ => (RG.pg_tupK (K := K) (n := 2) (by rfl) (pgs_cons (pg_name (i := 3) sc__law_same.nd rfl (by first | exact Or.inl rfl | exact Or.inr rfl)) (pgs_cons (pg_name (i := 4) sc__law_same.nd rfl (by first | exact Or.inl rfl | exact Or.inr rfl)) pgs_nil)))) (fun _ _ _ _ _ => pts_nil) (fun _ _ _ _ _ => (pe_fn T.g__law_same c__law_same (hr.mono (by first | decide | exact Nat.le_refl _)) (by rfl) (pa_cons (pv 3) (pa_cons (pv 4) pa_nil))))) pa_nil))))))) pss_nil)
      (pss_cons (ps_if (pt_val (pe_callB call_isi (by rfl) T.b_isinstance (by decide +kernel) (pa_cons (pv 1) (pa_cons (pe_bltn (v := .ty "int") (u := .type "int") (by rfl) T.b_int (by decide +kernel) rfl) pa_nil)))) (pss_one (ps_ret (pe_and (pe_callB call_isi (by rfl) T.b_isinstance (by decide +kernel) (pa_cons (pv 0) (pa_cons (pe_bltn (v := .ty "int") (u := .type "int") (by rfl) T.b_int (by decide +kernel) rfl) pa_nil))) (pe_and (pe_cmpR op_eq (pe_callB call_isi (by rfl) T.b_isinstance (by decide +kernel) (pa_cons (pv 0) (pa_cons (pe_bltn (v := .ty "bool") (u := .type "bool") (by rfl) T.b_bool (by decide +kernel) rfl) pa_nil))) (pe_callB call_isi (by rfl) T.b_isinstance (by decide +kernel) (pa_cons (pv 1) (pa_cons (pe_bltn (v := .ty "bool") (u := .type "bool") (by rfl) T.b_bool (by decide +kernel) rfl) pa_nil))) (nomark _)) (pe_one (pe_cmpR op_eq (pv 0) (pv 1) (nomark _))))))) pss_nil)
      (pss_one (ps_ret (pe_and (pe_cmpR op_eq (pv 0) (pv 1) (nomark _)) (pe_one (pe_not (pe_callB call_isiT (by rfl) T.b_isinstance (by decide +kernel) (pa_cons (pv 0) (pa_cons (pe_tup (pa_cons (pe_bltn (v := .ty "int") (u := .type "int") (by rfl) T.b_int (by decide +kernel) rfl) (pa_cons (pe_bltn (v := .ty "list") (u := .type "list") (by rfl) T.b_list (by decide +kernel) rfl) (pa_cons (pe_bltn (v := .ty "tuple") (u := .type "tuple") (by rfl) T.b_tuple (by decide +kernel) rfl) (pa_cons (pe_bltn (v := .ty "dict") (u := .type "dict") (by rfl) T.b_dict (by decide +kernel) rfl) pa_nil))))) pa_nil))))))))))), ?_⟩
    walk_at "in"
    cases h with
    | str _ x =>
      walk_at "gi"
      refine iteT' (decide_eq_true rfl) ?_
      walk_at "gi"
      exact hQ _ (by walk_at "sm")
    | non =>
      walk_at "gi"
      exact hQ _ (by walk_at "sm")
    | int _ i =>
      walk_at "gi"
      rw [show decide (V.int i = V.int i) = true from decide_eq_true rfl]
      exact hQ _ (by walk_at "sm")
    | bl _ i =>
      walk_at "gi"
      rw [show decide (V.bl i = V.bl i) = true from decide_eq_true rfl]
      exact hQ _ (by walk_at "sm")
    | @tup _ a b xs ys ha hb hl hs h =>
      walk_at "gi"
      have el : decide (V.int xs.length = V.int ys.length) = true := by rw [hl]; exact decide_eq_true rfl
      walk_at "gi"
      rename_i T0 fT0
      have s0 : Same H (upd H T0 (.tup [.ty "list", .ty "tuple"])) := same_new fT0 _
      generalize upd H T0 (.tup [.ty "list", .ty "tuple"]) = H1 at s0 ⊢
      refine .inr ⟨SqT.of (s0 _ _ ha), SqT.of (s0 _ _ hb), fun D fD' => ?_⟩
      refine lc_it (walkZT (xs := xs) (ys := ys) hl) (fun i H' => Same H1 H' ∧ H' D = some (.lst ((List.replicate i true).map V.bl))) ⟨same_new fD' _, upd_same⟩ (fun i H' _ h => ⟨SqT.of (h.1 _ _ (s0 _ _ ha)), SqT.of (h.1 _ _ (s0 _ _ hb))⟩) (fun i v H2 H3 hi hP hv => ?_) (fun H2 hP => ?_)
      · obtain ⟨T, x, y, rfl, fT, rfl, hx, hy⟩ := hv
        obtain ⟨s2, d2⟩ := hP
        have s23 : Same H1 (upd H2 T (.tup [x, y])) := s2.trans (same_new fT _)
        have hd := (h i x y hx hy).same (s0.trans s23)
        have d3 : upd H2 T (.tup [x, y]) D = some (.lst ((List.replicate i true).map V.bl)) := same_new fT _ _ _ d2
        have q3 : upd H2 T (.tup [x, y]) T = some (.tup [x, y]) := upd_same
        clear fT
        generalize upd H2 T (.tup [x, y]) = H3 at hd d3 q3 s23
        walk_at "go"
        intro H4 s4
        walk_at "go"
        rw [upd_same, List.replicate_succ', List.map_append]; rfl
      · obtain ⟨s2, d2⟩ := hP
        refine ⟨D, List.replicate xs.length true, rfl, SqL.of d2, ?_⟩
        rw [show (List.replicate xs.length true).all id = true from by simp]
        exact hQ _ (s0.trans s2)
    | @lst _ a b xs ys ha hb hl hs h =>
      walk_at "gi"
      have el : decide (V.int xs.length = V.int ys.length) = true := by rw [hl]; exact decide_eq_true rfl
      walk_at "gi"
      rename_i T0 fT0
      have s0 : Same H (upd H T0 (.tup [.ty "list", .ty "tuple"])) := same_new fT0 _
      generalize upd H T0 (.tup [.ty "list", .ty "tuple"]) = H1 at s0 ⊢
      refine .inl ⟨SqL.of (s0 _ _ ha), SqL.of (s0 _ _ hb), fun D fD' => ?_⟩
      refine lc_it (walkZL (xs := xs) (ys := ys) hl) (fun i H' => Same H1 H' ∧ H' D = some (.lst ((List.replicate i true).map V.bl))) ⟨same_new fD' _, upd_same⟩ (fun i H' _ h => ⟨SqL.of (h.1 _ _ (s0 _ _ ha)), SqL.of (h.1 _ _ (s0 _ _ hb))⟩) (fun i v H2 H3 hi hP hv => ?_) (fun H2 hP => ?_)
      · obtain ⟨T, x, y, rfl, fT, rfl, hx, hy⟩ := hv
        obtain ⟨s2, d2⟩ := hP
        have s23 : Same H1 (upd H2 T (.tup [x, y])) := s2.trans (same_new fT _)
        have hd := (h i x y hx hy).same (s0.trans s23)
        have d3 : upd H2 T (.tup [x, y]) D = some (.lst ((List.replicate i true).map V.bl)) := same_new fT _ _ _ d2
        have q3 : upd H2 T (.tup [x, y]) T = some (.tup [x, y]) := upd_same
        clear fT
        generalize upd H2 T (.tup [x, y]) = H3 at hd d3 q3 s23
        walk_at "go"
        intro H4 s4
        walk_at "go"
        rw [upd_same, List.replicate_succ', List.map_append]; rfl
      · obtain ⟨s2, d2⟩ := hP
        refine ⟨D, List.replicate xs.length true, rfl, SqL.of d2, ?_⟩
        rw [show (List.replicate xs.length true).all id = true from by simp]
        exact hQ _ (s0.trans s2)
    | @dct n2 a v ha =>
      walk_at "gi"
      rotate_left
      · exact [Str.ofString "{"]
      rename_i q fq
      refine ⟨SqL.of upd_same, by decide, fun ys p1 hp1 _ fp1 => ?_⟩
      obtain rfl : ys = [Str.ofString "{"] := List.perm_singleton.mp hp1
      have s1 := (same_new fq (.lst (List.map (fun kv => kV kv.fst) [((Sum.inr (Str.ofString "{") : Key), V.int v)]))).trans (same_new fp1 (.lst (List.map V.str [Str.ofString "{"])))
      have hp1' := upd_same (H := upd H q (.lst (List.map (fun kv => kV kv.fst) [((Sum.inr (Str.ofString "{") : Key), V.int v)]))) (a := p1) (o := .lst (List.map V.str [Str.ofString "{"]))
      generalize upd (upd H q (.lst (List.map (fun kv => kV kv.fst) [((Sum.inr (Str.ofString "{") : Key), V.int v)]))) p1 (.lst (List.map V.str [Str.ofString "{"])) = H1 at s1 hp1' ⊢
      have ha1 := s1 _ _ ha
      clear fq fp1 hp1
      walk_at "gi"
      rotate_left
      · exact [Str.ofString "{"]
      rename_i q2 fq2
      refine ⟨SqL.of upd_same, by decide, fun ys p2 hp2 _ fp2 => ?_⟩
      obtain rfl : ys = [Str.ofString "{"] := List.perm_singleton.mp hp2
      have s2 := (same_new fq2 (.lst (List.map (fun kv => kV kv.fst) [((Sum.inr (Str.ofString "{") : Key), V.int v)]))).trans (same_new fp2 (.lst (List.map V.str [Str.ofString "{"])))
      have hp2' := upd_same (H := upd H1 q2 (.lst (List.map (fun kv => kV kv.fst) [((Sum.inr (Str.ofString "{") : Key), V.int v)]))) (a := p2) (o := .lst (List.map V.str [Str.ofString "{"]))
      generalize upd (upd H1 q2 (.lst (List.map (fun kv => kV kv.fst) [((Sum.inr (Str.ofString "{") : Key), V.int v)]))) p2 (.lst (List.map V.str [Str.ofString "{"])) = H2 at s2 hp2' ⊢
      have hp12 := s2 _ _ hp1'
      have s02 := s1.trans s2
      have ha2 := s02 _ _ ha
      clear fq2 fp2 hp2 ha1
      refine ⟨_, _, Dp.lst (SqL.of hp12) (.cons (.str _) .nil), Dp.lst (SqL.of hp2') (.cons (.str _) .nil), by decide +kernel, by decide +kernel, _, rfl, ?_⟩
      refine iteF' (by decide +kernel) ?_
      refine ⟨a, _, ha2, trivial, fun od => ?_⟩
      have hF := upd_same (H := H2) (a := a) (o := .frz od (.dK [((Sum.inr (Str.ofString "{") : Key), V.int v)]))
      refine ⟨_, rfl, a, od, rfl, .inl ⟨_, hF, fun D hD => ?_⟩⟩
      refine lc_it walk_keys (fun i H' => Same (upd H2 a (.frz od (.dK [((Sum.inr (Str.ofString "{") : Key), V.int v)]))) H' ∧ H' D = some (.lst ((List.replicate i true).map V.bl))) ⟨same_new hD _, upd_same⟩ (fun i H' _ h => h.1 _ _ hF) (fun i x H3 H4 hi hP hx => ?_) (fun H3 hP => ?_)
      · obtain ⟨rfl, kx, vx, hx, rfl⟩ := hx
        obtain ⟨s4, d4⟩ := hP
        have hF4 := s4 _ _ hF
        have i0 : i = 0 := by
          have : i < 1 := hi
          omega
        subst i0
        cases hx
        have g1 : DGet H4 a (.str "{") (some (.int v)) := RW.dget_sF hF4 (valV_pos rfl)
        refine ⟨rfl, yes_if ?_⟩
        refine ⟨_, rfl, _, rfl, a, _, rfl, g1, _, rfl, _, rfl, a, _, rfl, g1, ?_⟩
        refine ⟨_, _, rfl, .int n2 v, fun H5 s5 => ?_⟩
        refine ⟨_, s5 _ _ d4, by decide, fun b o hb => ?_, by rw [upd_same]; rfl⟩
        rw [upd_ne (ne_of_none hb hD)]; exact (s4.trans s5) _ _ hb
      · obtain ⟨s4, d4⟩ := hP
        have nDa : D ≠ a := (upd_none hD).1
        refine ⟨s4 _ _ hF, D, List.replicate 1 true, rfl, SqL.of (by rw [upd_ne nDa]; exact d4), ?_⟩
        rw [show (List.replicate 1 true).all id = true from rfl]
        refine hQ _ fun b o hb => ?_
        by_cases c : b = a
        · subst c; rw [upd_same, ← hb]; exact ha.symm
        · rw [upd_ne c]; exact s4 _ _ (by rw [upd_ne c]; exact s02 _ _ hb)
end
end K17

set_option Elab.async false
set_option linter.all false
set_option maxRecDepth 100000
set_option maxHeartbeats 0

namespace K17
open PySem PySem.Spec PyProof.Rows L2 RC
section
variable {P : Program} {w : World} {K : PySem.W.Frag} {mg : Str → Option Value} {base : Heap}
/-! ### a field, written -/
theorem tx_app (a b : List Nat) : tx a ++ tx b = tx (a ++ b) := by
  have : (tx a ++ tx b).cps.toList = a ++ b := TL.tl_append (tx a) (tx b)
  rw [← this]
def spBracedText : Sp := fun vs H Q _ => ∃ t : List Nat, vs = [.str (tx t)] ∧ t.length ≤ 1000 ∧ Q (.str (tx (RO.escB t))) H
theorem ok_braced_text {f : Addr} (T : Txt P w K mg) (F : Stands K "_law_braced_text" "_law_braced_text" s__law_braced_text [] f) : Callable P w K mg base 1 f ["_law_shown"] [] spBracedText := by
  refine RT.call0T F sc__law_braced_text (by decide) (by decide) (fun vs H Q E h => ?_) (fun cdv A outer s0 H vs Q E hr h => ?_) (fun _ _ _ _ _ _ us hl => match us, hl with | [_], _ => rfl)
  · obtain ⟨t, rfl, _⟩ := h; rfl
  obtain ⟨t, rfl, ht, hQ⟩ := h
  refine ⟨_, (CwR.psst_one (CwR.pst_ret (CwR.pet_replT (CwR.pet_replC (pv 0))))), ?_⟩
  walk_at "in"
  have o2 : (Str.ofString "{{").length = 2 := by decide +kernel
  have c2 : (Str.ofString "}}").length = 2 := by decide +kernel
  have tl : (tx t).length = t.length := tx_len t
  have e0 : (Txt.replace (tx t) (Str.ofString "{") (Str.ofString "{{")).length ≤ t.length + (t.length + 1) * 2 := by
    have := TK.replace_len (tx t) (Str.ofString "{") (Str.ofString "{{")
    rw [o2, tl] at this
    exact this
  have eE : Txt.replace (Txt.replace (tx t) (Str.ofString "{") (Str.ofString "{{")) (Str.ofString "}") (Str.ofString "}}") = tx (RO.escB t) := RJ.rep_escB t
  rw [← eE] at hQ
  refine ⟨_, rfl, _, rfl, ?_, _, rfl, ?_, hQ⟩
  · rw [o2, tl]; omega
  · rw [c2]; omega
theorem wid_cases {w : Int} {ws : List Nat} (h : (w, ws) ∈ RJ.widS) : (w = 0 ∧ ws = []) ∨ (0 < w ∧ w.natAbs.log2 < 1920 ∧ Str.ofString (toString w) = tx ws) := by
  simp only [RJ.widS, List.mem_cons, List.not_mem_nil, or_false, Prod.mk.injEq] at h
  rcases h with ⟨rfl, rfl⟩ | ⟨rfl, rfl⟩ | ⟨rfl, rfl⟩ | ⟨rfl, rfl⟩ | ⟨rfl, rfl⟩ | ⟨rfl, rfl⟩ | ⟨rfl, rfl⟩ | ⟨rfl, rfl⟩
  · exact .inl ⟨rfl, rfl⟩
  all_goals exact .inr ⟨by decide, by decide +kernel, by decide +kernel⟩
theorem keys_len : ∀ k ∈ RJ.keysS, k.length ≤ 7 := by decide
theorem signs_len : ∀ k ∈ RJ.signsS, k.length ≤ 1 := by decide
theorem fa_len : ∀ p ∈ RJ.faS, p.1.length ≤ 1 ∧ p.2.length ≤ 1 := by decide +kernel
theorem wid_len : ∀ p ∈ RJ.widS, p.2.length ≤ 2 := by decide
theorem add_le {a b : List Nat} (h : a.length + b.length ≤ 1000) : (tx a).length + (tx b).length ≤ sizeLine := by
  rw [tx_len, tx_len, sizeLine_eq]; omega
theorem add_tx {a b : List Nat} {H : Hp} {Q : VK} (h : a.length + b.length ≤ 1000) (q : Q (.str (tx (a ++ b))) H) : ∃ i j, V.str (tx a) = V.str i ∧ V.str (tx b) = V.str j ∧ i.length + j.length ≤ sizeLine ∧ Q (.str (i ++ j)) H :=
  ⟨tx a, tx b, rfl, rfl, add_le h, by rw [tx_app]; exact q⟩
def spBraced : Sp := fun vs H Q _ => ∃ (p : Addr) (k g f a ws : List Nat) (w : Int), vs = [.ref p] ∧ H p = some (.tup [.str (tx k), .str (tx g), .str (tx f), .str (tx a), .int w]) ∧ k ∈ RJ.keysS ∧ g ∈ RJ.signsS ∧ (f, a) ∈ RJ.faS ∧ (w, ws) ∈ RJ.widS ∧ Q (.str (tx (123 :: (RJ.bodyB k g f a ws ++ [125])))) H
theorem ok_braced {f : Addr} (T : Txt P w K mg) (F : Stands K "_law_braced" "_law_braced" s__law_braced [] f) : Callable P w K mg base 1 f ["_law_field_here"] [] spBraced := by
  refine F.call0 sc__law_braced (fun vs H Q E h => ?_) (fun cdv A outer s0 H vs Q E hr h => ?_) (fun _ _ _ _ _ _ us hl => match us, hl with | [_], _ => rfl)
  · obtain ⟨p, k, g, f, a, ws, w, rfl, _⟩ := h; rfl
  obtain ⟨p, k, g, f, a, ws, w, rfl, hp, h1, h2, h3, h4, hQ⟩ := h
  refine ⟨_, (pss_cons (ps_asg (pv 0) (RG.pg_tupK (K := K) (n := 5) (by rfl) (pgs_cons (pg_name (i := 1) sc__law_braced.nd rfl (by first | exact Or.inl rfl | exact Or.inr rfl)) (pgs_cons (pg_name (i := 2) sc__law_braced.nd rfl (by first | exact Or.inl rfl | exact Or.inr rfl)) (pgs_cons (pg_name (i := 3) sc__law_braced.nd rfl (by first | exact Or.inl rfl | exact Or.inr rfl)) (pgs_cons (pg_name (i := 4) sc__law_braced.nd rfl (by first | exact Or.inl rfl | exact Or.inr rfl)) (pgs_cons (pg_name (i := 5) sc__law_braced.nd rfl (by first | exact Or.inl rfl | exact Or.inr rfl)) pgs_nil)))))))
      (pss_cons (ps_set (i := 6) sc__law_braced.nd rfl (by first | exact Or.inl rfl | exact Or.inr rfl) (pe_op op_add_str (pe_op op_add_str (pe_ifExp (pt_cmpR op_ne (pv 3) pe_str (nomark _)) (pv 3) pe_str) (pv 4)) (pe_ifExp (pt_cmpR op_gt (pv 5) pe_int (nomark _)) (pe_callTy call_str_int (by rfl) T.b_str (by decide +kernel) (pa_cons (pv 5) pa_nil)) pe_str)))
      (pss_one (ps_ret (pe_op op_add_str (pe_op op_add_str (pe_op op_add_str (pe_op op_add_str pe_str (pv 1)) (pe_ifExp (pt_cmpR op_ne (pv 2) pe_str (nomark _)) (pe_op op_add_str pe_str (pv 2)) pe_str)) (pe_ifExp (pt_cmpR op_ne (pv 6) pe_str (nomark _)) (pe_op op_add_str pe_str (pv 6)) pe_str)) pe_str))))), ?_⟩
  walk_at "in"
  have kl := keys_len k h1
  have gl := signs_len g h2
  obtain ⟨fl, al⟩ := fa_len _ h3
  have wl := wid_len _ h4
  replace fl : f.length ≤ 1 := fl
  replace al : a.length ≤ 1 := al
  replace wl : ws.length ≤ 2 := wl
  have wc := wid_cases h4
  clear h1 h2 h3 h4
  refine seq_of (fun σ' H' => σ' = [some (.ref p), some (.str (tx k)), some (.str (tx g)), some (.str (tx f)), some (.str (tx a)), some (.int w), none] ∧ H = H') (fun b' kb => ?_) (fun σ' H' hm => ?_)
  · walk_at "go"
    exact kb _ _ ⟨rfl, rfl⟩
  obtain ⟨rfl, rfl⟩ := hm
  refine seq_of (fun σ' H' => σ' = [some (.ref p), some (.str (tx k)), some (.str (tx g)), some (.str (tx f)), some (.str (tx a)), some (.int w), some (.str (tx (RJ.spcB f a ws)))] ∧ H = H') (fun b' kb => ?_) (fun σ' H' hm => ?_)
  · rw [s_blank, s_empty]
    unfold RJ.spcB at kb
    by_cases hf : f = [32]
    · rw [if_pos hf, List.nil_append] at kb
      have t1 : (!decide (V.str (tx f) = V.str (tx [32]))) = false := by rw [tx_dec, decide_eq_true hf]; rfl
      have l1 : (tx []).length + (tx a).length ≤ sizeLine := add_le (by show 0 + a.length ≤ 1000; omega)
      rcases wc with ⟨rfl, rfl⟩ | ⟨w1, w2, w3⟩
      · have l2 : (tx [] ++ tx a).length + (tx []).length ≤ sizeLine := by rw [tx_app]; exact add_le (by show a.length + 0 ≤ 1000; omega)
        walk_at "go"
        refine kb _ _ ⟨?_, rfl⟩
        rw [tx_app, tx_app]; rfl
      · have l2 : (tx [] ++ tx a).length + (Str.ofString (toString w)).length ≤ sizeLine := by rw [tx_app, w3]; exact add_le (by show a.length + ws.length ≤ 1000; omega)
        have t2 : decide ((0 : Int) < w) = true := decide_eq_true w1
        walk_at "go"
        refine kb _ _ ⟨?_, rfl⟩
        rw [tx_app, w3, tx_app]; rfl
    · rw [if_neg hf] at kb
      have t1 : (!decide (V.str (tx f) = V.str (tx [32]))) = true := by rw [tx_dec, decide_eq_false hf]; rfl
      have l1 : (tx f).length + (tx a).length ≤ sizeLine := add_le (by omega)
      rcases wc with ⟨rfl, rfl⟩ | ⟨w1, w2, w3⟩
      · have l2 : (tx f ++ tx a).length + (tx []).length ≤ sizeLine := by rw [tx_app]; exact add_le (by rw [List.length_append]; show _ + 0 ≤ 1000; omega)
        walk_at "go"
        refine kb _ _ ⟨?_, rfl⟩
        rw [tx_app, tx_app]; rfl
      · have l2 : (tx f ++ tx a).length + (Str.ofString (toString w)).length ≤ sizeLine := by rw [tx_app, w3]; exact add_le (by rw [List.length_append]; omega)
        have t2 : decide ((0 : Int) < w) = true := decide_eq_true w1
        walk_at "go"
        refine kb _ _ ⟨?_, rfl⟩
        rw [tx_app, w3, tx_app]; rfl
  obtain ⟨rfl, rfl⟩ := hm
  have sl : (RJ.spcB f a ws).length ≤ 4 := by
    unfold RJ.spcB
    rw [List.length_append, List.length_append]
    split
    · show 0 + a.length + ws.length ≤ 4; omega
    · omega
  unfold RJ.bodyB at hQ
  generalize RJ.spcB f a ws = sp at hQ sl ⊢
  rw [s_empty, s_open, s_close, s_colon, s_bang]
  have eb : 33 :: g = [33] ++ g := rfl
  have ec : 58 :: sp = [58] ++ sp := rfl
  have lbang : (tx [33]).length + (tx g).length ≤ sizeLine := add_le (by show 1 + g.length ≤ 1000; omega)
  have lcol : (tx [58]).length + (tx sp).length ≤ sizeLine := add_le (by show 1 + sp.length ≤ 1000; omega)
  have l1 : (tx [123]).length + (tx k).length ≤ sizeLine := add_le (by show 1 + k.length ≤ 1000; omega)
  obtain ⟨g', hg, hgl⟩ : ∃ g', g' = (if g = [] then ([] : List Nat) else 33 :: g) ∧ g'.length ≤ 2 := ⟨_, rfl, by
    split
    · exact Nat.zero_le _
    · rw [List.length_cons]; omega⟩
  obtain ⟨s', hs, hsl⟩ : ∃ s', s' = (if sp = [] then ([] : List Nat) else 58 :: sp) ∧ s'.length ≤ 5 := ⟨_, rfl, by
    split
    · exact Nat.zero_le _
    · rw [List.length_cons]; omega⟩
  rw [← hg, ← hs] at hQ
  have fin : tx (([123] ++ k ++ g' ++ s') ++ [125]) = tx (123 :: (k ++ g' ++ s' ++ [125])) := by simp
  rw [← fin] at hQ
  have l2 : (tx [123] ++ tx k).length + (tx g').length ≤ sizeLine := by rw [tx_app]; exact add_le (by rw [List.length_append]; show 1 + k.length + _ ≤ 1000; omega)
  have l3 : (tx [123] ++ tx k ++ tx g').length + (tx s').length ≤ sizeLine := by rw [tx_app, tx_app]; exact add_le (by rw [List.length_append, List.length_append]; show 1 + k.length + _ + _ ≤ 1000; omega)
  have l4 : (tx [123] ++ tx k ++ tx g' ++ tx s').length + (tx [125]).length ≤ sizeLine := by rw [tx_app, tx_app, tx_app]; exact add_le (by rw [List.length_append, List.length_append, List.length_append]; show 1 + k.length + _ + _ + 1 ≤ 1000; omega)
  rw [← tx_app, ← tx_app, ← tx_app, ← tx_app] at hQ
  by_cases hg0 : g = []
  · have t1 : (!decide (V.str (tx g) = V.str (tx []))) = false := by rw [tx_dec, decide_eq_true hg0]; rfl
    rw [if_pos hg0] at hg
    subst hg
    by_cases hs0 : sp = []
    · have t2 : (!decide (V.str (tx sp) = V.str (tx []))) = false := by rw [tx_dec, decide_eq_true hs0]; rfl
      rw [if_pos hs0] at hs
      subst hs
      walk_at "go"
      exact hQ
    · have t2 : (!decide (V.str (tx sp) = V.str (tx []))) = true := by rw [tx_dec, decide_eq_false hs0]; rfl
      rw [if_neg hs0, ec] at hs
      subst hs
      rw [← tx_app [58]] at l3 l4 hQ
      walk_at "go"
      exact hQ
  · have t1 : (!decide (V.str (tx g) = V.str (tx []))) = true := by rw [tx_dec, decide_eq_false hg0]; rfl
    rw [if_neg hg0, eb] at hg
    subst hg
    rw [← tx_app [33]] at l2 l3 l4 hQ
    by_cases hs0 : sp = []
    · have t2 : (!decide (V.str (tx sp) = V.str (tx []))) = false := by rw [tx_dec, decide_eq_true hs0]; rfl
      rw [if_pos hs0] at hs
      subst hs
      walk_at "go"
      exact hQ
    · have t2 : (!decide (V.str (tx sp) = V.str (tx []))) = true := by rw [tx_dec, decide_eq_false hs0]; rfl
      rw [if_neg hs0, ec] at hs
      subst hs
      rw [← tx_app [58]] at l3 l4 hQ
      walk_at "go"
      exact hQ
end
end K17

set_option Elab.async false
set_option linter.all false
set_option maxRecDepth 100000
set_option maxHeartbeats 0

namespace K17
open PySem PySem.Spec PyProof.Rows L2 RC
section
variable {P : Program} {w : World} {K : PySem.W.Frag} {mg : Str → Option Value} {base : Heap}
/-! ### parts, drawn and written -/
def BpV (H : Hp) (p : List Nat) (v : V) : Prop :=
  (∃ t, v = .str (tx t) ∧ t.length ≤ 4 ∧ p = RO.escB t) ∨
  (∃ q k g f a ws w, v = .ref q ∧ H q = some (.tup [.str (tx k), .str (tx g), .str (tx f), .str (tx a), .int w]) ∧ k ∈ RJ.keysS ∧ g ∈ RJ.signsS ∧ (f, a) ∈ RJ.faS ∧ (w, ws) ∈ RJ.widS ∧ p = 123 :: (RJ.bodyB k g f a ws ++ [125]))
theorem BpV.ok {H : Hp} {p : List Nat} {v : V} (h : BpV H p v) : RJ.PcOk p := by
  rcases h with ⟨t, _, h2, rfl⟩ | ⟨q, k, g, f, a, ws, w, _, _, h1, h2, h3, h4, rfl⟩
  · exact RJ.text_ok h2
  · exact RJ.field_ok h1 h2 h3 h4
inductive BpsV (H : Hp) : List (List Nat) → List V → Prop
  | nil : BpsV H [] []
  | cons {p : List Nat} {v : V} {ps : List (List Nat)} {vs : List V} : BpV H p v → BpsV H ps vs → BpsV H (p :: ps) (v :: vs)
theorem BpV.to {H H' : Hp} (h : ∀ q xs, H q = some (.tup xs) → H' q = some (.tup xs)) {p : List Nat} {v : V} (k : BpV H p v) : BpV H' p v := by
  rcases k with k | ⟨q, k, g, f, a, ws, w, h1, h2, h3⟩
  · exact .inl k
  · exact .inr ⟨q, k, g, f, a, ws, w, h1, h _ _ h2, h3⟩
theorem BpsV.to {H H' : Hp} (h : ∀ q xs, H q = some (.tup xs) → H' q = some (.tup xs)) : ∀ {ps : List (List Nat)} {vs : List V}, BpsV H ps vs → BpsV H' ps vs
  | _, _, .nil => .nil
  | _, _, .cons a b => .cons (a.to h) (b.to h)
theorem old_tup {s l : Addr} {H H' : Hp} {n : Nat} (hs : Stm H s l n) (h : Old s l H H') : ∀ q xs, H q = some (.tup xs) → H' q = some (.tup xs) := fun q xs e => by
  obtain ⟨_, _, _, _, _, z1, z2, _⟩ := hs
  refine h _ _ (fun z => ?_) (fun z => ?_) e
  · rw [z, z1] at e; cases e
  · rw [z, z2] at e; cases e
theorem BpsV.get {H : Hp} : ∀ {ps : List (List Nat)} {vs : List V}, BpsV H ps vs → ∀ {i : Nat} {v : V}, vs[i]? = some v → ∃ x, ps[i]? = some x ∧ BpV H x v
  | _, _, .nil, _, _, h => by cases h
  | _, _, .cons a b, 0, _, h => by cases h; exact ⟨_, rfl, a⟩
  | _, _, .cons a b, _ + 1, _, h => b.get h
theorem BpsV.len {H : Hp} : ∀ {ps : List (List Nat)} {vs : List V}, BpsV H ps vs → ps.length = vs.length
  | _, _, .nil => rfl
  | _, _, .cons _ b => congrArg Nat.succ b.len
theorem BpsV.snoc {H : Hp} {p : List Nat} {v : V} (h : BpV H p v) : ∀ {ps : List (List Nat)} {vs : List V}, BpsV H ps vs → BpsV H (ps ++ [p]) (vs ++ [v])
  | _, _, .nil => .cons h .nil
  | _, _, .cons a b => .cons a (b.snoc h)
theorem BpsV.ok {H : Hp} : ∀ {ps : List (List Nat)} {vs : List V}, BpsV H ps vs → ∀ p ∈ ps, RJ.PcOk p
  | _, _, .nil, _, h => by cases h
  | _, _, .cons a b, p, h => by
    rcases List.mem_cons.mp h with rfl | h
    · exact a.ok
    · exact b.ok p h
def spBracedParts : Sp := fun vs H Q _ => ∃ (p : Addr) (ps : List (List Nat)) (xs : List V), vs = [.ref p] ∧ H p = some (.lst xs) ∧ BpsV H ps xs ∧ ps.length ≤ 1000 ∧
  ∀ (t : Addr) (H' : Hp), Same H H' → H t = none → H' t = some (.lst (ps.map fun q => V.str (tx q))) → Q (.ref t) H'
theorem ok_braced_parts {f : Addr} (T : Txt P w K mg) (F : Stands K "_law_braced_parts" "_law_braced_parts" s__law_braced_parts [] f) (c__law_braced : Callable P w K mg base 1 (He.ga K "_law_braced") ["_law_field_here"] [] spBraced)
    (c__law_braced_text : Callable P w K mg base 1 (He.ga K "_law_braced_text") ["_law_shown"] [] spBracedText) : Callable P w K mg base 2 f ["_law_parts"] [] spBracedParts := by
  refine F.call0 sc__law_braced_parts (fun vs H Q E h => ?_) (fun cdv A outer s0 H vs Q E hr h => ?_) (fun _ _ _ _ _ _ us hl => match us, hl with | [_], _ => rfl)
  · obtain ⟨p, ps, xs, rfl, _⟩ := h; rfl
  obtain ⟨p, ps, xs, rfl, hp, hps, hpl, hQ⟩ := h
  refine ⟨_, (pss_one (ps_ret (pe_lc (own := [("_law_part", 1)]) (by rfl) sc__law_braced_parts.nd (pi_list (pv 0)) (blkOk_by (own := [("_law_part", 1)]) (N := nm__law_braced_parts) (sc := defScope s__law_braced_parts) (by decide +kernel)) (fun _ _ _ _ _ => (pg_name (i := 1) sc__law_braced_parts.nd rfl (by first | exact Or.inl rfl | exact Or.inr rfl))) (fun _ _ _ _ _ => pts_nil) (fun _ _ _ _ _ => (pe_ifExp (pt_val (pe_callB (callK (K := K) rIsi call_isi) (by rfl) T.b_isinstance (by decide +kernel) (pa_cons (pv 1) (pa_cons (pe_bltn (v := .ty "str") (u := .type "str") (by rfl) T.b_str (by decide +kernel) rfl) pa_nil)))) (pe_fn T.g__law_braced_text c__law_braced_text (hr.mono (by first | decide | exact Nat.le_refl _)) (by rfl) (pa_cons (pv 1) pa_nil)) (pe_fn T.g__law_braced c__law_braced (hr.mono (by first | decide | exact Nat.le_refl _)) (by rfl) (pa_cons (pv 1) pa_nil))))))), ?_⟩
  walk_at "in"
  walk_at "go"
  intro D hD
  refine lc_it walk_list (fun i H' => Same H H' ∧ H' D = some (.lst ((ps.take i).map fun q => V.str (tx q)))) ⟨same_new hD _, upd_same⟩ (fun i H' _ h => SqL.of (h.1 _ _ hp)) (fun i x H3 H2 hi hP hy => ?_) (fun H2 h2 => ?_)
  · obtain ⟨rfl, hx⟩ := hy
    obtain ⟨g1, g2⟩ := hP
    obtain ⟨y, gy, hpy⟩ := hps.get hx
    have hpy2 := hpy.to fun q zs e => g1 _ _ e
    have hlen : ((ps.take i).map fun q => V.str (tx q)).length < sizeLine := by rw [List.length_map, List.length_take, sizeLine_eq]; omega
    have fin : ∀ H4 : Hp, Same H2 H4 → Same H (upd H4 D (.lst (((ps.take i).map fun q => V.str (tx q)) ++ [V.str (tx y)]))) ∧ upd H4 D (.lst (((ps.take i).map fun q => V.str (tx q)) ++ [V.str (tx y)])) D = some (.lst ((ps.take (i + 1)).map fun q => V.str (tx q))) := fun H4 s4 => by
      refine ⟨fun b o hb => ?_, ?_⟩
      · rw [upd_ne (ne_of_none hb hD)]; exact (g1.trans s4) _ _ hb
      · rw [upd_same, take_snoc gy, List.map_append]; rfl
    rcases hpy2 with ⟨t, rfl, h2, rfl⟩ | ⟨q, k, g, f, a, ws, w, rfl, h0, h1, h2, h3, h4, rfl⟩
    · refine ⟨rfl, yes_if ?_⟩
      walk_at "go"
      exact (fin _ (Same.refl _)).2
    · refine ⟨rfl, yes_if ?_⟩
      walk_at "go"
      exact (fin _ (Same.refl _)).2
  · obtain ⟨g1, g2⟩ := h2
    rw [List.take_of_length_le (by rw [hps.len]; exact Nat.le_refl _)] at g2
    exact hQ D _ g1 hD g2
end
end K17

set_option Elab.async false
set_option linter.all false
set_option maxRecDepth 100000
set_option maxHeartbeats 0

namespace K17
open PySem PySem.Spec PyProof.Rows L2 RC
section
variable {P : Program} {w : World} {K : PySem.W.Frag} {mg : Str → Option Value} {base : Heap}
/-! ### a field, drawn -/
def keysV : List V := [.str "a", .str "message", .str "_9"]
theorem in_keys {x : V} (h : x ∈ keysV) : ∃ k ∈ RJ.keysS, x = .str (tx k) := by
  have e1 : Str.ofString "a" = tx [97] := by decide +kernel
  have e2 : Str.ofString "message" = tx [109, 101, 115, 115, 97, 103, 101] := by decide +kernel
  have e3 : Str.ofString "_9" = tx [95, 57] := by decide +kernel
  simp only [keysV, List.mem_cons, List.not_mem_nil, or_false] at h
  rcases h with rfl | rfl | rfl
  · exact ⟨[97], by decide, by rw [e1]⟩
  · exact ⟨[109, 101, 115, 115, 97, 103, 101], by decide, by rw [e2]⟩
  · exact ⟨[95, 57], by decide, by rw [e3]⟩
theorem in_signs {x : V} (h : x ∈ ([.str "", .str "", .str "r", .str "s"] : List V)) : ∃ k ∈ RJ.signsS, x = .str (tx k) := by
  have e1 : Str.ofString "r" = tx [114] := by decide +kernel
  have e2 : Str.ofString "s" = tx [115] := by decide +kernel
  simp only [List.mem_cons, List.not_mem_nil, or_false] at h
  rcases h with rfl | rfl | rfl | rfl
  · exact ⟨[], by decide, by rw [s_empty]⟩
  · exact ⟨[], by decide, by rw [s_empty]⟩
  · exact ⟨[114], by decide, by rw [e1]⟩
  · exact ⟨[115], by decide, by rw [e2]⟩
theorem in_aligns {x : V} (h : x ∈ ([.str "", .str "", .str "<", .str ">", .str "^"] : List V)) : ∃ k, (k = [] ∨ k ∈ RJ.alignsS) ∧ x = .str (tx k) := by
  have e1 : Str.ofString "<" = tx [60] := by decide +kernel
  have e2 : Str.ofString ">" = tx [62] := by decide +kernel
  have e3 : Str.ofString "^" = tx [94] := by decide +kernel
  simp only [List.mem_cons, List.not_mem_nil, or_false] at h
  rcases h with rfl | rfl | rfl | rfl | rfl
  · exact ⟨[], .inl rfl, by rw [s_empty]⟩
  · exact ⟨[], .inl rfl, by rw [s_empty]⟩
  · exact ⟨[60], .inr (by decide), by rw [e1]⟩
  · exact ⟨[62], .inr (by decide), by rw [e2]⟩
  · exact ⟨[94], .inr (by decide), by rw [e3]⟩
def fillsV : List V := [.str "*", .str "<", .str ">", .str "^", .str ":", .str "!", .str "0", .str "5", .str "$", .str "x", .str "\n", .str "'"]
theorem fills_eq : fillsV = RJ.fillsS.map fun m => V.str (tx m) := by
  have e : ∀ (z : Str) (l : List Nat), z.cps.toList = l → V.str z = V.str (tx l) := fun z l h => by rw [← h, tx_of]
  show _ = [V.str (tx [42]), V.str (tx [60]), V.str (tx [62]), V.str (tx [94]), V.str (tx [58]), V.str (tx [33]), V.str (tx [48]), V.str (tx [53]), V.str (tx [36]), V.str (tx [120]), V.str (tx [10]), V.str (tx [39])]
  unfold fillsV
  rw [e "*" [42] (by decide +kernel), e "<" [60] (by decide +kernel), e ">" [62] (by decide +kernel), e "^" [94] (by decide +kernel), e ":" [58] (by decide +kernel), e "!" [33] (by decide +kernel), e "0" [48] (by decide +kernel), e "5" [53] (by decide +kernel), e "$" [36] (by decide +kernel), e "x" [120] (by decide +kernel), e "\n" [10] (by decide +kernel), e "'" [39] (by decide +kernel)]
theorem in_fills {x : V} (h : x ∈ fillsV) : ∃ k ∈ RJ.fillsS, x = .str (tx k) := by
  rw [fills_eq] at h
  obtain ⟨k, h1, h2⟩ := List.mem_map.mp h
  exact ⟨k, h1, h2.symm⟩
def widsV : List V := [.int 0, .int 0, .int 1, .int 5, .int 9, .int 10, .int 12, .int 30, .int 99]
theorem in_wids {x : V} (h : x ∈ widsV) : ∃ w ws, (w, ws) ∈ RJ.widS ∧ x = .int w := by
  simp only [widsV, List.mem_cons, List.not_mem_nil, or_false] at h
  rcases h with rfl | rfl | rfl | rfl | rfl | rfl | rfl | rfl | rfl
  · exact ⟨0, [], by decide, rfl⟩
  · exact ⟨0, [], by decide, rfl⟩
  · exact ⟨1, [49], by decide, rfl⟩
  · exact ⟨5, [53], by decide, rfl⟩
  · exact ⟨9, [57], by decide, rfl⟩
  · exact ⟨10, [49, 48], by decide, rfl⟩
  · exact ⟨12, [49, 50], by decide, rfl⟩
  · exact ⟨30, [51, 48], by decide, rfl⟩
  · exact ⟨99, [57, 57], by decide, rfl⟩
theorem fa_none : (([32], []) : List Nat × List Nat) ∈ RJ.faS := by decide +kernel
theorem fa_blank : ∀ a ∈ RJ.alignsS, (([32], a) : List Nat × List Nat) ∈ RJ.faS := by decide +kernel
theorem fa_fill : ∀ f ∈ RJ.fillsS, ∀ a ∈ RJ.alignsS, ((f, a) : List Nat × List Nat) ∈ RJ.faS := by decide +kernel
def spField : Sp := fun vs H Q _ => ∃ (s l k : Addr) (n : Nat), vs = [.ref s, .ref k] ∧ Stm H s l n ∧ n ≤ 900000 ∧ H k = some (.lst keysV) ∧ k ≠ s ∧ k ≠ l ∧
  ∀ (q : Addr) (p : List Nat) (H' : Hp), Old s l H H' → Stm H' s l (n + 10) → BpV H' p (.ref q) → Q (.ref q) H'
theorem ok_field {f : Addr} (T : Txt P w K mg) (F : Stands K "_law_field" "_law_field" s__law_field [] f) (c__law_draw : Callable P w K mg base 1 (He.ga K "_law_draw") ["_law_stream", "_law_many"] [] spDraw)
    (c__law_pick : Callable P w K mg base 2 (He.ga K "_law_pick") ["_law_stream", "_law_some"] [] (spPick K)) : Callable P w K mg base 3 f ["_law_stream", "_law_keys"] [] spField := by
  refine F.call0 sc__law_field (fun vs H Q E h => ?_) (fun cdv A outer s0 H vs Q E hr h => ?_) (fun _ _ _ _ _ _ us hl => match us, hl with | [_, _], _ => rfl)
  · obtain ⟨s, l, k, n, rfl, _⟩ := h; rfl
  obtain ⟨s, l, kk, n, rfl, hs, hn, hk, nks, nkl, hQ⟩ := h
  refine ⟨_, (pss_cons (ps_par (by rfl) sc__law_field.nd (i := 2) (j := 3) rfl rfl (by decide) rfl rfl (pa_cons (pe_fn T.g__law_pick c__law_pick (hr.mono (by first | decide | exact Nat.le_refl _)) (by rfl) (pa_cons (pv 0) (pa_cons (pv 1) pa_nil))) (pa_cons (pe_fn T.g__law_pick c__law_pick (hr.mono (by first | decide | exact Nat.le_refl _)) (by rfl) (pa_cons (pv 0) (pa_cons (pe_lst (pa_cons pe_str (pa_cons pe_str (pa_cons pe_str (pa_cons pe_str pa_nil))))) pa_nil))) pa_nil)) (by rfl))
      (pss_cons (ps_par (by rfl) sc__law_field.nd (i := 4) (j := 5) rfl rfl (by decide) rfl rfl (pa_cons (pe_fn T.g__law_pick c__law_pick (hr.mono (by first | decide | exact Nat.le_refl _)) (by rfl) (pa_cons (pv 0) (pa_cons (pe_lst (pa_cons pe_str (pa_cons pe_str (pa_cons pe_str (pa_cons pe_str (pa_cons pe_str pa_nil)))))) pa_nil))) (pa_cons pe_str pa_nil)) (by rfl))
      (pss_cons (ps_if (PW.pt (pw_and (pt_cmpR op_ne (pv 4) pe_str (nomark _)) (pw_and1 (pt_cmpR op_eq (pe_fn T.g__law_draw c__law_draw (hr.mono (by first | decide | exact Nat.le_refl _)) (by rfl) (pa_cons (pv 0) (pa_cons pe_int pa_nil))) pe_int (nomark _))))) (pss_one (ps_set (i := 5) sc__law_field.nd rfl (by first | exact Or.inl rfl | exact Or.inr rfl) (pe_fn T.g__law_pick c__law_pick (hr.mono (by first | decide | exact Nat.le_refl _)) (by rfl) (pa_cons (pv 0) (pa_cons (pe_lst (pa_cons pe_str (pa_cons pe_str (pa_cons pe_str (pa_cons pe_str (pa_cons pe_str (pa_cons pe_str (pa_cons pe_str (pa_cons pe_str (pa_cons pe_str (pa_cons pe_str (pa_cons pe_str (pa_cons pe_str pa_nil))))))))))))) pa_nil))))) pss_nil)
      (pss_one (ps_ret (pe_tup (pa_cons (pv 2) (pa_cons (pv 3) (pa_cons (pv 5) (pa_cons (pv 4) (pa_cons (pe_fn T.g__law_pick c__law_pick (hr.mono (by first | decide | exact Nat.le_refl _)) (by rfl) (pa_cons (pv 0) (pa_cons (pe_lst (pa_cons pe_int (pa_cons pe_int (pa_cons pe_int (pa_cons pe_int (pa_cons pe_int (pa_cons pe_int (pa_cons pe_int (pa_cons pe_int (pa_cons pe_int pa_nil)))))))))) pa_nil))) pa_nil))))))))))), ?_⟩
  walk_at "in"
  refine seq_of (fun σ' H' => ∃ k g, k ∈ RJ.keysS ∧ g ∈ RJ.signsS ∧ σ' = [some (.ref s), some (.ref kk), some (.str (tx k)), some (.str (tx g)), none, none] ∧ Old s l H H' ∧ Stm H' s l (n + 2)) (fun b' kb => ?_) (fun σ' H1 hm => ?_)
  · walk_at "go"
    refine .inl ⟨kk, _, rfl, nks, nkl, hk, by decide, by decide, fun H1 x o1 st1 m1 => ?_⟩
    obtain ⟨k, hk1, rfl⟩ := in_keys m1
    walk_at "go"
    intro p fp
    obtain ⟨nps, npl⟩ := stm_new st1 fp
    have st2 := st1.same (same_new fp (.lst [.str "", .str "", .str "r", .str "s"]))
    have o2 : Old s l H (upd H1 p (.lst [.str "", .str "", .str "r", .str "s"])) := o1.trans (Old.of_same (same_new fp _))
    refine ⟨s, l, n + 1, _, rfl, st2, by omega, .inl ⟨p, _, rfl, nps, npl, upd_same, by decide, by decide, fun H2 y o3 st3 m2 => ?_⟩⟩
    obtain ⟨g, hg1, rfl⟩ := in_signs m2
    walk_at "go"
    exact kb _ _ ⟨k, g, hk1, hg1, rfl, o2.trans o3, st3⟩
  obtain ⟨k, g, hk1, hg1, rfl, o1, st1⟩ := hm
  refine seq_of (fun σ' H' => ∃ a, (a = [] ∨ a ∈ RJ.alignsS) ∧ σ' = [some (.ref s), some (.ref kk), some (.str (tx k)), some (.str (tx g)), some (.str (tx a)), some (.str (tx [32]))] ∧ Old s l H H' ∧ Stm H' s l (n + 3)) (fun b' kb => ?_) (fun σ' H2 hm => ?_)
  · rw [s_blank]
    walk_at "go"
    intro p fp
    obtain ⟨nps, npl⟩ := stm_new st1 fp
    have st2 := st1.same (same_new fp (.lst [.str "", .str "", .str "<", .str ">", .str "^"]))
    have o2 : Old s l H (upd H1 p (.lst [.str "", .str "", .str "<", .str ">", .str "^"])) := o1.trans (Old.of_same (same_new fp _))
    refine ⟨s, l, n + 2, _, rfl, st2, by omega, .inl ⟨p, _, rfl, nps, npl, upd_same, by decide, by decide, fun H2 y o3 st3 m2 => ?_⟩⟩
    obtain ⟨a, ha1, rfl⟩ := in_aligns m2
    walk_at "go"
    exact kb _ _ ⟨a, ha1, rfl, o2.trans o3, st3⟩
  obtain ⟨a, ha1, rfl, o2, st2⟩ := hm
  clear o1 st1
  refine seq_of (fun σ' H' => ∃ f, (f, a) ∈ RJ.faS ∧ σ' = [some (.ref s), some (.ref kk), some (.str (tx k)), some (.str (tx g)), some (.str (tx a)), some (.str (tx f))] ∧ Old s l H H' ∧ Stm H' s l (n + 5)) (fun b' kb => ?_) (fun σ' H3 hm => ?_)
  · rw [s_empty]
    rcases ha1 with rfl | ha1
    · have t1 : (!decide (V.str (tx ([] : List Nat)) = V.str (tx []))) = false := by rw [decide_eq_true rfl]; rfl
      walk_at "go"
      exact kb _ _ ⟨[32], fa_none, rfl, o2, st2.mono (by omega)⟩
    · have a0 : a ≠ [] := fun h => by rw [h] at ha1; revert ha1; decide
      have t1 : (!decide (V.str (tx a) = V.str (tx []))) = true := by rw [tx_dec, decide_eq_false a0]; rfl
      walk_at "go"
      intro H3 d o3 st3 d1 d2
      walk_at "go"
      by_cases d0 : d = 0
      · have t2 : decide (V.int d = V.int 0) = true := decide_eq_true (congrArg V.int d0)
        walk_at "go"
        intro p fp
        obtain ⟨nps, npl⟩ := stm_new st3 fp
        have st4 := st3.same (same_new fp (.lst fillsV))
        refine ⟨s, l, n + 4, _, rfl, st4, by omega, .inl ⟨p, fillsV, rfl, nps, npl, upd_same, by decide, by decide, fun H4 y o4 st5 m2 => ?_⟩⟩
        obtain ⟨f, hf1, rfl⟩ := in_fills m2
        walk_at "go"
        exact kb _ _ ⟨f, fa_fill f hf1 a ha1, rfl, (o2.trans o3).trans ((Old.of_same (same_new fp _)).trans o4), st5⟩
      · have t2 : decide (V.int d = V.int 0) = false := decide_eq_false fun z => d0 (V.int.inj z)
        walk_at "go"
        exact kb _ _ ⟨[32], fa_blank a ha1, rfl, o2.trans o3, st3.mono (by omega)⟩
  obtain ⟨f, hfa, rfl, o3, st3⟩ := hm
  walk_at "go"
  intro p fp
  obtain ⟨nps, npl⟩ := stm_new st3 fp
  have st4 := st3.same (same_new fp (.lst widsV))
  refine ⟨s, l, n + 5, _, rfl, st4, by omega, .inl ⟨p, widsV, rfl, nps, npl, upd_same, by decide, by decide, fun H4 y o4 st5 m2 => ?_⟩⟩
  obtain ⟨w, ws, hw, rfl⟩ := in_wids m2
  walk_at "go"
  intro q fq
  exact hQ q _ _ ((o3.trans (Old.of_same (same_new fp _))).trans (o4.trans (Old.of_same (same_new fq _)))) ((st5.same (same_new fq _)).mono (by omega)) (.inr ⟨q, k, g, f, a, ws, w, rfl, upd_same, hk1, hg1, hfa, hw, rfl⟩)
end
end K17

set_option Elab.async false
set_option linter.all false
set_option maxRecDepth 100000
set_option maxHeartbeats 0

namespace K17
open PySem PySem.Spec PyProof.Rows L2 RC
section
variable {P : Program} {w : World} {K : PySem.W.Frag} {mg : Str → Option Value} {base : Heap}
/-! ### parts drawn, what is no part -/
def spFormatParts : Sp := fun vs H Q _ => ∃ (s l k : Addr) (n : Nat), vs = [.ref s, .int 3, .ref k] ∧ Stm H s l n ∧ n ≤ 800000 ∧ H k = some (.lst keysV) ∧ k ≠ s ∧ k ≠ l ∧
  ∀ (p : Addr) (fs : List (List Nat)) (xs : List V) (H' : Hp), Old s l H H' → Stm H' s l (n + 1000) → H p = none → H' p = some (.lst xs) → BpsV H' fs xs → fs.length ≤ 3 → Q (.ref p) H'
theorem ok_format_parts {f : Addr} (T : Txt P w K mg) (F : Stands K "_law_format_parts" "_law_format_parts" s__law_format_parts [] f) (c__law_draw : Callable P w K mg base 1 (He.ga K "_law_draw") ["_law_stream", "_law_many"] [] spDraw)
    (c__law_pick : Callable P w K mg base 2 (He.ga K "_law_pick") ["_law_stream", "_law_some"] [] (spPick K)) (c__law_text : Callable P w K mg base 3 (He.ga K "_law_text") ["_law_stream", "_law_signs", "_law_most"] [] spText)
    (c__law_field : Callable P w K mg base 3 (He.ga K "_law_field") ["_law_stream", "_law_keys"] [] spField) : Callable P w K mg base 4 f ["_law_stream", "_law_most", "_law_keys"] [] spFormatParts := by
  refine F.call0 sc__law_format_parts (fun vs H Q E h => ?_) (fun cdv A outer s0 H vs Q E hr h => ?_) (fun _ _ _ _ _ _ us hl => match us, hl with | [_, _, _], _ => rfl)
  · obtain ⟨s, l, k, n, rfl, _⟩ := h; rfl
  obtain ⟨s, l, k, n, rfl, hs, hn, hk, nks, nkl, hQ⟩ := h
  refine ⟨_, (pss_cons (ps_set (i := 3) sc__law_format_parts.nd rfl (by first | exact Or.inl rfl | exact Or.inr rfl) (pe_lst pa_nil))
      (pss_cons (ps_for PassesOwn.never rfl (pi_range1 (by rfl) T.b_range (pa_cons (pe_fn T.g__law_draw c__law_draw (hr.mono (by first | decide | exact Nat.le_refl _)) (by rfl) (pa_cons (pv 0) (pa_cons (pe_op op_add (pv 1) pe_int) pa_nil))) pa_nil)) (pg_name (i := 4) sc__law_format_parts.nd rfl (by first | exact Or.inl rfl | exact Or.inr rfl)) (pss_one (ps_if (pt_cmpR op_eq (pe_fn T.g__law_draw c__law_draw (hr.mono (by first | decide | exact Nat.le_refl _)) (by rfl) (pa_cons (pv 0) (pa_cons pe_int pa_nil))) pe_int (nomark _)) (pss_one (ps_expr (pe_bm PySem.F.plainAttrs_list PySem.F.slot_list_append PySem.F.type_list_append mt_append (pv 3) (pa_cons (pe_fn T.g__law_text c__law_text (hr.mono (by first | decide | exact Nat.le_refl _)) (by rfl) (pa_cons (pv 0) (pa_cons pe_str (pa_cons pe_int pa_nil)))) pa_nil)))) (pss_one (ps_expr (pe_bm PySem.F.plainAttrs_list PySem.F.slot_list_append PySem.F.type_list_append mt_append (pv 3) (pa_cons (pe_fn T.g__law_field c__law_field (hr.mono (by first | decide | exact Nat.le_refl _)) (by rfl) (pa_cons (pv 0) (pa_cons (pv 2) pa_nil))) pa_nil)))))))
      (pss_one (ps_ret (pv 3))))), ?_⟩
  walk_at "in"
  walk_at "go"
  intro p fp
  walk_at "go"
  intro H1 d h1 h2 h3 h4
  obtain ⟨nps, npl⟩ := stm_new hs fp
  have hp1 := h1 _ _ nps npl upd_same
  have gO : Old s l H H1 := (Old.of_same (same_new fp _)).trans h1
  obtain ⟨c, rfl⟩ := Int.eq_ofNat_of_zero_le h3
  refine ⟨(c : Int), rfl, by omega, by omega, ?_⟩
  refine for_it (n := c) walk_range (fun i σ H' => Old s l H H' ∧ Stm H' s l (n + 1 + 300 * i) ∧ ∃ fs xs a, H' p = some (.lst xs) ∧ BpsV H' fs xs ∧ fs.length = i ∧ σ = [some (.ref s), some (.int 3), some (.ref k), some (.ref p), a]) ⟨gO, h2, [], [], _, hp1, .nil, rfl, rfl⟩ (fun _ _ _ _ _ => trivial) (fun i v σ H0 H2 hi hP hx => ?_) (fun σ H2 hP => ?_)
  · obtain ⟨rfl, rfl⟩ := hx
    obtain ⟨g1, g2, fs, xs, a, g3, g4, g5, rfl⟩ := hP
    have hxl : xs.length < sizeLine := by rw [← g4.len, g5, sizeLine_eq]; omega
    walk_at "go"
    intro H3 d2 k1 k2 k3 k4
    have g3' := k1 _ _ nps npl g3
    have g4' := g4.to (old_tup g2 k1)
    have gO3 := g1.trans k1
    by_cases d0 : d2 = 0
    · have t1 : decide (V.int d2 = V.int 0) = true := decide_eq_true (congrArg V.int d0)
      walk_at "go"
      intro H4 r m1 m2 m3
      have g5' := m1 _ _ nps npl g3'
      have er : (.str r : V) = .str (tx r.cps.toList) := by
        show V.str r = V.str ⟨r.cps.toList.toArray⟩
        rw [Array.toArray_toList]
      have hf : BpV H4 (RO.escB r.cps.toList) (.str r) := .inl ⟨r.cps.toList, er, by rw [Array.length_toList]; exact Int.ofNat_le.mp m3, rfl⟩
      have g6' := (g4'.to (old_tup k2 m1)).snoc hf
      have gO4 := gO3.trans m1
      walk_at "go"
      exact ⟨(m2.put nps npl).mono (by omega), _, _, _, upd_same, g6'.to (fun q ys e => by rw [upd_ne (fun z => by rw [z, g5'] at e; cases e)]; exact e), by rw [List.length_append, g5]; rfl, rfl⟩
    · have t1 : decide (V.int d2 = V.int 0) = false := decide_eq_false fun z => d0 (V.int.inj z)
      have hk3 := gO3 _ _ nks nkl hk
      walk_at "go"
      intro q y H4 m1 m2 hf
      have g5' := m1 _ _ nps npl g3'
      have g6' := (g4'.to (old_tup k2 m1)).snoc hf
      have gO4 := gO3.trans m1
      walk_at "go"
      exact ⟨(m2.put nps npl).mono (by omega), _, _, _, upd_same, g6'.to (fun q ys e => by rw [upd_ne (fun z => by rw [z, g5'] at e; cases e)]; exact e), by rw [List.length_append, g5]; rfl, rfl⟩
  · obtain ⟨g1, g2, fs, xs, a, g3, g4, g5, rfl⟩ := hP
    walk_at "go"
    exact hQ p fs xs _ g1 (g2.mono (by omega)) fp g3 g4 (by omega)
end
end K17

set_option Elab.async false
set_option linter.all false
set_option maxRecDepth 100000
set_option maxHeartbeats 0

namespace K17
open PySem PySem.Spec PyProof.Rows L2 RC
section
variable {P : Program} {w : World} {K : PySem.W.Frag} {mg : Str → Option Value} {base : Heap}
/-! ### what is no part -/
def wr1 : List Str := ["{}", "{1a}", "{a b}", "{ a}", "{a }", "{a.b}", "{a[0]}", "{0}", "{-a}", "{a-}", "{a+1}", "{a,b}", "{a=}"]
def wr2 : List Str := ["{a!}", "{a!x}", "{a!a}", "{a!R}", "{a!rr}", "{a!r }", "{a! r}", "{a!r>5}", "{!r}", "{a!r!s}"]
def wr3 : List Str := ["{a:}", "{a!r:}", "{a:0}", "{a:05}", "{a:<05}", "{a:100}", "{a:<100}", "{a:x}", "{a:5x}", "{a:5s}"]
def wr4 : List Str := ["{a:<5s}", "{a:=5}", "{a:+5}", "{a:.5}", "{a:5.2}", "{a:,}", "{a:xx<5}", "{a:<<<5}", "{a: 5}"]
def wr5 : List Str := ["{a:5 }", "{:5}", "{a:-5}", "{a:<-5}", "{a:<^>5}", "{a:{<5}", "{a:}<5}", "{a:{w}}", "{a::}"]
def wr6 : List Str := ["{", "}", "{a!r::5}"]
theorem wr_all : ((wr1 ++ wr2 ++ wr3 ++ wr4 ++ wr5 ++ wr6).all fun x => RJ.wrongB x.cps.toList && decide (x.cps.toList.length ≤ 10)) = true := by decide +kernel
theorem wr_of {x : V} (h : x ∈ wr1.map V.str ++ wr2.map V.str ++ wr3.map V.str ++ wr4.map V.str ++ wr5.map V.str ++ wr6.map V.str) : ∃ p, x = .str (tx p) ∧ RJ.wrongB p = true ∧ p.length ≤ 10 := by
  rw [← List.map_append, ← List.map_append, ← List.map_append, ← List.map_append, ← List.map_append] at h
  obtain ⟨z, h1, rfl⟩ := List.mem_map.mp h
  obtain ⟨h2, h3⟩ := Bool.and_eq_true_iff.mp (List.all_eq_true.mp wr_all z h1)
  exact ⟨z.cps.toList, by rw [tx_of], h2, of_decide_eq_true h3⟩
def spWrong : Sp := fun vs H Q _ => ∃ (s l : Addr) (n : Nat), vs = [.ref s] ∧ Stm H s l n ∧ n ≤ 900000 ∧
  ∀ (p : List Nat) (H' : Hp), Old s l H H' → Stm H' s l (n + 1) → RJ.wrongB p = true → p.length ≤ 10 → Q (.str (tx p)) H'
theorem ok_wrong {f : Addr} (T : Txt P w K mg) (F : Stands K "_law_wrong_part" "_law_wrong_part" s__law_wrong_part [] f)
    (c__law_pick : Callable P w K mg base 2 (He.ga K "_law_pick") ["_law_stream", "_law_some"] [] (spPick K)) : Callable P w K mg base 3 f ["_law_stream"] [] spWrong := by
  refine F.call0 sc__law_wrong_part (fun vs H Q E h => ?_) (fun cdv A outer s0 H vs Q E hr h => ?_) (fun _ _ _ _ _ _ us hl => match us, hl with | [_], _ => rfl)
  · obtain ⟨s, l, n, rfl, _⟩ := h; rfl
  obtain ⟨s, l, n, rfl, hs, hn, hQ⟩ := h
  refine ⟨_, (pss_cons (ps_set (i := 1) sc__law_wrong_part.nd rfl (by first | exact Or.inl rfl | exact Or.inr rfl) (pe_lst (pa_cons pe_str (pa_cons pe_str (pa_cons pe_str (pa_cons pe_str (pa_cons pe_str (pa_cons pe_str (pa_cons pe_str (pa_cons pe_str (pa_cons pe_str (pa_cons pe_str (pa_cons pe_str (pa_cons pe_str (pa_cons pe_str pa_nil)))))))))))))))
      (pss_cons (ps_set (i := 1) sc__law_wrong_part.nd rfl (by first | exact Or.inl rfl | exact Or.inr rfl) (pe_op op_cat (pv 1) (pe_lst (pa_cons pe_str (pa_cons pe_str (pa_cons pe_str (pa_cons pe_str (pa_cons pe_str (pa_cons pe_str (pa_cons pe_str (pa_cons pe_str (pa_cons pe_str (pa_cons pe_str pa_nil)))))))))))))
      (pss_cons (ps_set (i := 1) sc__law_wrong_part.nd rfl (by first | exact Or.inl rfl | exact Or.inr rfl) (pe_op op_cat (pv 1) (pe_lst (pa_cons pe_str (pa_cons pe_str (pa_cons pe_str (pa_cons pe_str (pa_cons pe_str (pa_cons pe_str (pa_cons pe_str (pa_cons pe_str (pa_cons pe_str (pa_cons pe_str pa_nil)))))))))))))
      (pss_cons (ps_set (i := 1) sc__law_wrong_part.nd rfl (by first | exact Or.inl rfl | exact Or.inr rfl) (pe_op op_cat (pv 1) (pe_lst (pa_cons pe_str (pa_cons pe_str (pa_cons pe_str (pa_cons pe_str (pa_cons pe_str (pa_cons pe_str (pa_cons pe_str (pa_cons pe_str (pa_cons pe_str pa_nil))))))))))))
      (pss_cons (ps_set (i := 1) sc__law_wrong_part.nd rfl (by first | exact Or.inl rfl | exact Or.inr rfl) (pe_op op_cat (pv 1) (pe_lst (pa_cons pe_str (pa_cons pe_str (pa_cons pe_str (pa_cons pe_str (pa_cons pe_str (pa_cons pe_str (pa_cons pe_str (pa_cons pe_str (pa_cons pe_str pa_nil))))))))))))
      (pss_one (ps_ret (pe_fn T.g__law_pick c__law_pick (hr.mono (by first | decide | exact Nat.le_refl _)) (by rfl) (pa_cons (pv 0) (pa_cons (pe_op op_cat (pv 1) (pe_lst (pa_cons pe_str (pa_cons pe_str (pa_cons pe_str pa_nil))))) pa_nil)))))))))), ?_⟩
  walk_at "in"
  refine seq_of (fun σ' H' => ∃ p, σ' = [some (.ref s), some (.ref p)] ∧ H' p = some (.lst (wr1.map V.str)) ∧ Old s l H H' ∧ Stm H' s l n) (fun b' kb => ?_) (fun σ' H1 hm => ?_)
  · walk_at "go"
    intro p fp
    exact kb _ _ ⟨p, rfl, upd_same, Old.of_same (same_new fp _), hs.same (same_new fp _)⟩
  obtain ⟨p1, rfl, hp1, o1, st1⟩ := hm
  obtain ⟨W1, eW1, lW1⟩ : ∃ W1, W1 = wr1.map V.str ∧ W1.length ≤ 60 := ⟨_, rfl, by decide⟩
  rw [← eW1] at hp1
  refine seq_of (fun σ' H' => ∃ p, σ' = [some (.ref s), some (.ref p)] ∧ H' p = some (.lst (W1 ++ wr2.map V.str)) ∧ Old s l H H' ∧ Stm H' s l n) (fun b' kb => ?_) (fun σ' H2 hm => ?_)
  · walk_at "go"
    intro q fq
    walk_at "go"
    intro r fr
    exact kb _ _ ⟨r, rfl, upd_same, o1.trans (Old.of_same ((same_new fq _).trans (same_new fr _))), st1.same ((same_new fq _).trans (same_new fr _))⟩
  obtain ⟨p2, rfl, hp2, o2, st2⟩ := hm
  obtain ⟨W2, eW2, lW2⟩ : ∃ W, W = W1 ++ wr2.map V.str ∧ W.length ≤ 60 := ⟨_, rfl, by rw [eW1]; decide⟩
  rw [← eW2] at hp2
  clear hp1 o1 st1 lW1
  refine seq_of (fun σ' H' => ∃ p, σ' = [some (.ref s), some (.ref p)] ∧ H' p = some (.lst (W2 ++ wr3.map V.str)) ∧ Old s l H H' ∧ Stm H' s l n) (fun b' kb => ?_) (fun σ' H3 hm => ?_)
  · walk_at "go"
    intro q fq
    walk_at "go"
    intro r fr
    exact kb _ _ ⟨r, rfl, upd_same, o2.trans (Old.of_same ((same_new fq _).trans (same_new fr _))), st2.same ((same_new fq _).trans (same_new fr _))⟩
  obtain ⟨p3, rfl, hp3, o3, st3⟩ := hm
  obtain ⟨W3, eW3, lW3⟩ : ∃ W, W = W2 ++ wr3.map V.str ∧ W.length ≤ 60 := ⟨_, rfl, by rw [eW2, eW1]; decide⟩
  rw [← eW3] at hp3
  clear hp2 o2 st2 lW2
  refine seq_of (fun σ' H' => ∃ p, σ' = [some (.ref s), some (.ref p)] ∧ H' p = some (.lst (W3 ++ wr4.map V.str)) ∧ Old s l H H' ∧ Stm H' s l n) (fun b' kb => ?_) (fun σ' H4 hm => ?_)
  · walk_at "go"
    intro q fq
    walk_at "go"
    intro r fr
    exact kb _ _ ⟨r, rfl, upd_same, o3.trans (Old.of_same ((same_new fq _).trans (same_new fr _))), st3.same ((same_new fq _).trans (same_new fr _))⟩
  obtain ⟨p4, rfl, hp4, o4, st4⟩ := hm
  obtain ⟨W4, eW4, lW4⟩ : ∃ W, W = W3 ++ wr4.map V.str ∧ W.length ≤ 60 := ⟨_, rfl, by rw [eW3, eW2, eW1]; decide⟩
  rw [← eW4] at hp4
  clear hp3 o3 st3 lW3
  refine seq_of (fun σ' H' => ∃ p, σ' = [some (.ref s), some (.ref p)] ∧ H' p = some (.lst (W4 ++ wr5.map V.str)) ∧ Old s l H H' ∧ Stm H' s l n) (fun b' kb => ?_) (fun σ' H5 hm => ?_)
  · walk_at "go"
    intro q fq
    walk_at "go"
    intro r fr
    exact kb _ _ ⟨r, rfl, upd_same, o4.trans (Old.of_same ((same_new fq _).trans (same_new fr _))), st4.same ((same_new fq _).trans (same_new fr _))⟩
  obtain ⟨p5, rfl, hp5, o5, st5⟩ := hm
  obtain ⟨W5, eW5, lW5⟩ : ∃ W, W = W4 ++ wr5.map V.str ∧ W.length ≤ 60 := ⟨_, rfl, by rw [eW4, eW3, eW2, eW1]; decide⟩
  rw [← eW5] at hp5
  clear hp4 o4 st4 lW4
  walk_at "go"
  intro q fq
  walk_at "go"
  intro r fr
  have s6 := (same_new fq (.lst (wr6.map V.str))).trans (same_new fr (.lst (W5 ++ wr6.map V.str)))
  have st6 := st5.same s6
  obtain ⟨nrs, nrl⟩ := stm_new (st5.same (same_new fq (.lst (wr6.map V.str)))) fr
  have hl : (W5 ++ wr6.map V.str).length ≤ 1000 := by rw [List.length_append]; show W5.length + 3 ≤ 1000; omega
  have hl1 : 1 ≤ (W5 ++ wr6.map V.str).length := by rw [List.length_append]; show 1 ≤ W5.length + 3; omega
  refine ⟨s, l, n, .ref r, rfl, st6, by omega, .inl ⟨r, W5 ++ wr6.map V.str, rfl, nrs, nrl, upd_same, hl1, hl, fun H' x k1 k2 k3 => ?_⟩⟩
  rw [eW5, eW4, eW3, eW2, eW1] at k3
  obtain ⟨p, rfl, h2, h3⟩ := wr_of k3
  exact hQ p _ (o5.trans ((Old.of_same s6).trans k1)) k2 h2 h3
end
end K17

set_option Elab.async false
set_option linter.all false
set_option maxRecDepth 100000
set_option maxHeartbeats 0

namespace K17
open PySem PySem.Spec PyProof.Rows L2 RC
section
variable {P : Program} {w : World} {K : PySem.W.Frag} {mg : Str → Option Value} {base : Heap}
/-! ### the law's turn -/
theorem join_tx (ps : List (List Nat)) : Txt.join "" (ps.map tx) = tx ps.flatten := by
  have h : (Txt.join "" (ps.map tx)).cps.toList = ps.flatten := by
    rw [TL.join_eq]
    show TL.tl _ = _
    rw [TL.tl_join]
    induction ps with
    | nil => rfl
    | cons p r ih =>
      cases r with
      | nil => show p = p ++ []; rw [List.append_nil]
      | cons q t =>
        show p ++ ([] ++ TL.joinL (TL.tl "") (((q :: t).map tx).map TL.tl)) = p ++ (q :: t).flatten
        rw [List.nil_append]
        exact congrArg (p ++ ·) ih
  rw [← tx_of (Txt.join "" (ps.map tx)), h]
theorem join_len {ps : List (List Nat)} (h : ps.flatten.length ≤ 1000) (hl : ps.length ≤ 1000) : ((ps.map tx).map (·.length)).sum + (ps.map tx).length * (Str.ofString "").length ≤ 16777216 := by
  have e : ((ps.map tx).map (·.length)).sum = ps.flatten.length := by
    rw [List.length_flatten, List.map_map]
    refine congrArg List.sum (List.map_congr_left fun q _ => tx_len q)
  rw [e, show (Str.ofString "").length = 0 from by decide +kernel, Nat.mul_zero]; omega
theorem txs_map (ps : List (List Nat)) : (ps.map fun q => V.str (tx q)) = (ps.map tx).map V.str := by rw [List.map_map]; rfl
def endsS : List Str := ["{a", "{a!r", "{a:", "{a:5", "{a!", "{", "{a:<", "{}"]
theorem ends_all : (endsS.all fun x => (decide (RO.cnt x.cps.toList % 2 = 1) || decide (x.cps.toList = [123, 125])) && decide (x.cps.toList.length ≤ 10)) = true := by decide +kernel
theorem ends_of {x : V} (h : x ∈ endsS.map V.str) : ∃ p, x = .str (tx p) ∧ (RO.cnt p % 2 = 1 ∨ p = [123, 125]) ∧ p.length ≤ 10 := by
  obtain ⟨z, h1, rfl⟩ := List.mem_map.mp h
  obtain ⟨h2, h3⟩ := Bool.and_eq_true_iff.mp (List.all_eq_true.mp ends_all z h1)
  refine ⟨z.cps.toList, by rw [tx_of], ?_, of_decide_eq_true h3⟩
  rcases Bool.or_eq_true_iff.mp h2 with h | h
  · exact .inl (of_decide_eq_true h)
  · exact .inr (of_decide_eq_true h)
theorem brace_of {x : V} (h : x ∈ ([.str "{", .str "}"] : List V)) : ∃ c, x = .str (tx [c]) ∧ (c = 123 ∨ c = 125) := by
  simp only [List.mem_cons, List.not_mem_nil, or_false] at h
  rcases h with rfl | rfl
  · exact ⟨123, by rw [s_open], .inl rfl⟩
  · exact ⟨125, by rw [s_close], .inr rfl⟩
theorem neVT {K : PySem.W.Frag} {H : Hp} {t u : Addr} {xs : List V} {Q : VK} (h1 : H t = some (.tup xs)) (h2 : H u = some (.tup xs)) (hf : xs.all RY.flatW = true) (q : Q (.bl false) H) : RU.rNeVT K (.ref t) (.ref u) H Q :=
  ⟨t, u, xs, rfl, rfl, SqT.of h1, SqT.of h2, hf, q⟩
theorem right_good {qs : List (List Nat)} (h : ∀ p ∈ qs, RJ.PcOk p) : ∃ fs, RO.Pc (qs ++ [[123, 97, 125]]).flatten fs ∧ RO.PB (qs ++ [[123, 97, 125]]).flatten (some fs) ∧ ∀ firm, ¬ bad (some fs) firm := by
  obtain ⟨⟨f1, h1⟩, _⟩ := RJ.pc_flat qs h
  have h2 : RO.Pc [123, 97, 125] [Sum.inr ([97], [], [32], [], [])] := RO.Pc.field (b := [97]) (by decide +kernel)
  have e : (qs ++ [[123, 97, 125]]).flatten = qs.flatten ++ [123, 97, 125] := by simp
  rw [e]
  have h3 := h1.app h2
  refine ⟨_, h3, h3.right, fun firm hb => ?_⟩
  rcases hb with hb | ⟨ps2, k1, _, k3⟩
  · cases hb
  · cases k1
    rw [List.map_append, List.all_append] at k3
    obtain ⟨_, k4⟩ := Bool.and_eq_true_iff.mp k3
    cases k4
theorem bare_all : ∀ t : List Nat, (((t.map Sum.inl : List RO.Pt).map tB).all id) = true
  | [] => rfl
  | _ :: t => bare_all t
def bodyFor : Stmt → List Stmt
  | .For _ _ b _ _ => b
  | _ => []
abbrev b_turn : List Stmt := bodyFor ((defBody s_law).getD 1 (.Pass ⟨0, 0, 0, 0⟩))
abbrev sg (a s : Addr) (o2 o3 o4 o5 o6 o7 o8 o9 o10 o11 o12 o13 : Option V) : L2.St := [some (.ref a), some (.ref s), o2, o3, o4, o5, o6, o7, o8, o9, o10, o11, o12, o13]
theorem turn (T : Txt P w K mg) {f : Addr} {cdv : Value} {A : Around} {outer : List Env} {st0 : Shared} {E : XK} {H : Hp} (hr : Room 7 (A.deeper (envOfC "law" (defScope s_law) st0.heap.objs.size f cdv)))
    (c__law_draw : Callable P w K mg base 1 (He.ga K "_law_draw") ["_law_stream", "_law_many"] [] spDraw)
    (c__law_pick : Callable P w K mg base 2 (He.ga K "_law_pick") ["_law_stream", "_law_some"] [] (spPick K))
    (c__law_text : Callable P w K mg base 3 (He.ga K "_law_text") ["_law_stream", "_law_signs", "_law_most"] [] spText)
    (c__law_format_parts : Callable P w K mg base 4 (He.ga K "_law_format_parts") ["_law_stream", "_law_most", "_law_keys"] [] spFormatParts)
    (c__law_braced_parts : Callable P w K mg base 2 (He.ga K "_law_braced_parts") ["_law_parts"] [] spBracedParts)
    (c__law_braced_text : Callable P w K mg base 1 (He.ga K "_law_braced_text") ["_law_shown"] [] spBracedText)
    (c__law_wrong_part : Callable P w K mg base 3 (He.ga K "_law_wrong_part") ["_law_stream"] [] spWrong)
    (c__law_formatter_told : Callable P w K mg base 7 (He.ga K "_law_formatter_told") ["_law_form", "_law_sign", "_law_firm"] [] (spTold K))
    (c__law_made_alone : Callable P w K mg base 7 (He.ga K "_law_made_alone") ["_law_form", "_law_sign"] [] (spAlone K))
    (c__law_same : Callable P w K mg base 5 (He.ga K "_law_same") ["_law_found", "_law_due"] [] (spSame 4)) :
    ∃ t, PSs (cxOf CX0 P w K mg base nm_law "law" (defScope s_law) f cdv A outer st0 H E).nox b_turn t ∧ ∀ {a s l : Addr} (n : Nat) (H5 : Hp) (D' : Ends) (o2 o3 o4 o5 o6 o7 o8 o9 o10 o11 o12 o13 : Option V), Stm H5 s l n → n ≤ 500000 →
      (∀ σ H', Stm H' s l (n + 2000) → (∃ o2 o3 o4 o5 o6 o7 o8 o9 o10 o11 o12 o13, σ = sg a s o2 o3 o4 o5 o6 o7 o8 o9 o10 o11 o12 o13) → D'.nx σ H') → t D' (sg a s o2 o3 o4 o5 o6 o7 o8 o9 o10 o11 o12 o13) H5 := by
  refine ⟨_, (pss_cons (ps_set (i := 3) sc_law.nd rfl (by first | exact Or.inl rfl | exact Or.inr rfl) (pe_fn T.g__law_braced_parts c__law_braced_parts (hr.mono (by first | decide | exact Nat.le_refl _)) (by rfl) (pa_cons (pe_op op_cat (pe_fn T.g__law_format_parts c__law_format_parts (hr.mono (by first | decide | exact Nat.le_refl _)) (by rfl) (pa_cons (pv 1) (pa_cons pe_int (pa_cons (pe_lst (pa_cons pe_str (pa_cons pe_str (pa_cons pe_str pa_nil)))) pa_nil)))) (pe_lst (pa_cons (pe_tup (pa_cons pe_str (pa_cons pe_str (pa_cons pe_str (pa_cons pe_str (pa_cons pe_int pa_nil)))))) pa_nil))) pa_nil)))
      (pss_cons (ps_par (by rfl) sc_law.nd (i := 4) (j := 5) rfl rfl (by decide) rfl rfl (pa_cons (pe_join pe_str (pv 3)) (pa_cons (pe_cmpR op_eq (pe_fn T.g__law_draw c__law_draw (hr.mono (by first | decide | exact Nat.le_refl _)) (by rfl) (pa_cons (pv 1) (pa_cons pe_int pa_nil))) pe_int (nomark _)) pa_nil)) (by rfl))
      (pss_cons (ps_par (by rfl) sc_law.nd (i := 6) (j := 7) rfl rfl (by decide) rfl rfl (pa_cons (pe_fn T.g__law_draw c__law_draw (hr.mono (by first | decide | exact Nat.le_refl _)) (by rfl) (pa_cons (pv 1) (pa_cons (pe_op op_add (pe_callB call_len (by rfl) T.b_len (by decide +kernel) (pa_cons (pv 3) pa_nil)) pe_int) pa_nil))) (pa_cons (pe_fn T.g__law_draw c__law_draw (hr.mono (by first | decide | exact Nat.le_refl _)) (by rfl) (pa_cons (pv 1) (pa_cons pe_int pa_nil))) pa_nil)) (by rfl))
      (pss_cons (ps_set (i := 8) sc_law.nd rfl (by first | exact Or.inl rfl | exact Or.inr rfl) (pe_join pe_str (pe_op op_cat (pe_op op_cat (pe_slice sl_list (pv 3) po_none (po_some (pv 6))) (pe_lst (pa_cons (pe_fn T.g__law_wrong_part c__law_wrong_part (hr.mono (by first | decide | exact Nat.le_refl _)) (by rfl) (pa_cons (pv 1) pa_nil)) pa_nil))) (pe_slice sl_list (pv 3) (po_some (pv 6)) po_none))))
      (pss_cons (ps_if (pt_cmpR op_eq (pv 7) pe_int (nomark _)) (pss_cons (ps_set (i := 9) sc_law.nd rfl (by first | exact Or.inl rfl | exact Or.inr rfl) (pe_fn T.g__law_draw c__law_draw (hr.mono (by first | decide | exact Nat.le_refl _)) (by rfl) (pa_cons (pv 1) (pa_cons (pe_op op_add (pe_callB call_len (by rfl) T.b_len (by decide +kernel) (pa_cons (pv 4) pa_nil)) pe_int) pa_nil))))
      (pss_one (ps_set (i := 8) sc_law.nd rfl (by first | exact Or.inl rfl | exact Or.inr rfl) (pe_op op_add_str (pe_op op_add_str (pe_slice sl_str (pv 4) po_none (po_some (pv 9))) (pe_fn T.g__law_pick c__law_pick (hr.mono (by first | decide | exact Nat.le_refl _)) (by rfl) (pa_cons (pv 1) (pa_cons (pe_lst (pa_cons pe_str (pa_cons pe_str pa_nil))) pa_nil)))) (pe_slice sl_str (pv 4) (po_some (pv 9)) po_none))))) pss_nil)
      (pss_cons (ps_if (pt_cmpR op_eq (pv 7) pe_int (nomark _)) (pss_one (ps_set (i := 8) sc_law.nd rfl (by first | exact Or.inl rfl | exact Or.inr rfl) (pe_op op_add_str (pv 4) (pe_fn T.g__law_pick c__law_pick (hr.mono (by first | decide | exact Nat.le_refl _)) (by rfl) (pa_cons (pv 1) (pa_cons (pe_lst (pa_cons pe_str (pa_cons pe_str (pa_cons pe_str (pa_cons pe_str (pa_cons pe_str (pa_cons pe_str (pa_cons pe_str (pa_cons pe_str pa_nil))))))))) pa_nil)))))) pss_nil)
      (pss_cons (ps_if (pt_cmpR (RU.op_neVT (Nat.lt_of_succ_lt (hu_of hr))) (pe_fn T.g__law_formatter_told c__law_formatter_told (hr.mono (by first | decide | exact Nat.le_refl _)) (by rfl) (pa_cons (pv 8) (pa_cons pe_str (pa_cons (pv 5) pa_nil)))) (pe_tup (pa_cons pe_str (pa_cons (pv 8) pa_nil))) (nomark _)) (pss_one (ps_ret pe_bl)) pss_nil)
      (pss_cons (ps_set (i := 10) sc_law.nd rfl (by first | exact Or.inl rfl | exact Or.inr rfl) (pe_fn T.g__law_braced_text c__law_braced_text (hr.mono (by first | decide | exact Nat.le_refl _)) (by rfl) (pa_cons (pe_fn T.g__law_text c__law_text (hr.mono (by first | decide | exact Nat.le_refl _)) (by rfl) (pa_cons (pv 1) (pa_cons pe_str (pa_cons pe_int pa_nil)))) pa_nil)))
      (pss_cons (ps_set (i := 11) sc_law.nd rfl (by first | exact Or.inl rfl | exact Or.inr rfl) (pe_ifExp (pt_val (pv 5)) (pe_tup (pa_cons pe_str (pa_cons (pv 10) pa_nil))) (pe_tup (pa_cons pe_str (pa_cons pe_non pa_nil)))))
      (pss_cons (ps_if (PW.pt (pw_or (pt_cmpR (RU.op_neVT (Nat.lt_of_succ_lt (hu_of hr))) (pe_fn T.g__law_formatter_told c__law_formatter_told (hr.mono (by first | decide | exact Nat.le_refl _)) (by rfl) (pa_cons (pv 10) (pa_cons pe_str (pa_cons (pv 5) pa_nil)))) (pv 11) (nomark _)) (pw_or1 (pt_cmpR op_ne (pe_ix ix_tup (pe_fn T.g__law_formatter_told c__law_formatter_told (hr.mono (by first | decide | exact Nat.le_refl _)) (by rfl) (pa_cons (pv 4) (pa_cons pe_str (pa_cons (pv 5) pa_nil)))) pe_int (fun _ _ => rfl)) pe_str (nomark _))))) (pss_one (ps_ret pe_bl)) pss_nil)
      (pss_cons (ps_if (PW.pt (pw_or (pt_cmpR (RU.op_neVT (Nat.lt_of_succ_lt (hu_of hr))) (pe_fn T.g__law_made_alone c__law_made_alone (hr.mono (by first | decide | exact Nat.le_refl _)) (by rfl) (pa_cons (pv 10) (pa_cons pe_str pa_nil))) (pe_tup (pa_cons pe_str (pa_cons (pv 10) pa_nil))) (nomark _)) (pw_or1 (pt_cmpR op_ne (pe_ix ix_tup (pe_fn T.g__law_made_alone c__law_made_alone (hr.mono (by first | decide | exact Nat.le_refl _)) (by rfl) (pa_cons (pv 4) (pa_cons pe_str pa_nil))) pe_int (fun _ _ => rfl)) pe_str (nomark _))))) (pss_one (ps_ret pe_bl)) pss_nil)
      (pss_cons (ps_set (i := 12) sc_law.nd rfl (by first | exact Or.inl rfl | exact Or.inr rfl) (pe_fn T.g__law_pick c__law_pick (hr.mono (by first | decide | exact Nat.le_refl _)) (by rfl) (pa_cons (pv 1) (pa_cons (pe_lst (pa_cons pe_str (pa_cons pe_str (pa_cons pe_str (pa_cons pe_str (pa_cons pe_str (pa_cons pe_non (pa_cons pe_int (pa_cons pe_bl (pa_cons (pe_lst pa_nil) (pa_cons (pe_lst (pa_cons pe_str pa_nil)) (pa_cons (pe_tup (pa_cons pe_str pa_nil)) (pa_cons (pe_disp (pps_cons pe_str pe_int pps_nil) (by rfl) (by rfl) (fun z => by cases z) (by decide)) (pa_cons pe_int pa_nil)))))))))))))) pa_nil))))
      (pss_one (ps_for PassesOwn.never rfl (pi_tup (pe_tup (pa_cons (pv 4) (pa_cons (pv 8) (pa_cons pe_non pa_nil))))) (pg_name (i := 13) sc_law.nd rfl (by first | exact Or.inl rfl | exact Or.inr rfl)) (pss_one (ps_if (pt_not (pt_val (pe_fn T.g__law_same c__law_same (hr.mono (by first | decide | exact Nat.le_refl _)) (by rfl) (pa_cons (pe_fn T.g__law_formatter_told c__law_formatter_told (hr.mono (by first | decide | exact Nat.le_refl _)) (by rfl) (pa_cons (pv 13) (pa_cons (pv 12) (pa_cons (pv 5) pa_nil)))) (pa_cons (pe_tup (pa_cons pe_str (pa_cons (pv 12) pa_nil))) pa_nil))))) (pss_one (ps_ret pe_bl)) pss_nil)))))))))))))))), ?_⟩
  walk_at "in"
  intro a s l n H5 D' o2 o3 o4 o5 o6 o7 o8 o9 o10 o11 o12 o13 st hn k'
  refine seq_of (fun σ' H' => ∃ pp qs, (∀ p ∈ qs, RJ.PcOk p) ∧ qs.length ≤ 3 ∧ σ' = sg a s o2 (some (.ref pp)) o4 o5 o6 o7 o8 o9 o10 o11 o12 o13 ∧ Stm H' s l (n + 1000) ∧ pp ≠ s ∧ pp ≠ l ∧ H' pp = some (.lst ((qs ++ [[123, 97, 125]]).map fun q => V.str (tx q)))) (fun b' kb => ?_) (fun σ' H1 hm => ?_)
  · walk_at "go"
    intro k fk
    obtain ⟨nks, nkl⟩ := stm_new st fk
    have st1 := st.same (same_new fk (.lst keysV))
    refine ⟨s, l, k, n, rfl, st1, by omega, upd_same, nks, nkl, fun p fs xs H6 O6 st6 fp hp hfs hfl => ?_⟩
    clear O6 fp st1 fk nks nkl
    walk_at "go"
    intro q fq
    have hp7 := same_new fq (.tup [.str "a", .str "", .str " ", .str "", .int 0]) _ _ hp
    have st7 := st6.same (same_new fq (.tup [.str "a", .str "", .str " ", .str "", .int 0]))
    have hfa : BpV (upd H6 q (.tup [.str "a", .str "", .str " ", .str "", .int 0])) [123, 97, 125] (.ref q) := by
      refine .inr ⟨q, [97], [], [32], [], [], 0, rfl, ?_, by decide, by decide, fa_none, by decide, by decide⟩
      rw [upd_same, ← s_blank, ← s_empty, show Str.ofString "a" = tx [97] by decide +kernel]
    have hfs7 := (hfs.to fun _ _ e => same_new fq (.tup [.str "a", .str "", .str " ", .str "", .int 0]) _ _ e).snoc hfa
    generalize upd H6 q (.tup [.str "a", .str "", .str " ", .str "", .int 0]) = H7 at hp7 st7 hfs7 ⊢
    clear hp st6 hfa
    have hxl : xs.length ≤ 3 := by have := hfs.len; omega
    have hfo := hfs.ok
    clear hfs fq
    walk_at "go"
    intro r fr
    have hp8 := same_new fr (.lst [.ref q]) _ _ hp7
    have st8 := st7.same (same_new fr (.lst [.ref q]))
    have hfs8 := hfs7.to fun _ _ e => same_new fr (.lst [.ref q]) _ _ e
    have hr8 : upd H7 r (.lst [.ref q]) r = some (.lst [.ref q]) := upd_same
    generalize upd H7 r (.lst [.ref q]) = H8 at hp8 st8 hfs8 hr8 ⊢
    have hsz : xs.length + 1 ≤ sizeLine := by rw [sizeLine_eq]; omega
    clear hp7 st7 hfs7 fr
    refine ⟨p, r, xs, [.ref q], rfl, rfl, hp8, hr8, hsz, fun pp fpp => ?_⟩
    have hpp : upd H8 pp (.lst (xs ++ [.ref q])) pp = some (.lst (xs ++ [.ref q])) := upd_same
    have st9 := st8.same (same_new fpp (.lst (xs ++ [.ref q])))
    have hfs9 := hfs8.to fun _ _ e => same_new fpp (.lst (xs ++ [.ref q])) _ _ e
    generalize upd H8 pp (.lst (xs ++ [.ref q])) = H9 at hpp st9 hfs9 ⊢
    refine ⟨pp, _, _, rfl, hpp, hfs9, by rw [List.length_append]; show fs.length + 1 ≤ 1000; omega, fun t H10 s10 ft ht => ?_⟩
    obtain ⟨nts, ntl⟩ := stm_new st9 ft
    walk_at "go"
    exact kb _ _ ⟨t, fs, hfo, hfl, rfl, st9.same s10, nts, ntl, ht⟩
  obtain ⟨pp, qs, hqo, hql, rfl, st1, nps, npl, hpp⟩ := hm
  clear st
  obtain ⟨fsR, hPc, hPR, hgood⟩ := right_good hqo
  have hpo : ∀ p ∈ qs ++ [[123, 97, 125]], RJ.PcOk p := fun p hp => by
    rcases List.mem_append.mp hp with h | h
    · exact hqo p h
    · rw [List.mem_singleton.mp h]
      exact RJ.field_ok (k := [97]) (g := []) (f := [32]) (a := []) (ws := []) (w := 0) (by decide) (by decide) fa_none (by decide)
  have hpl : (qs ++ [[123, 97, 125]]).length ≤ 4 := by rw [List.length_append]; show qs.length + 1 ≤ 4; omega
  generalize qs ++ [[123, 97, 125]] = ps at hpp hPc hPR hpo hpl
  clear hqo hql
  obtain ⟨_, hRl⟩ := RJ.pc_flat ps hpo
  have hR80 : ps.flatten.length ≤ 80 := by omega
  refine seq_of (fun σ' H' => ∃ firm, σ' = sg a s o2 (some (.ref pp)) (some (.str (tx ps.flatten))) (some (.bl firm)) o6 o7 o8 o9 o10 o11 o12 o13 ∧ Stm H' s l (n + 1001) ∧ H' pp = some (.lst (ps.map fun q => V.str (tx q)))) (fun b' kb => ?_) (fun σ' H2 hm => ?_)
  · refine ⟨⟨_, rfl⟩, _, rfl, "", pp, ps.map tx, rfl, rfl, .inl (SqL.of (by rw [← txs_map]; exact hpp)), join_len (by omega) (by omega), ?_⟩
    rw [join_tx]
    walk_at "go"
    intro H2 d q2 st2 d1 d2
    walk_at "go"
    exact kb _ _ ⟨_, rfl, st2, q2 _ _ nps npl hpp⟩
  obtain ⟨firm, rfl, st2, hpp2⟩ := hm
  clear st1 hpp
  refine seq_of (fun σ' H' => ∃ (at_ : Nat) (way : Int), at_ ≤ ps.length ∧ σ' = sg a s o2 (some (.ref pp)) (some (.str (tx ps.flatten))) (some (.bl firm)) (some (.int (at_ : Nat))) (some (.int way)) o8 o9 o10 o11 o12 o13 ∧ Stm H' s l (n + 1003) ∧ H' pp = some (.lst (ps.map fun q => V.str (tx q)))) (fun b' kb => ?_) (fun σ' H3 hm => ?_)
  · have hl : (ps.map fun q => V.str (tx q)).length = ps.length := List.length_map ..
    have hl4 : (ps.map fun q => V.str (tx q)).length ≤ 4 := by rw [hl]; exact hpl
    have hl0 : 1 ≤ (ps.map fun q => V.str (tx q)).length + 1 := Nat.le_add_left _ _
    walk_at "go"
    intro H3 d q3 st3 d1 d2
    have hpp3 := q3 _ _ nps npl hpp2
    obtain ⟨at_, rfl⟩ := Int.eq_ofNat_of_zero_le d1
    have hat : at_ ≤ ps.length := by rw [hl] at d2; omega
    walk_at "go"
    intro H4 d' q4 st4 e1 e2
    have hpp4 := q4 _ _ nps npl hpp3
    walk_at "go"
    exact kb _ _ ⟨at_, d', hat, rfl, st4, hpp4⟩
  obtain ⟨at_, way, hat, rfl, st3, hpp3⟩ := hm
  clear st2 hpp2
  refine seq_of (fun σ' H' => ∃ B, RO.PB B none ∧ B.length ≤ 200 ∧ σ' = sg a s o2 (some (.ref pp)) (some (.str (tx ps.flatten))) (some (.bl firm)) (some (.int (at_ : Nat))) (some (.int way)) (some (.str (tx B))) o9 o10 o11 o12 o13 ∧ Stm H' s l (n + 1004)) (fun b' kb => ?_) (fun σ' H4 hm => ?_)
  · have hl : (ps.map fun q => V.str (tx q)).length = ps.length := List.length_map ..
    have hca : cutV (ps.map fun q => V.str (tx q)) none (some (at_ : Int)) = (ps.take at_).map fun q => V.str (tx q) := by
      unfold cutV
      rw [sIx_nat' (by rw [hl]; exact hat), List.map_take]; rfl
    have hcb : cutV (ps.map fun q => V.str (tx q)) (some (at_ : Int)) none = (ps.drop at_).map fun q => V.str (tx q) := by
      unfold cutV
      rw [sIx_nat' (by rw [hl]; exact hat), List.map_drop]
      show ((ps.map fun q => V.str (tx q)).drop at_).take ((ps.map fun q => V.str (tx q)).length - at_) = _
      rw [List.take_of_length_le (by rw [List.length_drop]; exact Nat.le_refl _)]
    have la : (ps.take at_).length ≤ 4 := Nat.le_trans (by rw [List.length_take]; omega) hpl
    have lb : (ps.drop at_).length ≤ 4 := Nat.le_trans (by rw [List.length_drop]; omega) hpl
    refine ⟨⟨_, rfl⟩, ?_⟩
    walk_at "go"
    intro p1 f1
    rw [hca]
    have st4 := st3.same (same_new f1 (.lst ((ps.take at_).map fun q => V.str (tx q))))
    have hpp4 := same_new f1 (.lst ((ps.take at_).map fun q => V.str (tx q))) _ _ hpp3
    have hp4 : upd H3 p1 (.lst ((ps.take at_).map fun q => V.str (tx q))) p1 = some (.lst ((ps.take at_).map fun q => V.str (tx q))) := upd_same
    obtain ⟨n1s, n1l⟩ := stm_new st3 f1
    generalize upd H3 p1 (.lst ((ps.take at_).map fun q => V.str (tx q))) = H4 at st4 hpp4 hp4 ⊢
    clear f1
    walk_at "go"
    intro w H5 q5 st5 hw hwl
    have hpp5 := q5 _ _ nps npl hpp4
    have hp5 := q5 _ _ n1s n1l hp4
    clear q5 hp4 hpp4 st4
    walk_at "go"
    intro p2 f2
    have st6 := st5.same (same_new f2 (.lst [.str (tx w)]))
    have hpp6 := same_new f2 (.lst [.str (tx w)]) _ _ hpp5
    have hp6 := same_new f2 (.lst [.str (tx w)]) _ _ hp5
    have hq6 : upd H5 p2 (.lst [.str (tx w)]) p2 = some (.lst [.str (tx w)]) := upd_same
    generalize upd H5 p2 (.lst [.str (tx w)]) = H6 at st6 hpp6 hp6 hq6 ⊢
    clear f2 hp5 hpp5 st5
    have z1 : ((ps.take at_).map fun q => V.str (tx q)).length + 1 ≤ sizeLine := by rw [List.length_map, sizeLine_eq]; omega
    refine ⟨p1, p2, _, _, rfl, rfl, hp6, hq6, z1, fun p3 f3 => ?_⟩
    have e3 : ((ps.take at_).map fun q => V.str (tx q)) ++ [V.str (tx w)] = (ps.take at_ ++ [w]).map fun q => V.str (tx q) := by rw [List.map_append]; rfl
    rw [e3]
    have st7 := st6.same (same_new f3 (.lst ((ps.take at_ ++ [w]).map fun q => V.str (tx q))))
    have hpp7 := same_new f3 (.lst ((ps.take at_ ++ [w]).map fun q => V.str (tx q))) _ _ hpp6
    have hp7 : upd H6 p3 (.lst ((ps.take at_ ++ [w]).map fun q => V.str (tx q))) p3 = some (.lst ((ps.take at_ ++ [w]).map fun q => V.str (tx q))) := upd_same
    generalize upd H6 p3 (.lst ((ps.take at_ ++ [w]).map fun q => V.str (tx q))) = H7 at st7 hpp7 hp7 ⊢
    clear f3 hp6 hpp6 hq6 st6
    walk_at "go"
    intro p4 f4
    rw [hcb]
    have st8 := st7.same (same_new f4 (.lst ((ps.drop at_).map fun q => V.str (tx q))))
    have hp8 := same_new f4 (.lst ((ps.drop at_).map fun q => V.str (tx q))) _ _ hp7
    have hq8 : upd H7 p4 (.lst ((ps.drop at_).map fun q => V.str (tx q))) p4 = some (.lst ((ps.drop at_).map fun q => V.str (tx q))) := upd_same
    generalize upd H7 p4 (.lst ((ps.drop at_).map fun q => V.str (tx q))) = H8 at st8 hp8 hq8 ⊢
    clear f4 hp7 hpp7 st7
    have z2 : ((ps.take at_ ++ [w]).map fun q => V.str (tx q)).length + ((ps.drop at_).map fun q => V.str (tx q)).length ≤ sizeLine := by
      rw [List.length_map, List.length_map, List.length_append, sizeLine_eq]; show _ + 1 + _ ≤ _; omega
    refine ⟨p3, p4, _, _, rfl, rfl, hp8, hq8, z2, fun p5 f5 => ?_⟩
    have e4 : ((ps.take at_ ++ [w]).map fun q => V.str (tx q)) ++ ((ps.drop at_).map fun q => V.str (tx q)) = (ps.take at_ ++ [w] ++ ps.drop at_).map fun q => V.str (tx q) := by rw [← List.map_append]
    rw [e4]
    have hao : ∀ p ∈ ps.take at_, RJ.PcOk p := fun p hp => hpo p (List.mem_of_mem_take hp)
    have hbo : ∀ p ∈ ps.drop at_, RJ.PcOk p := fun p hp => hpo p (List.mem_of_mem_drop hp)
    obtain ⟨⟨fa, ha1⟩, ha2⟩ := RJ.pc_flat _ hao
    obtain ⟨⟨fb, hb1⟩, hb2⟩ := RJ.pc_flat _ hbo
    have eF : (ps.take at_ ++ [w] ++ ps.drop at_).flatten = (ps.take at_).flatten ++ (w ++ (ps.drop at_).flatten) := by simp
    have fl : (ps.take at_ ++ [w] ++ ps.drop at_).flatten.length ≤ 200 := by rw [eF, List.length_append, List.length_append]; omega
    refine ⟨"", p5, (ps.take at_ ++ [w] ++ ps.drop at_).map tx, rfl, rfl, .inl (SqL.of (by rw [← txs_map]; exact upd_same)), join_len (by omega) (by rw [List.length_append, List.length_append]; show _ + 1 + _ ≤ 1000; omega), ?_⟩
    rw [join_tx]
    exact kb _ _ ⟨_, by rw [eF]; exact RJ.wrong_none ha1 hb1 hw, fl, rfl, st8.same (same_new f5 _)⟩
  obtain ⟨B, hB, hBl, rfl, st4⟩ := hm
  clear st3 hpp3 hat
  refine seq_of (fun σ' H' => ∃ B o9, RO.PB B none ∧ B.length ≤ 200 ∧ σ' = sg a s o2 (some (.ref pp)) (some (.str (tx ps.flatten))) (some (.bl firm)) (some (.int (at_ : Nat))) (some (.int way)) (some (.str (tx B))) o9 o10 o11 o12 o13 ∧ Stm H' s l (n + 1006)) (fun b' kb => ?_) (fun σ' H5 hm => ?_)
  · by_cases w0 : way = 0
    · have t1 : decide (V.int way = V.int 0) = true := decide_eq_true (congrArg V.int w0)
      have rl2 : (tx ps.flatten).length ≤ sizeLine := by rw [tx_len, sizeLine_eq]; omega
      have rl3 : (tx ps.flatten).length = ps.flatten.length := tx_len _
      walk_at "go"
      refine ⟨⟨rl2, rfl⟩, ?_⟩
      walk_at "go"
      intro H5 d q5 st5 d1 d2
      obtain ⟨spot, rfl⟩ := Int.eq_ofNat_of_zero_le d1
      have hc1 : cutS (tx ps.flatten) none (some (spot : Int)) = tx (ps.flatten.take spot) := cut_to
      have hc2 : cutS (tx ps.flatten) (some (spot : Int)) none = tx (ps.flatten.drop spot) := cut_from
      walk_at "go"
      intro p fp
      have st6 := st5.same (same_new fp (.lst [.str "{", .str "}"]))
      obtain ⟨nqs, nql⟩ := stm_new st5 fp
      refine ⟨s, l, n + 1005, .ref p, rfl, st6, by omega, .inl ⟨p, _, rfl, nqs, nql, upd_same, by decide, by decide, fun H7 x q7 st7 hx => ?_⟩⟩
      obtain ⟨c, rfl, hc⟩ := brace_of hx
      have lt1 : (ps.flatten.take spot).length ≤ 80 := Nat.le_trans (by rw [List.length_take]; omega) hR80
      have lt2 : (ps.flatten.drop spot).length ≤ 80 := Nat.le_trans (by rw [List.length_drop]; omega) hR80
      have l1 : (cutS (tx ps.flatten) none (some (spot : Int))).length + (tx [c]).length ≤ sizeLine := by rw [hc1]; exact add_le (by show _ + 1 ≤ 1000; omega)
      have l2 : (cutS (tx ps.flatten) none (some (spot : Int)) ++ tx [c]).length + (cutS (tx ps.flatten) (some (spot : Int)) none).length ≤ sizeLine := by
        rw [hc1, hc2, tx_app]; exact add_le (by rw [List.length_append]; show _ + 1 + _ ≤ 1000; omega)
      walk_at "go"
      refine kb _ _ ⟨ps.flatten.take spot ++ (c :: ps.flatten.drop spot), some (.int (spot : Nat)), RJ.spot_none hPc spot hc, by rw [List.length_append, List.length_cons]; omega, ?_, st7⟩
      rw [hc1, hc2, tx_app, tx_app, List.append_assoc]; rfl
    · have t1 : decide (V.int way = V.int 0) = false := decide_eq_false fun z => w0 (V.int.inj z)
      walk_at "go"
      exact kb _ _ ⟨B, _, hB, hBl, rfl, st4.mono (by omega)⟩
  clear hB hBl st4 B o9
  obtain ⟨B, o9, hB, hBl, rfl, st5⟩ := hm
  refine seq_of (fun σ' H' => ∃ B, RO.PB B none ∧ B.length ≤ 200 ∧ σ' = sg a s o2 (some (.ref pp)) (some (.str (tx ps.flatten))) (some (.bl firm)) (some (.int (at_ : Nat))) (some (.int way)) (some (.str (tx B))) o9 o10 o11 o12 o13 ∧ Stm H' s l (n + 1007)) (fun b' kb => ?_) (fun σ' H6 hm => ?_)
  · by_cases w0 : way = 1
    · have t1 : decide (V.int way = V.int 1) = true := decide_eq_true (congrArg V.int w0)
      walk_at "go"
      intro p fp
      have st6 := st5.same (same_new fp (.lst (endsS.map V.str)))
      obtain ⟨nqs, nql⟩ := stm_new st5 fp
      refine ⟨s, l, n + 1006, .ref p, rfl, st6, by omega, .inl ⟨p, endsS.map V.str, rfl, nqs, nql, upd_same, by decide, by decide, fun H7 x q7 st7 hx => ?_⟩⟩
      obtain ⟨c, rfl, hc, hcl⟩ := ends_of hx
      have l1 : (tx ps.flatten).length + (tx c).length ≤ sizeLine := add_le (by omega)
      walk_at "go"
      refine kb _ _ ⟨ps.flatten ++ c, RJ.end_none hPc hc, by rw [List.length_append]; omega, ?_, st7⟩
      rw [tx_app]; rfl
    · have t1 : decide (V.int way = V.int 1) = false := decide_eq_false fun z => w0 (V.int.inj z)
      walk_at "go"
      exact kb _ _ ⟨B, hB, hBl, rfl, st5.mono (by omega)⟩
  clear hB hBl st5 B
  obtain ⟨B, hB, hBl, rfl, st6⟩ := hm
  refine seq_of (fun σ' H' => σ' = sg a s o2 (some (.ref pp)) (some (.str (tx ps.flatten))) (some (.bl firm)) (some (.int (at_ : Nat))) (some (.int way)) (some (.str (tx B))) o9 o10 o11 o12 o13 ∧ Stm H' s l (n + 1007)) (fun b' kb => ?_) (fun σ' H7 hm => ?_)
  · have xB : (tx B).length ≤ 1000000 := by rw [tx_len]; omega
    walk_at "go"
    refine .inl ⟨tx B, firm, none, rfl, xB, hB, fun t H7 _ s7 ht => ?_, fun t H7 hb => absurd (.inl rfl) hb⟩
    walk_at "go"
    intro u fu
    have su := s7.trans (same_new fu (.tup [.str "format", .str (tx B)]))
    refine neVT (same_new fu _ _ _ ht) upd_same rfl ?_
    refine ⟨_, rfl, iteF' rfl ?_⟩
    exact kb _ _ ⟨rfl, st6.same su⟩
  obtain ⟨rfl, st7⟩ := hm
  clear st6
  refine seq_of (fun σ' H' => ∃ t : List Nat, t.length ≤ 4 ∧ σ' = sg a s o2 (some (.ref pp)) (some (.str (tx ps.flatten))) (some (.bl firm)) (some (.int (at_ : Nat))) (some (.int way)) (some (.str (tx B))) o9 (some (.str (tx (RO.escB t)))) o11 o12 o13 ∧ Stm H' s l (n + 1107)) (fun b' kb => ?_) (fun σ' H8 hm => ?_)
  · walk_at "go"
    intro H8 r q8 st8 hrl
    have er : (.str r : V) = .str (tx r.cps.toList) := by rw [tx_of]
    have hrl2 : r.cps.toList.length ≤ 4 := by rw [Array.length_toList]; exact Int.ofNat_le.mp hrl
    rw [er]
    generalize r.cps.toList = t at hrl2 ⊢
    have tl : t.length ≤ 1000 := by omega
    walk_at "go"
    exact kb _ _ ⟨t, hrl2, rfl, st8⟩
  obtain ⟨t, htl, rfl, st8⟩ := hm
  clear st7
  have hPb : RO.PB (RO.escB t) (some (t.map Sum.inl)) := (RO.Pc.text t).right
  have hbl : (RO.escB t).length ≤ 8 := Nat.le_trans (RJ.escB_len t) (by omega)
  have xb : (tx (RO.escB t)).length ≤ 1000000 := by rw [tx_len]; omega
  have xR : (tx ps.flatten).length ≤ 1000000 := by rw [tx_len]; omega
  generalize RO.escB t = b at hPb hbl xb ⊢
  have hbad : bad (some (t.map Sum.inl)) true := .inr ⟨_, rfl, rfl, bare_all t⟩
  have hbad2 : ¬ bad (some (t.map Sum.inl)) false := fun h => by
    rcases h with h | ⟨_, _, h, _⟩ <;> cases h
  refine seq_of (fun σ' H' => ∃ due, H' due = some (.tup (if firm = true then [.str "format", .str (tx b)] else [.str "made", .non])) ∧ σ' = sg a s o2 (some (.ref pp)) (some (.str (tx ps.flatten))) (some (.bl firm)) (some (.int (at_ : Nat))) (some (.int way)) (some (.str (tx B))) o9 (some (.str (tx b))) (some (.ref due)) o12 o13 ∧ Stm H' s l (n + 1107)) (fun b' kb => ?_) (fun σ' H9 hm => ?_)
  · cases firm with
    | true =>
      walk_at "go"
      intro due fd
      exact kb _ _ ⟨due, upd_same, rfl, st8.same (same_new fd _)⟩
    | false =>
      walk_at "go"
      intro due fd
      exact kb _ _ ⟨due, upd_same, rfl, st8.same (same_new fd _)⟩
  obtain ⟨due, hdue, rfl, st9⟩ := hm
  clear st8
  refine seq_of (fun σ' H' => σ' = sg a s o2 (some (.ref pp)) (some (.str (tx ps.flatten))) (some (.bl firm)) (some (.int (at_ : Nat))) (some (.int way)) (some (.str (tx B))) o9 (some (.str (tx b))) (some (.ref due)) o12 o13 ∧ Stm H' s l (n + 1107)) (fun b' kb => ?_) (fun σ' H10 hm => ?_)
  · cases firm with
    | true =>
      have hdue2 : H9 due = some (.tup [.str "format", .str (tx b)]) := hdue
      walk_at "go"
      refine .inl ⟨tx b, true, _, rfl, xb, hPb, fun t2 H10 _ s10 ht => ?_, fun t2 H10 hb => absurd hbad hb⟩
      refine ⟨_, rfl, neVT ht (s10 _ _ hdue2) rfl ?_⟩
      refine ⟨_, rfl, iteF' rfl ?_⟩
      walk_at "go"
      refine .inl ⟨tx ps.flatten, true, _, rfl, xR, hPR, fun t3 H11 hb => absurd hb (hgood true), fun t3 H11 _ s11 ht3 => ?_⟩
      have t3m : (!decide (V.str (Str.ofString "made") = V.str (Str.ofString "made"))) = false := by rw [decide_eq_true rfl]; rfl
      walk_at "go"
      exact kb _ _ ⟨rfl, st9.same (s10.trans s11)⟩
    | false =>
      have hdue2 : H9 due = some (.tup [.str "made", .non]) := hdue
      walk_at "go"
      refine .inl ⟨tx b, false, _, rfl, xb, hPb, fun t2 H10 hb => absurd hb hbad2, fun t2 H10 _ s10 ht => ?_⟩
      refine ⟨_, rfl, neVT ht (s10 _ _ hdue2) rfl ?_⟩
      refine ⟨_, rfl, iteF' rfl ?_⟩
      walk_at "go"
      refine .inl ⟨tx ps.flatten, false, _, rfl, xR, hPR, fun t3 H11 hb => absurd hb (hgood false), fun t3 H11 _ s11 ht3 => ?_⟩
      have t3m : (!decide (V.str (Str.ofString "made") = V.str (Str.ofString "made"))) = false := by rw [decide_eq_true rfl]; rfl
      walk_at "go"
      exact kb _ _ ⟨rfl, st9.same (s10.trans s11)⟩
  obtain ⟨rfl, st10⟩ := hm
  clear st9 hdue
  refine seq_of (fun σ' H' => σ' = sg a s o2 (some (.ref pp)) (some (.str (tx ps.flatten))) (some (.bl firm)) (some (.int (at_ : Nat))) (some (.int way)) (some (.str (tx B))) o9 (some (.str (tx b))) (some (.ref due)) o12 o13 ∧ Stm H' s l (n + 1107)) (fun b' kb => ?_) (fun σ' H11 hm => ?_)
  · walk_at "go"
    refine ⟨fun t2 H11 _ s11 ht => ?_, fun t2 H11 hb => absurd hbad hb⟩
    walk_at "go"
    intro u fu
    refine neVT (same_new fu _ _ _ ht) upd_same rfl ?_
    refine ⟨_, rfl, iteF' rfl ?_⟩
    have su := s11.trans (same_new fu (.tup [.str "format", .str (tx b)]))
    generalize upd H11 u (.tup [.str "format", .str (tx b)]) = H12 at su ⊢
    clear fu ht s11
    walk_at "go"
    refine ⟨fun t3 H13 hb => absurd hb (hgood true), fun t3 H13 _ s13 ht3 => ?_⟩
    have t3m : (!decide (V.str (Str.ofString "made") = V.str (Str.ofString "made"))) = false := by rw [decide_eq_true rfl]; rfl
    walk_at "go"
    exact kb _ _ ⟨rfl, st10.same (su.trans s13)⟩
  obtain ⟨rfl, st11⟩ := hm
  clear st10
  refine seq_of (fun σ' H' => ∃ v, OddV H' v ∧ SameD H' 3 v v ∧ σ' = sg a s o2 (some (.ref pp)) (some (.str (tx ps.flatten))) (some (.bl firm)) (some (.int (at_ : Nat))) (some (.int way)) (some (.str (tx B))) o9 (some (.str (tx b))) (some (.ref due)) (some v) o13 ∧ Stm H' s l (n + 1108)) (fun b' kb => ?_) (fun σ' H12 hm => ?_)
  · walk_at "go"
    intro p1 f1
    have st12 := st11.same (same_new f1 (.lst []))
    have h1 : upd H11 p1 (.lst []) p1 = some (.lst []) := upd_same
    obtain ⟨n1s, n1l⟩ := stm_new st11 f1
    generalize upd H11 p1 (.lst []) = G1 at st12 h1 ⊢
    clear f1
    walk_at "go"
    intro p2 f2
    have st13 := st12.same (same_new f2 (.lst [.str "{"]))
    have h1b := same_new f2 (.lst [.str "{"]) _ _ h1
    have h2 : upd G1 p2 (.lst [.str "{"]) p2 = some (.lst [.str "{"]) := upd_same
    obtain ⟨n2s, n2l⟩ := stm_new st12 f2
    generalize upd G1 p2 (.lst [.str "{"]) = G2 at st13 h1b h2 ⊢
    clear f2 h1 st12
    walk_at "go"
    intro p3 f3
    have st14 := st13.same (same_new f3 (.tup [.str "$"]))
    have h1c := same_new f3 (.tup [.str "$"]) _ _ h1b
    have h2c := same_new f3 (.tup [.str "$"]) _ _ h2
    have h3 : upd G2 p3 (.tup [.str "$"]) p3 = some (.tup [.str "$"]) := upd_same
    obtain ⟨n3s, n3l⟩ := stm_new st13 f3
    generalize upd G2 p3 (.tup [.str "$"]) = G3 at st14 h1c h2c h3 ⊢
    clear f3 h1b h2 st13
    walk_at "go"
    intro p4 f4
    walk_at "go"
    simp only [upd_upd]
    intro p5 f5
    have s4 := same_new f4 (.dK (mergeK [] [((Sum.inr (Str.ofString "{") : Key), V.int 1)]))
    have h4 : upd G3 p4 (.dK (mergeK [] [((Sum.inr (Str.ofString "{") : Key), V.int 1)])) p4 = some (.dK [((Sum.inr (Str.ofString "{") : Key), V.int 1)]) := upd_same
    obtain ⟨n4s, n4l⟩ := stm_new st14 f4
    have st15 := st14.same s4
    have h1d := s4 _ _ h1c
    have h2d := s4 _ _ h2c
    have h3d := s4 _ _ h3
    generalize upd G3 p4 (.dK (mergeK [] [((Sum.inr (Str.ofString "{") : Key), V.int 1)])) = G4 at f5 h4 st15 h1d h2d h3d ⊢
    clear s4 f4 st14 h1c h2c h3
    obtain ⟨n5s, n5l⟩ := stm_new st15 f5
    have s5 := same_new f5 (.lst [.str "x", .str "", .str "{}", .str "$$", .str "{ ", .non, .int 1, .bl true, .ref p1, .ref p2, .ref p3, .ref p4, .int 0])
    refine ⟨s, l, n + 1107, .ref p5, rfl, st15.same s5, by omega, .inl ⟨p5, _, rfl, n5s, n5l, upd_same, by show 1 ≤ 13; decide, by show 13 ≤ 1000; decide, fun H12 x q12 st17 hx => ?_⟩⟩
    have k1 := q12 _ _ n1s n1l (s5 _ _ h1d)
    have k2 := q12 _ _ n2s n2l (s5 _ _ h2d)
    have k3 := q12 _ _ n3s n3l (s5 _ _ h3d)
    have k4 := q12 _ _ n4s n4l (s5 _ _ h4)
    have hx2 : OddV H12 x ∧ SameD H12 3 x x := by
      simp only [List.mem_cons, List.not_mem_nil, or_false] at hx
      rcases hx with rfl | rfl | rfl | rfl | rfl | rfl | rfl | rfl | rfl | rfl | rfl | rfl | rfl
      · exact ⟨.str (by decide +kernel) (by decide +kernel), .str 2 _⟩
      · exact ⟨.str (by decide +kernel) (by decide +kernel), .str 2 _⟩
      · exact ⟨.str (by decide +kernel) (by decide +kernel), .str 2 _⟩
      · exact ⟨.str (by decide +kernel) (by decide +kernel), .str 2 _⟩
      · exact ⟨.str (by decide +kernel) (by decide +kernel), .str 2 _⟩
      · exact ⟨.non, .non 2⟩
      · exact ⟨.int 1, .int 2 1⟩
      · exact ⟨.bl true, .bl 2 true⟩
      · exact ⟨.lst k1, .lst k1 k1 rfl (by decide) (fun i x y hx hy => nomatch hx)⟩
      · exact ⟨.lst k2, .lst k2 k2 rfl (by decide) (fun i x y hx hy => by
          rw [hx] at hy
          cases hy
          match i, hx with
          | 0, hx => cases hx; exact .str 1 _
          | _ + 1, hx => cases hx)⟩
      · exact ⟨.tup k3, .tup k3 k3 rfl (by decide) (fun i x y hx hy => by
          rw [hx] at hy
          cases hy
          match i, hx with
          | 0, hx => cases hx; exact .str 1 _
          | _ + 1, hx => cases hx)⟩
      · exact ⟨.dct k4, .dct (n := 1) k4⟩
      · exact ⟨.int 0, .int 2 0⟩
    exact kb _ _ ⟨x, hx2.1, hx2.2, rfl, st17⟩
  obtain ⟨v, hv, hvs, rfl, st12⟩ := hm
  clear st11
  walk_at "go"
  intro u fu
  have su := same_new fu (.tup [.str (tx ps.flatten), .str (tx B), .non])
  have hu : upd H12 u (.tup [.str (tx ps.flatten), .str (tx B), .non]) u = some (.tup [.str (tx ps.flatten), .str (tx B), .non]) := upd_same
  generalize upd H12 u (.tup [.str (tx ps.flatten), .str (tx B), .non]) = H13 at su hu ⊢
  have st13 := st12.same su
  replace hv := hv.same su
  replace hvs := hvs.same su
  clear su fu st12
  refine ⟨u, rfl, ⟨_, SqT.of hu⟩, ?_⟩
  refine for_it (walk_tup (xs := [V.str (tx ps.flatten), V.str (tx B), V.non])) (fun i σ H' => Same H13 H' ∧ ∃ o13, σ = sg a s o2 (some (.ref pp)) (some (.str (tx ps.flatten))) (some (.bl firm)) (some (.int (at_ : Nat))) (some (.int way)) (some (.str (tx B))) o9 (some (.str (tx b))) (some (.ref due)) (some v) o13) ⟨Same.refl _, _, rfl⟩ (fun i σ H' _ h => SqT.of (h.1 _ _ hu)) (fun i x σ H14 H15 hi hP hx => ?_) (fun σ H14 hP => ?_)
  · obtain ⟨rfl, hx⟩ := hx
    obtain ⟨s14, o13, rfl⟩ := hP
    have hv4 := hv.same s14
    walk_at "go"
    refine .inr ⟨x, v, firm, rfl, hv4, fun t2 H16 s16 ht => ?_⟩
    walk_at "go"
    intro u2 fu2
    have s17 := s16.trans (same_new fu2 (.tup [.str "style", v]))
    have hvs4 := hvs.same (s14.trans s17)
    refine ⟨.ref t2, .ref u2, rfl, .tup (same_new fu2 _ _ _ ht) upd_same rfl (by show 2 ≤ 1000000; decide) (fun j y z hy hz => ?_), fun H18 s18 => ?_⟩
    · rw [hy] at hz
      cases hz
      match j, hy with
      | 0, hy => cases hy; exact .str 2 _
      | 1, hy => cases hy; exact hvs4
      | _ + 2, hy => cases hy
    · walk_at "go"
      exact rfl
  · obtain ⟨s14, o13, rfl⟩ := hP
    exact k' _ _ ((st13.same s14).mono (by omega)) ⟨_, _, _, _, _, _, _, _, _, _, _, _, rfl⟩
end
end K17

set_option Elab.async false
set_option linter.all false
set_option maxRecDepth 100000
set_option maxHeartbeats 0

namespace K17
open PySem PySem.Spec PyProof.Rows L2 RC
section
variable {P : Program} {w : World} {K : PySem.W.Frag} {mg : Str → Option Value} {base : Heap}
/-! ### the law -/
def spLaw (K : PySem.W.Frag) : Sp := fun vs H Q _ => ∃ (a : Addr) (ns : List Int), vs = [.ref a] ∧ ns.length ≤ 63 ∧ SqL K H a (ns.map V.int) ∧ ∀ H', Q (.bl true) H'
theorem law_body (T : Txt P w K mg) {f : Addr} {cdv : Value} {A : Around} {outer : List Env} {st0 : Shared} {E : XK} {vs : List V} {H : Hp} {Q : VK} (hr : Room 7 (A.deeper (envOfC "law" (defScope s_law) st0.heap.objs.size f cdv))) (hsp : spLaw K vs H Q E)
    (c__law_draw : Callable P w K mg base 1 (He.ga K "_law_draw") ["_law_stream", "_law_many"] [] spDraw)
    (c__law_pick : Callable P w K mg base 2 (He.ga K "_law_pick") ["_law_stream", "_law_some"] [] (spPick K))
    (c__law_text : Callable P w K mg base 3 (He.ga K "_law_text") ["_law_stream", "_law_signs", "_law_most"] [] spText)
    (c__law_format_parts : Callable P w K mg base 4 (He.ga K "_law_format_parts") ["_law_stream", "_law_most", "_law_keys"] [] spFormatParts)
    (c__law_braced_parts : Callable P w K mg base 2 (He.ga K "_law_braced_parts") ["_law_parts"] [] spBracedParts)
    (c__law_braced_text : Callable P w K mg base 1 (He.ga K "_law_braced_text") ["_law_shown"] [] spBracedText)
    (c__law_wrong_part : Callable P w K mg base 3 (He.ga K "_law_wrong_part") ["_law_stream"] [] spWrong)
    (c__law_formatter_told : Callable P w K mg base 7 (He.ga K "_law_formatter_told") ["_law_form", "_law_sign", "_law_firm"] [] (spTold K))
    (c__law_made_alone : Callable P w K mg base 7 (He.ga K "_law_made_alone") ["_law_form", "_law_sign"] [] (spAlone K))
    (c__law_same : Callable P w K mg base 5 (He.ga K "_law_same") ["_law_found", "_law_due"] [] (spSame 4)) :
    ∃ t, PSs (cxOf CX0 P w K mg base nm_law "law" (defScope s_law) f cdv A outer st0 H E).nox (defBody s_law) t ∧ t { nx := fun _ H' => Q .non H', rt := Q } (start nm_law vs) H := by
  obtain ⟨a, ns, rfl, hn, hS, hQ⟩ := hsp
  obtain ⟨tt, hturn, qturn⟩ := turn (f := f) (cdv := cdv) (outer := outer) (st0 := st0) (H := H) (E := E) T hr c__law_draw c__law_pick c__law_text c__law_format_parts c__law_braced_parts c__law_braced_text c__law_wrong_part c__law_formatter_told c__law_made_alone c__law_same
  refine ⟨_, (pss_cons (ps_set (i := 1) sc_law.nd rfl (by first | exact Or.inl rfl | exact Or.inr rfl) (pe_lst (pa_cons (pe_callTy call_list_of (by rfl) T.b_list (by decide +kernel) (pa_cons (pv 0) pa_nil)) (pa_cons pe_int (pa_cons pe_int (pa_cons pe_int pa_nil))))))
      (pss_cons (ps_for PassesOwn.never rfl (pi_range1 (by rfl) T.b_range (pa_cons pe_int pa_nil)) (pg_name (i := 2) sc_law.nd rfl (by first | exact Or.inl rfl | exact Or.inr rfl)) hturn)
      (pss_one (ps_ret pe_bl)))), ?_⟩
  walk_at "in"
  refine ⟨_, rfl, a, ns.map V.int, rfl, .inl hS, fun l hl => ⟨(by show 4 ≤ sizeLine; decide), fun s hs => ?_⟩⟩
  have st1 : Stm (upd (upd H l (.lst (ns.map V.int))) s (.lst [.ref l, .int 0, .int 0, .int 0])) s l 0 := by
    have n1 := (upd_none hs).1
    exact ⟨n1, ns, 0, 0, 0, upd_same, by rw [upd_ne (Ne.symm n1)]; exact upd_same, hn, by decide, by decide, by decide, by decide, by decide⟩
  generalize upd (upd H l (.lst (ns.map V.int))) s (.lst [.ref l, .int 0, .int 0, .int 0]) = H1 at st1
  walk_at "go"
  refine for_it walk_range (fun i σ H' => Stm H' s l (2000 * i) ∧ ∃ o2 o3 o4 o5 o6 o7 o8 o9 o10 o11 o12 o13, σ = sg a s o2 o3 o4 o5 o6 o7 o8 o9 o10 o11 o12 o13) ⟨st1, _, _, _, _, _, _, _, _, _, _, _, _, rfl⟩ (fun _ _ _ _ _ => trivial) (fun i x σ H11 H12 hi hP hx => ?_) (fun σ H12 hP => ?_)
  · obtain ⟨rfl, rfl⟩ := hx
    obtain ⟨I12, o2, o3, o4, o5, o6, o7, o8, o9, o10, o11, o12, o13, rfl⟩ := hP
    refine qturn (2000 * i) H12 _ _ _ _ _ _ _ _ _ _ _ _ _ I12 (by omega) (fun σ H' h1 h2 => ?_)
    exact ⟨h1, h2⟩
  · obtain ⟨_, o2, o3, o4, o5, o6, o7, o8, o9, o10, o11, o12, o13, rfl⟩ := hP
    walk_at "go"
    exact hQ _
end
end K17

set_option Elab.async false
set_option linter.all false
set_option maxRecDepth 100000
set_option maxHeartbeats 0

namespace K17
open PySem PySem.Spec PyProof.Rows L2 RC
section
variable {P : Program} {w : World} {K : PySem.W.Frag} {mg : Str → Option Value} {base : Heap}
/-! ### specs -/
def spSpec (K : PySem.W.Frag) : Sp := fun vs H Q _ => ∃ z : Str, vs = [.str z] ∧ z.length ≤ 1000000 ∧ (RO.specB z.cps.toList = none → ∀ H', Same H H' → Q .non H') ∧
  ((RO.specB z.cps.toList).isSome = true → ∀ (t : Addr) (f a : Str) (n : Int) (H' : Hp), Same H H' → H' t = some (.tup [.str f, .str a, .int n]) → Q (.ref t) H')
theorem ok_spec {f : Addr} (T : Txt P w K mg) (F : Stands K "spec_of" "spec_of" s_spec_of [] f) (c_is_width : Callable P w K mg base 1 (He.ga K "is_width") ["text"] [] spWidth) : Callable P w K mg base 2 f ["spec"] [] (spSpec K) := by
  refine F.call0 sc_spec_of (fun vs H Q E h => ?_) (fun cdv A outer s0 H vs Q E hr h => ?_) (fun _ _ _ _ _ _ us hl => match us, hl with | [_], _ => rfl)
  · obtain ⟨z, rfl, _⟩ := h; rfl
  obtain ⟨z, rfl, hz, hN, hS⟩ := h
  refine ⟨_, (pss_cons (ps_par3 (by rfl) sc_spec_of.nd (i := 1) (j := 2) (l := 3) rfl rfl rfl (by decide) (by decide) (by decide) rfl rfl rfl (pa_cons pe_str (pa_cons pe_str (pa_cons (pv 0) pa_nil))) (by rfl))
      (pss_cons (ps_if (pt_cmpR op_in_seq (pe_slice sl_str (pv 0) (po_some pe_int) (po_some pe_int)) (pe_glob (v := .ref _) (by rfl) T.g_ALIGNS rfl) (by rfl)) (pss_one (ps_par3 (by rfl) sc_spec_of.nd (i := 1) (j := 2) (l := 3) rfl rfl rfl (by decide) (by decide) (by decide) rfl rfl rfl (pa_cons (pe_ix ix_str (pv 0) pe_int (fun _ _ => rfl)) (pa_cons (pe_ix ix_str (pv 0) pe_int (fun _ _ => rfl)) (pa_cons (pe_slice sl_str (pv 0) (po_some pe_int) po_none) pa_nil))) (by rfl))) (pss_one (ps_if (pt_cmpR op_in_seq (pe_slice sl_str (pv 0) po_none (po_some pe_int)) (pe_glob (v := .ref _) (by rfl) T.g_ALIGNS rfl) (by rfl)) (pss_one (ps_par (by rfl) sc_spec_of.nd (i := 2) (j := 3) rfl rfl (by decide) rfl rfl (pa_cons (pe_ix ix_str (pv 0) pe_int (fun _ _ => rfl)) (pa_cons (pe_slice sl_str (pv 0) (po_some pe_int) po_none) pa_nil)) (by rfl))) pss_nil)))
      (pss_cons (ps_if (PW.pt (pw_or (pt_cmpR op_in_seq (pv 1) (pe_tup (pa_cons pe_str (pa_cons pe_str pa_nil))) (by rfl)) (pw_or (PW.pt (pw_and (pt_cmpR op_eq (pv 3) pe_str (nomark _)) (pw_and1 (pt_cmpR op_eq (pv 2) pe_str (nomark _))))) (pw_or1 (PW.pt (pw_and (pt_cmpR op_ne (pv 3) pe_str (nomark _)) (pw_and1 (pt_not (pt_val (pe_fn T.g_is_width c_is_width (hr.mono (by first | decide | exact Nat.le_refl _)) (by rfl) (pa_cons (pv 3) pa_nil))))))))))) (pss_one (ps_ret pe_non)) pss_nil)
      (pss_one (ps_ret (pe_tup (pa_cons (pv 1) (pa_cons (pv 2) (pa_cons (pe_ifExp (pt_cmpR op_eq (pv 3) pe_str (nomark _)) pe_int (pe_callTy call_int_str (by rfl) T.b_int (by decide +kernel) (pa_cons (pv 3) pa_nil))) pa_nil))))))))), ?_⟩
  walk_at "in"
  have hl : z.cps.toList.length = z.length := Array.length_toList ..
  have hz2 : z.length ≤ sizeLine := by rw [sizeLine_eq]; omega
  have kt := T.kt_ALIGNS
  refine seq_of (fun σ' H' => σ' = [some (.str z), some (.str " "), some (.str ""), some (.str z)] ∧ H = H') (fun b' kb => ?_) (fun σ' H' hm => ?_)
  · walk_at "go"
    exact kb _ _ ⟨rfl, rfl⟩
  obtain ⟨rfl, rfl⟩ := hm
  generalize hlz : z.cps.toList = l at hN hS hl
  have c12 : cutS z (some 1) (some 2) = tx ((l.drop 1).take 1) := by rw [← hlz]; exact cut_ab (a := 1) (b := 2) (by decide)
  have c01 : cutS z none (some 1) = tx (l.take 1) := by rw [← hlz]; exact cut_to (b := 1)
  have c2 : cutS z (some 2) none = tx (l.drop 2) := by rw [← hlz]; exact cut_from (a := 2)
  have c1 : cutS z (some 1) none = tx (l.drop 1) := by rw [← hlz]; exact cut_from (a := 1)
  have v1 : inV (.str (cutS z (some 1) (some 2))) ([Str.ofString "<", Str.ofString ">", Str.ofString "^"].map V.str) = decide ((l.drop 1).take 1 ∈ ([[60], [62], [94]] : List (List Nat))) := by rw [c12, s_aligns, inV_tx]
  have v2 : inV (.str (cutS z none (some 1))) ([Str.ofString "<", Str.ofString ">", Str.ofString "^"].map V.str) = decide (l.take 1 ∈ ([[60], [62], [94]] : List (List Nat))) := by rw [c01, s_aligns, inV_tx]
  refine seq_of (fun σ' H' => ∃ fl al wd, RO.cut3 l = (fl, al, wd) ∧ wd.length ≤ l.length ∧ σ' = [some (.str z), some (.str (tx fl)), some (.str (tx al)), some (.str (tx wd))] ∧ H = H') (fun b' kb => ?_) (fun σ' H' hm => ?_)
  · walk_at "go"
    refine ⟨.inr (kt _), rfl, rfl, _, rfl, ?_⟩
    match l, hlz, c12, c01, c2, c1, v1, v2, kb with
    | [], hlz, c12, c01, c2, c1, v1, v2, kb =>
      refine iteF' (by rw [v1]; rfl) ?_
      walk_at "go"
      refine ⟨.inr (kt _), rfl, rfl, _, rfl, ?_⟩
      refine iteF' (by rw [v2]; rfl) ?_
      walk_at "go"
      refine kb _ _ ⟨[32], [], [], rfl, Nat.le_refl _, ?_, rfl⟩
      rw [← s_blank, ← s_empty, ← tx_of z, hlz, s_empty]
    | [c], hlz, c12, c01, c2, c1, v1, v2, kb =>
      refine iteF' (by rw [v1]; rfl) ?_
      walk_at "go"
      refine ⟨.inr (kt _), rfl, rfl, _, rfl, ?_⟩
      have hat : atI z.cps.toList 0 = some c := atI_nat (j := 0) (by rw [hlz]; rfl)
      cases ha : RO.alB c with
      | true =>
        refine iteT' (by rw [v2]; exact (al_in c).trans ha) ?_
        walk_at "go"
        refine kb _ _ ⟨[32], [c], [], by rw [RO.cut_one, if_pos ha], Nat.zero_le _, ?_, rfl⟩
        rw [c1]; rw [← s_blank]; rfl
      | false =>
        refine iteF' (by rw [v2]; exact (al_in c).trans ha) ?_
        walk_at "go"
        refine kb _ _ ⟨[32], [], [c], by rw [RO.cut_one, if_neg (by rw [ha]; decide)], Nat.le_refl _, ?_, rfl⟩
        rw [← s_blank, ← s_empty, ← hlz, tx_of]
    | c :: d :: r, hlz, c12, c01, c2, c1, v1, v2, kb =>
      have hat : atI z.cps.toList 0 = some c := atI_nat (j := 0) (by rw [hlz]; rfl)
      have hat1 : atI z.cps.toList 1 = some d := atI_nat (j := 1) (by rw [hlz]; rfl)
      cases hd : RO.alB d with
      | true =>
        refine iteT' (by rw [v1]; exact (al_in d).trans hd) ?_
        walk_at "go"
        refine kb _ _ ⟨[c], [d], r, by rw [RO.cut_two, if_pos hd], by simp only [List.length_cons]; omega, ?_, rfl⟩
        rw [c2]; rfl
      | false =>
        refine iteF' (by rw [v1]; exact (al_in d).trans hd) ?_
        walk_at "go"
        refine ⟨.inr (kt _), rfl, rfl, _, rfl, ?_⟩
        cases ha : RO.alB c with
        | true =>
          refine iteT' (by rw [v2]; exact (al_in c).trans ha) ?_
          walk_at "go"
          refine kb _ _ ⟨[32], [c], d :: r, by rw [RO.cut_two, if_neg (by rw [hd]; decide), if_pos ha], by simp only [List.length_cons]; omega, ?_, rfl⟩
          rw [c1]; rw [← s_blank]; rfl
        | false =>
          refine iteF' (by rw [v2]; exact (al_in c).trans ha) ?_
          walk_at "go"
          refine kb _ _ ⟨[32], [], c :: d :: r, by rw [RO.cut_two, if_neg (by rw [hd]; decide), if_neg (by rw [ha]; decide)], Nat.le_refl _, ?_, rfl⟩
          rw [← s_blank, ← s_empty, ← hlz, tx_of]
  · obtain ⟨fl, al, wd, hc, hwl, rfl, rfl⟩ := hm
    clear v1 v2 c12 c01 c1 c2 kt
    have eB : RO.specB l = if RO.okB fl al wd then some (fl, al, wd) else none := by unfold RO.specB; rw [hc]
    rw [s_empty, s_open, s_close]
    have wl : (tx wd).length ≤ 1000000 := by rw [tx_len]; omega
    have wl2 : (tx wd).length ≤ sizeLine := by rw [sizeLine_eq]; omega
    have vF : inV (.str (tx fl)) [V.str (tx [123]), V.str (tx [125])] = decide (fl ∈ ([[123], [125]] : List (List Nat))) := inV_tx fl [[123], [125]]
    have none_of : RO.okB fl al wd = false → ∀ H', Same H H' → Q .non H' := fun h => hN (by rw [eB, if_neg (by rw [h]; decide)])
    have some_of : RO.okB fl al wd = true → _ := fun h => hS (by rw [eB, if_pos h]; rfl)
    have okF : (decide (fl = [123]) || decide (fl = [125])) = decide (fl ∈ ([[123], [125]] : List (List Nat))) := by
      by_cases h1 : fl = [123]
      · subst h1; rfl
      by_cases h2 : fl = [125]
      · subst h2; rfl
      · rw [decide_eq_false h1, decide_eq_false h2, decide_eq_false]; · rfl
        intro h
        rcases List.mem_cons.mp h with h | h
        · exact h1 h
        rcases List.mem_cons.mp h with h | h
        · exact h2 h
        · cases h
    unfold RO.okB at none_of some_of
    rw [okF] at none_of some_of
    walk_at "go"
    intro p fp
    have s0 : Same H (upd H p (.tup [.str (tx [123]), .str (tx [125])])) := same_new fp _
    have hp : (upd H p (.tup [.str (tx [123]), .str (tx [125])])) p = some (.tup [.str (tx [123]), .str (tx [125])]) := upd_same
    generalize upd H p (.tup [.str (tx [123]), .str (tx [125])]) = H1 at s0 hp ⊢
    refine ⟨p, _, rfl, .inr (SqT.of hp), rfl, rfl, _, rfl, ?_⟩
    by_cases hf : fl ∈ ([[123], [125]] : List (List Nat))
    · refine iteT' (vF.trans (decide_eq_true hf)) ?_
      rw [decide_eq_true hf] at none_of
      walk_at "go"
      exact none_of rfl _ s0
    refine iteF' (vF.trans (decide_eq_false hf)) ?_
    rw [decide_eq_false hf] at none_of some_of
    by_cases hw : wd = []
    · have t1 : decide (V.str (tx wd) = V.str (tx [])) = true := (tx_dec wd []).trans (decide_eq_true hw)
      have t1' : (!decide (V.str (tx wd) = V.str (tx []))) = false := by rw [t1]; rfl
      rw [decide_eq_true hw] at none_of some_of
      by_cases ha : al = []
      · have t2 : decide (V.str (tx al) = V.str (tx [])) = true := (tx_dec al []).trans (decide_eq_true ha)
        rw [decide_eq_true ha] at none_of
        walk_at "go"
        exact none_of rfl _ s0
      · have t2 : decide (V.str (tx al) = V.str (tx [])) = false := (tx_dec al []).trans (decide_eq_false ha)
        rw [decide_eq_false ha] at some_of
        walk_at "go"
        intro t ft
        exact some_of rfl t _ _ _ _ (s0.trans (same_new ft _)) upd_same
    · have t1 : decide (V.str (tx wd) = V.str (tx [])) = false := (tx_dec wd []).trans (decide_eq_false hw)
      have t1' : (!decide (V.str (tx wd) = V.str (tx []))) = true := by rw [t1]; rfl
      rw [decide_eq_false hw] at none_of some_of
      walk_at "go"
      intro H2 s2
      cases hv : RO.wdB wd with
      | true =>
        rw [hv] at some_of
        obtain ⟨n, hn⟩ := RV.width_int hv
        have wz : (tx wd).length ≤ 640 := by
          obtain ⟨q1, _⟩ := Bool.and_eq_true_iff.mp (show ((decide (0 < wd.length) && decide (wd.length < 3)) && _) = true from hv)
          have := of_decide_eq_true (Bool.and_eq_true_iff.mp q1).2
          rw [tx_len]; omega
        walk_at "go"
        intro t ft
        exact some_of rfl t _ _ _ _ ((s0.trans s2).trans (same_new ft _)) upd_same
      | false =>
        rw [hv] at none_of
        walk_at "go"
        exact none_of rfl _ (s0.trans s2)
end
end K17

set_option Elab.async false
set_option linter.all false
set_option maxRecDepth 100000
set_option maxHeartbeats 0

namespace K17
open PySem PySem.Spec PyProof.Rows L2 RC
section
variable {P : Program} {w : World} {K : PySem.W.Frag} {mg : Str → Option Value} {base : Heap}
/-! ### the field between two braces -/
def spFieldOf (K : PySem.W.Frag) : Sp := fun vs H Q _ => ∃ z : Str, vs = [.str z] ∧ z.length ≤ 1000000 ∧ (RO.fieldB z.cps.toList = none → ∀ H', Same H H' → Q .non H') ∧
  ((RO.fieldB z.cps.toList).isSome = true → ∀ (q dx : Addr) (fs : List (Str × V)) (H' : Hp), Same H H' → H q = none → H' q = some (.ins (CFd K) dx fs) → fs.length = 5 → Q (.ref q) H')
theorem ok_field_of {f : Addr} (T : Txt P w K mg) (F : Stands K "field_of" "field_of" s_field_of [] f) (c_name_end : Callable P w K mg base 1 (He.ga K "name_end") ["text", "start"] [] spNameEnd) (c_spec_of : Callable P w K mg base 2 (He.ga K "spec_of") ["spec"] [] (spSpec K))
    (c_Field_init_d3 : Callable P w K mg base 1 (He.ma K (He.ga K "Field") "__init__") ["self", "name", "conversion", "fill", "align", "width"] [.str " ", .str "", .int 0] (spFieldInit K)) (c_Field_init : Callable P w K mg base 1 (He.ma K (He.ga K "Field") "__init__") ["self", "name", "conversion", "fill", "align", "width"] [] (spFieldInit K)) : Callable P w K mg base 3 f ["body"] [] (spFieldOf K) := by
  refine F.call0 sc_field_of (fun vs H Q E h => ?_) (fun cdv A outer s0 H vs Q E hr h => ?_) (fun _ _ _ _ _ _ us hl => match us, hl with | [_], _ => rfl)
  · obtain ⟨z, rfl, _⟩ := h; rfl
  obtain ⟨z, rfl, hz, hN, hS⟩ := h
  refine ⟨_, (pss_cons (ps_set (i := 1) sc_field_of.nd rfl (by first | exact Or.inl rfl | exact Or.inr rfl) (pe_fn T.g_name_end c_name_end (hr.mono (by first | decide | exact Nat.le_refl _)) (by rfl) (pa_cons (pv 0) (pa_cons pe_int pa_nil))))
      (pss_cons (ps_par3 (by rfl) sc_field_of.nd (i := 2) (j := 3) (l := 4) rfl rfl rfl (by decide) (by decide) (by decide) rfl rfl rfl (pa_cons (pe_slice sl_str (pv 0) po_none (po_some (pv 1))) (pa_cons (pe_slice sl_str (pv 0) (po_some (pv 1)) po_none) (pa_cons pe_str pa_nil))) (by rfl))
      (pss_cons (ps_if (pt_cmpR op_in_seq (pe_slice sl_str (pv 3) po_none (po_some pe_int)) (pe_tup (pa_cons pe_str (pa_cons pe_str pa_nil))) (by rfl)) (pss_one (ps_par (by rfl) sc_field_of.nd (i := 4) (j := 3) rfl rfl (by decide) rfl rfl (pa_cons (pe_ix ix_str (pv 3) pe_int (fun _ _ => rfl)) (pa_cons (pe_slice sl_str (pv 3) (po_some pe_int) po_none) pa_nil)) (by rfl))) pss_nil)
      (pss_cons (ps_if (PW.pt (pw_or (pt_cmpR op_eq (pv 2) pe_str (nomark _)) (pw_or1 (PW.pt (pw_and (pt_cmpR op_ne (pv 3) pe_str (nomark _)) (pw_and1 (pt_cmpR op_ne (pe_ix ix_str (pv 3) pe_int (fun _ _ => rfl)) pe_str (nomark _)))))))) (pss_one (ps_ret pe_non)) pss_nil)
      (pss_cons (ps_if (pt_cmpR op_eq (pv 3) pe_str (nomark _)) (pss_one (ps_ret (pe_mk T.k_Field T.g_Field c_Field_init_d3 (hr.mono (by first | decide | exact Nat.le_refl _)) (by rfl) (pa_cons (pv 2) (pa_cons (pv 4) pa_nil))))) pss_nil)
      (pss_cons (ps_set (i := 5) sc_field_of.nd rfl (by first | exact Or.inl rfl | exact Or.inr rfl) (pe_fn T.g_spec_of c_spec_of (hr.mono (by first | decide | exact Nat.le_refl _)) (by rfl) (pa_cons (pe_slice sl_str (pv 3) (po_some pe_int) po_none) pa_nil)))
      (pss_one (ps_ret (pe_ifExp (pt_cmpR op_isN (pv 5) pe_non (nomark _)) pe_non (pe_mk T.k_Field T.g_Field c_Field_init (hr.mono (by first | decide | exact Nat.le_refl _)) (by rfl) (pa_cons (pv 2) (pa_cons (pv 4) (pa_cons (pe_ix ix_tup (pv 5) pe_int (fun _ _ => rfl)) (pa_cons (pe_ix ix_tup (pv 5) pe_int (fun _ _ => rfl)) (pa_cons (pe_ix ix_tup (pv 5) pe_int (fun _ _ => rfl)) pa_nil))))))))))))))), ?_⟩
  walk_at "in"
  have hl : z.cps.toList.length = z.length := Array.length_toList ..
  have hz2 : z.length ≤ sizeLine := by rw [sizeLine_eq]; omega
  generalize hlz : z.cps.toList = l at hN hS hl
  generalize hn : RP.nmLen l = n at hN hS
  have nl := RP.nm_le l
  rw [hn] at nl
  have nz : n ≤ z.length := by omega
  refine seq_of (fun σ' H' => σ' = [some (.str z), some (.int (n : Nat)), none, none, none, none] ∧ H = H') (fun b' kb => ?_) (fun σ' H' hm => ?_)
  · walk_at "go"
    refine kb _ _ ⟨?_, rfl⟩
    rw [Nat.zero_add, List.drop_zero, hlz, hn]; rfl
  obtain ⟨rfl, rfl⟩ := hm
  have c1 : cutS z none (some (n : Int)) = tx (l.take n) := by rw [← hlz]; exact cut_to (b := n)
  have c2 : cutS z (some (n : Int)) none = tx (l.drop n) := by rw [← hlz]; exact cut_from (a := n)
  refine seq_of (fun σ' H' => σ' = [some (.str z), some (.int (n : Nat)), some (.str (tx (l.take n))), some (.str (tx (l.drop n))), some (.str (tx [])), none] ∧ H = H') (fun b' kb => ?_) (fun σ' H' hm => ?_)
  · walk_at "go"
    refine kb _ _ ⟨?_, rfl⟩
    rw [c1, c2, ← s_empty]; rfl
  obtain ⟨rfl, rfl⟩ := hm
  clear c1 c2
  generalize hr : l.drop n = r
  have rl : r.length ≤ l.length := by rw [← hr, List.length_drop]; omega
  have rl2 : (tx r).length ≤ sizeLine := by rw [tx_len, sizeLine_eq]; omega
  have etr : (tx r).cps.toList = r := rfl
  refine seq_of (fun σ' H' => ∃ cv rs, RO.conv r = (cv, rs) ∧ rs.length ≤ l.length ∧ σ' = [some (.str z), some (.int (n : Nat)), some (.str (tx (l.take n))), some (.str (tx rs)), some (.str (tx cv)), none] ∧ Same H H') (fun b' kb => ?_) (fun σ' H' hm => ?_)
  · have c3 : cutS (tx r) none (some 2) = tx (r.take 2) := cut_to (b := 2)
    have c4 : cutS (tx r) (some 2) none = tx (r.drop 2) := cut_from (a := 2)
    have vF : inV (.str (cutS (tx r) none (some 2))) [V.str (tx [33, 114]), V.str (tx [33, 115])] = decide (r.take 2 ∈ ([[33, 114], [33, 115]] : List (List Nat))) := by rw [c3]; exact inV_tx _ [[33, 114], [33, 115]]
    rw [s_bangr, s_bangs]
    walk_at "go"
    intro p fp
    have s1 : Same H (upd H p (.tup [.str (tx [33, 114]), .str (tx [33, 115])])) := same_new fp _
    have hp : (upd H p (.tup [.str (tx [33, 114]), .str (tx [33, 115])])) p = some (.tup [.str (tx [33, 114]), .str (tx [33, 115])]) := upd_same
    generalize upd H p (.tup [.str (tx [33, 114]), .str (tx [33, 115])]) = H1 at s1 hp ⊢
    refine ⟨p, _, rfl, .inr (SqT.of hp), rfl, rfl, _, rfl, ?_⟩
    by_cases hf : r.take 2 ∈ ([[33, 114], [33, 115]] : List (List Nat))
    · refine iteT' (vF.trans (decide_eq_true hf)) ?_
      have hf2 : r.take 2 = [33, 114] ∨ r.take 2 = [33, 115] := by
        rcases List.mem_cons.mp hf with h | h
        · exact .inl h
        · exact .inr (List.mem_singleton.mp h)
      obtain ⟨c, hc, hc2⟩ : ∃ c, r[1]? = some c ∧ (r.drop 1).take 1 = [c] := by
        match r, hf2 with
        | [], h => rcases h with h | h <;> cases h
        | [_], h => rcases h with h | h <;> cases h
        | a :: c :: r, h => exact ⟨c, rfl, rfl⟩
      have hat : atI (tx r).cps.toList 1 = some c := atI_nat (j := 1) hc
      walk_at "go"
      refine kb _ _ ⟨[c], r.drop 2, ?_, by rw [List.length_drop]; omega, ?_, s1⟩
      · unfold RO.conv; rw [if_pos hf2, hc2]
      · rw [c4]; rfl
    · refine iteF' (vF.trans (decide_eq_false hf)) ?_
      walk_at "go"
      refine kb _ _ ⟨[], r, ?_, rl, rfl, s1⟩
      unfold RO.conv
      rw [if_neg fun h => hf ?_]
      rcases h with h | h
      · rw [h]; exact List.mem_cons_self
      · rw [h]; exact List.mem_cons_of_mem _ List.mem_cons_self
  obtain ⟨cv, rs, hcv, rsl, rfl, s1⟩ := hm
  have eF : RO.fieldB l = if n = 0 then none else (match rs with
      | [] => some (l.take n, cv, [32], [], [])
      | c :: q => if c = 58 then (RO.specB q).map fun q => (l.take n, cv, q) else none) := by
    unfold RO.fieldB
    rw [hn, hr, hcv]
    try (cases rs <;> rfl)
  rw [eF] at hN hS
  clear eF rl rl2 etr hr hcv
  have rsl2 : (tx rs).length ≤ sizeLine := by rw [tx_len, sizeLine_eq]; omega
  rw [s_empty, s_colon]
  refine seq_of (fun σ' H2 => n ≠ 0 ∧ (rs = [] ∨ ∃ q, rs = 58 :: q) ∧ σ' = [some (.str z), some (.int (n : Nat)), some (.str (tx (l.take n))), some (.str (tx rs)), some (.str (tx cv)), none] ∧ H' = H2) (fun b' kb => ?_) (fun σ' H2 hm => ?_)
  · by_cases n0 : n = 0
    · rw [if_pos n0] at hN
      have t1 : decide (V.str (tx (l.take n)) = V.str (tx [])) = true := (tx_dec _ _).trans (decide_eq_true (by rw [n0]; rfl))
      walk_at "go"
      exact hN rfl _ s1
    · have ln : l.take n ≠ [] := fun h => by
        have := congrArg List.length h
        rw [List.length_take, List.length_nil] at this; omega
      have t1 : decide (V.str (tx (l.take n)) = V.str (tx [])) = false := (tx_dec _ _).trans (decide_eq_false ln)
      cases rs with
      | nil =>
        have t2 : (!decide (V.str (tx ([] : List Nat)) = V.str (tx []))) = false := by rw [decide_eq_true rfl]; rfl
        walk_at "go"
        exact kb _ _ ⟨n0, .inl rfl, rfl, rfl⟩
      | cons c q =>
        have t2 : (!decide (V.str (tx (c :: q)) = V.str (tx []))) = true := by rw [tx_dec, decide_eq_false (fun h => nomatch h)]; rfl
        have hat : atI (tx (c :: q)).cps.toList 0 = some c := atI_nat (j := 0) rfl
        by_cases e : c = 58
        · have t3 : (!decide (V.str ⟨#[c]⟩ = V.str (tx [58]))) = false := by rw [e, decide_eq_true rfl]; rfl
          walk_at "go"
          exact kb _ _ ⟨n0, .inr ⟨q, by rw [e]⟩, rfl, rfl⟩
        · have t3 : (!decide (V.str ⟨#[c]⟩ = V.str (tx [58]))) = true := by
            rw [show (!decide (V.str ⟨#[c]⟩ = V.str (tx [58]))) = !decide (V.str (tx [c]) = V.str (tx [58])) from rfl, tx_dec, decide_eq_false fun h => e (List.cons.inj h).1]; rfl
          rw [if_neg n0] at hN
          walk_at "go"
          exact hN (if_neg e) _ s1
  obtain ⟨n0, hrs, rfl, rfl⟩ := hm
  rw [if_neg n0] at hN hS
  rcases hrs with rfl | ⟨q, rfl⟩
  · have t2 : decide (V.str (tx ([] : List Nat)) = V.str (tx [])) = true := decide_eq_true rfl
    walk_at "go"
    intro x dx f1 f2 f3
    refine ⟨x, dx, _, _, _, _, _, rfl, upd_same, rfl, ?_⟩
    rw [upd_upd]
    have s3 := (same_new f2 (.own x)).trans (same_new (by rw [upd_ne (Ne.symm f3)]; exact f1) (.ins (CFd K) dx (fdF (tx (l.take n)) (tx cv) " " (tx []) 0)))
    exact hS rfl x dx _ _ (s1.trans s3) (RW.free_same s1 f1) upd_same rfl
  · have t2 : decide (V.str (tx (58 :: q)) = V.str (tx [])) = false := (tx_dec _ _).trans (decide_eq_false fun h => nomatch h)
    have c5 : cutS (tx (58 :: q)) (some 1) none = tx q := cut_from (a := 1)
    have ql : (tx q).length ≤ 1000000 := by rw [tx_len]; rw [List.length_cons] at rsl; omega
    walk_at "go"
    rw [c5]
    refine ⟨ql, fun hb H2 s2 => ?_, fun hb t fv av nv H2 s2 ht => ?_⟩
    · replace hb : RO.specB q = none := hb
      walk_at "go"
      exact hN (by show (if (58 : Nat) = 58 then (RO.specB q).map _ else none) = none; rw [if_pos rfl, hb]; rfl) _ (s1.trans s2)
    · replace hb : (RO.specB q).isSome = true := hb
      walk_at "go"
      intro x dx f1 f2 f3
      refine ⟨x, dx, _, _, _, _, _, rfl, upd_same, rfl, ?_⟩
      rw [upd_upd]
      have s3 := (same_new f2 (.own x)).trans (same_new (by rw [upd_ne (Ne.symm f3)]; exact f1) (.ins (CFd K) dx (fdF (tx (l.take n)) (tx cv) fv av nv)))
      refine hS (by
        show (if (58 : Nat) = 58 then (RO.specB q).map _ else none).isSome = true
        rw [if_pos rfl, Option.isSome_map]; exact hb) x dx _ _ ((s1.trans s2).trans s3) (RW.free_same (s1.trans s2) f1) upd_same rfl
end
end K17

set_option Elab.async false
set_option linter.all false
set_option maxRecDepth 100000
set_option maxHeartbeats 0

namespace K17
open PySem PySem.Spec PyProof.Rows L2 RC
section
variable {P : Program} {w : World} {K : PySem.W.Frag} {mg : Str → Option Value} {base : Heap}
/-! ### the parts of a format in braces, walked -/
theorem two_inv : ∀ {s : List Nat} {o : Option (List RO.Pt)}, RO.PB s o → ∀ {c : Nat} {r : List Nat}, s = c :: c :: r → (c = 123 ∨ c = 125) → ∃ o2, RO.PB r o2 ∧ o = o2.map (Sum.inl c :: ·)
  | _, _, .nil, _, _, e, _ => by cases e
  | _, _, .two _ h, _, _, e, _ => by cases e; exact ⟨_, h, rfl⟩
  | _, _, .ch h1 h2 _, _, _, e, hc => by cases e; exact (hc.elim h1 h2).elim
  | _, _, .close h, _, _, e, _ => by cases e; exact absurd rfl h
  | _, _, .lost h _, _, _, e, _ => by cases e; exact absurd rfl h
  | _, _, .bad h _ _, _, _, e, _ => by
    obtain ⟨rfl, e2⟩ := List.cons.inj e
    rw [e2] at h; exact absurd rfl h
  | _, _, .fld h _ _ _, _, _, e, _ => by
    obtain ⟨rfl, e2⟩ := List.cons.inj e
    rw [e2] at h; exact absurd rfl h
theorem from_nat (n i : Nat) : fromIndex n (i : Int) = i := by
  unfold fromIndex
  rw [if_neg (by omega)]; omega
theorem getD_list (z : Str) (v : Nat) : z.cps.getD v 0 = (z.cps.toList[v]?).getD 0 := by
  rw [Array.getD_eq_getD_getElem?, Array.getElem?_toList]
theorem getD_some {z : Str} {v : Nat} (h : v < z.length) (e : z.cps.getD v 0 = 125) : z.cps.toList[v]? = some 125 := by
  have hl : z.cps.toList.length = z.length := Array.length_toList ..
  rw [getD_list, List.getElem?_eq_getElem (by rw [hl]; exact h)] at e
  rw [List.getElem?_eq_getElem (by rw [hl]; exact h)]
  exact congrArg some e
theorem find_at {z : Str} {i : Nat} {b t : List Nat} (h : z.cps.toList.drop i = b ++ 125 :: t) (hb : 125 ∉ b) (hi : i ≤ z.length) : Txt.find3 z (tx [125]) (i : Int) = ((i + b.length : Nat) : Int) := by
  have hl : z.cps.toList.length = z.length := Array.length_toList ..
  have at_b : z.cps.toList[i + b.length]? = some 125 := by
    rw [← List.getElem?_drop, h, List.getElem?_append_right (Nat.le_refl _), Nat.sub_self]; rfl
  have inb : ∀ j, j < b.length → z.cps.toList[i + j]? = some 125 → False := fun j hj e => by
    rw [← List.getElem?_drop, h, List.getElem?_append_left hj] at e
    exact hb (List.mem_of_getElem? e)
  have gb : z.cps.getD (i + b.length) 0 = 125 := by rw [getD_list, at_b]; rfl
  have lb : i + b.length < z.length := by rw [← hl]; exact (List.getElem?_eq_some_iff.mp at_b).1
  have hs := PySem.StrLaws.find3_spec z 125 (i : Int)
  rw [from_nat] at hs
  rcases hs with ⟨_, h2⟩ | ⟨k, h1, h2, h3, h4, h5⟩
  · exact absurd gb (h2 _ (by omega) lb)
  · refine h1.trans ?_
    rcases Nat.lt_trichotomy k (i + b.length) with q | q | q
    · exact (inb (k - i) (by omega) (by rw [show i + (k - i) = k by omega]; exact getD_some h3 h4)).elim
    · rw [q]
    · exact absurd gb (h5 _ (by omega) q)
theorem find_no {z : Str} {i : Nat} (h : 125 ∉ z.cps.toList.drop i) (hi : i ≤ z.length) : Txt.find3 z (tx [125]) (i : Int) = -1 := by
  have hs := PySem.StrLaws.find3_spec z 125 (i : Int)
  rw [from_nat] at hs
  rcases hs with ⟨h1, _⟩ | ⟨k, h1, h2, h3, h4, h5⟩
  · exact h1
  · refine absurd ?_ h
    have e := getD_some h3 h4
    rw [show k = i + (k - i) by omega, ← List.getElem?_drop] at e
    exact List.mem_of_getElem? e
theorem ok_parts {f : Addr} (T : Txt P w K mg) (F : Stands K "parts_of_braces" "parts_of_braces" s_parts_of_braces [] f) (c_field_of : Callable P w K mg base 3 (He.ga K "field_of") ["body"] [] (spFieldOf K)) : Callable P w K mg base 4 f ["fmt"] [] (spParts K) := by
  refine F.call0 sc_parts_of_braces (fun vs H Q E h => ?_) (fun cdv A outer s H vs Q E hr h => ?_) (fun _ _ _ _ _ _ us hl => match us, hl with | [_], _ => rfl)
  · obtain ⟨z, o, rfl, _⟩ := h; rfl
  obtain ⟨z, o, rfl, hz, hP, hN, hS⟩ := h
  refine ⟨_, (pss_cons (ps_par (by rfl) sc_parts_of_braces.nd (i := 1) (j := 2) rfl rfl (by decide) rfl rfl (pa_cons (pe_lst pa_nil) (pa_cons pe_int pa_nil)) (by rfl))
      (pss_cons (ps_while PassesOwn.never (pt_cmpR op_lt (pv 2) (pe_callB call_len_str (by rfl) T.b_len (by decide +kernel) (pa_cons (pv 0) pa_nil)) (nomark _)) (pss_cons (ps_par (by rfl) sc_parts_of_braces.nd (i := 3) (j := 4) rfl rfl (by decide) rfl rfl (pa_cons (pe_op op_add (pv 2) pe_int) (pa_cons (pe_ix ix_str (pv 0) (pv 2) (fun _ _ => rfl)) pa_nil)) (by rfl))
      (pss_cons (ps_if (pt_cmpR op_in_seq (pe_slice sl_str (pv 0) (po_some (pv 2)) (po_some (pe_op op_add (pv 2) pe_int))) (pe_tup (pa_cons pe_str (pa_cons pe_str pa_nil))) (by rfl)) (pss_one (ps_set (i := 3) sc_parts_of_braces.nd rfl (by first | exact Or.inl rfl | exact Or.inr rfl) (pe_op op_add (pv 2) pe_int))) (pss_one (ps_if (pt_cmpR op_in_seq (pv 4) (pe_tup (pa_cons pe_str (pa_cons pe_str pa_nil))) (by rfl)) (pss_cons (ps_set (i := 3) sc_parts_of_braces.nd rfl (by first | exact Or.inl rfl | exact Or.inr rfl) (pe_op op_add (pe_bm PySem.F.plainAttrs_str PySem.F.slot_str_find PySem.F.type_str_find mt_find3 (pv 0) (pa_cons pe_str (pa_cons (pv 2) pa_nil))) pe_int))
      (pss_one (ps_set (i := 4) sc_parts_of_braces.nd rfl (by first | exact Or.inl rfl | exact Or.inr rfl) (pe_ifExp (pt_cmpR op_gt (pv 3) pe_int (nomark _)) (pe_fn T.g_field_of c_field_of (hr.mono (by first | decide | exact Nat.le_refl _)) (by rfl) (pa_cons (pe_slice sl_str (pv 0) (po_some (pe_op op_add (pv 2) pe_int)) (po_some (pe_op op_sub (pv 3) pe_int))) pa_nil)) pe_non)))) pss_nil)))
      (pss_cons (ps_if (pt_cmpR op_isN (pv 4) pe_non (nomark _)) (pss_one (ps_ret pe_non)) pss_nil)
      (pss_cons (ps_expr (pe_bm PySem.F.plainAttrs_list PySem.F.slot_list_append PySem.F.type_list_append mt_append (pv 1) (pa_cons (pv 4) pa_nil)))
      (pss_one (ps_set (i := 2) sc_parts_of_braces.nd rfl (by first | exact Or.inl rfl | exact Or.inr rfl) (pv 3))))))))
      (pss_one (ps_ret (pv 1))))), ?_⟩
  walk_at "in"
  have hl : z.cps.toList.length = z.length := Array.length_toList ..
  have hz2 : z.length ≤ sizeLine := by rw [sizeLine_eq]; omega
  walk_at "go"
  intro p fp
  walk_at "go"
  refine ⟨fun m σ H' => Same H H' ∧ ∃ (i : Nat) (ps : List RO.Pt) (vs : List V) (o' : Option (List RO.Pt)) (a b : Option V), m = z.length - i ∧ i ≤ z.length ∧ vs.length ≤ i ∧ H' p = some (.lst vs) ∧ PtsV K H' ps vs ∧ RO.PB (z.cps.toList.drop i) o' ∧ o = o'.map (ps ++ ·) ∧ σ = [some (.str z), some (.ref p), some (.int (i : Nat)), a, b], ⟨_, same_new fp _, 0, [], [], o, _, _, rfl, Nat.zero_le _, Nat.zero_le _, upd_same, .nil, hP, by cases o <;> rfl, rfl⟩, ?_⟩
  rintro m σ H1 ⟨s1, i, ps, vs, o', a, b, rfl, hi, hv, hp, hps, hd, ho, rfl⟩
  rw [s_open2, s_close2, s_open, s_close]
  by_cases c : i < z.length
  · have t1 : decide (((i : Nat) : Int) < (z.length : Nat)) = true := decide_eq_true (by omega)
    have c2 : cutS z (some (i : Int)) (some ((i : Int) + 2)) = tx ((z.cps.toList.drop i).take 2) := by
      have := cut_ab (z := z) (a := i) (b := i + 2) (by omega)
      rw [show i + 2 - i = 2 by omega] at this
      exact this
    obtain ⟨ch, hc⟩ : ∃ ch, z.cps.toList[i]? = some ch := ⟨_, List.getElem?_eq_getElem (by rw [hl]; exact c)⟩
    have hat : atI z.cps.toList ((i : Nat) : Int) = some ch := atI_nat hc
    have hdr : z.cps.toList.drop i = ch :: z.cps.toList.drop (i + 1) := by
      obtain ⟨h1, h2⟩ := List.getElem?_eq_some_iff.mp hc
      rw [← h2]; exact List.drop_eq_getElem_cons h1
    have hsz : vs.length < sizeLine := by rw [sizeLine_eq]; omega
    have hdi := hdr
    generalize hr : z.cps.toList.drop (i + 1) = r at hdi
    have hlr : r.length = z.length - (i + 1) := by rw [← hr, List.length_drop, hl]
    rw [hdi] at hd c2
    have next : ∀ (j : Nat) (e : Int) (x : RO.Pt) (v a b : V) (H2 : Hp) (o2 : Option (List RO.Pt)), e = (j : Int) → i < j → j ≤ z.length → Same H H2 → H2 p = some (.lst vs) → PtV K H2 x v → PtsV K H2 ps vs → RO.PB (z.cps.toList.drop j) o2 → o = o2.map ((ps ++ [x]) ++ ·) →
        ∃ m', m' < z.length - i ∧ Same H (upd H2 p (.lst (vs ++ [v]))) ∧ ∃ (i' : Nat) (ps' : List RO.Pt) (vs' : List V) (o' : Option (List RO.Pt)) (a' b' : Option V), m' = z.length - i' ∧ i' ≤ z.length ∧ vs'.length ≤ i' ∧ upd H2 p (.lst (vs ++ [v])) p = some (.lst vs') ∧ PtsV K (upd H2 p (.lst (vs ++ [v]))) ps' vs' ∧ RO.PB (z.cps.toList.drop i') o' ∧ o = o'.map (ps' ++ ·) ∧ [some (V.str z), some (V.ref p), some (V.int e), some a, some b] = [some (.str z), some (.ref p), some (.int (i' : Nat)), a', b'] :=
      fun j e x v a b H2 o2 e1 e2 e3 e4 e5 e6 e7 e8 e9 => ⟨z.length - j, by omega, fun b u hb => (by rw [upd_ne (ne_of_none hb fp)]; exact e4 _ _ hb), j, ps ++ [x], vs ++ [v], o2, some a, some b, rfl, e3, by rw [List.length_append]; show vs.length + 1 ≤ j; omega, upd_same, (e7.put e5).snoc (e6.put e5), e8, e9, by rw [e1]⟩
    walk_at "go"
    refine ⟨_, fun _ _ h => h, ?_⟩
    refine seq_of (fun σ' H' => σ' = [some (.str z), some (.ref p), some (.int (i : Nat)), some (.int ((i : Int) + 1)), some (.str ⟨#[ch]⟩)] ∧ H1 = H') (fun b' kb => ?_) (fun σ' H' hm => ?_)
    · walk_at "go"
      exact kb _ _ ⟨rfl, rfl⟩
    obtain ⟨rfl, rfl⟩ := hm
    refine seq_of (fun σ' H2 => (o = none ∧ ∃ e, σ' = [some (.str z), some (.ref p), some (.int (i : Nat)), some (.int e), some .non] ∧ Same H1 H2) ∨
      (∃ (j : Nat) (x : RO.Pt) (v : V) (o2 : Option (List RO.Pt)), σ' = [some (.str z), some (.ref p), some (.int (i : Nat)), some (.int (j : Nat)), some v] ∧ decide (v = .non) = false ∧ i < j ∧ j ≤ z.length ∧ Same H1 H2 ∧ PtV K H2 x v ∧ RO.PB (z.cps.toList.drop j) o2 ∧ o = o2.map ((ps ++ [x]) ++ ·))) (fun b' kb => ?_) (fun σ' H2 hm => ?_)
    · walk_at "go"
      intro q fq
      have s2 : Same H1 (upd H1 q (.tup [.str (tx [123, 123]), .str (tx [125, 125])])) := same_new fq _
      have hq : (upd H1 q (.tup [.str (tx [123, 123]), .str (tx [125, 125])])) q = some (.tup [.str (tx [123, 123]), .str (tx [125, 125])]) := upd_same
      generalize upd H1 q (.tup [.str (tx [123, 123]), .str (tx [125, 125])]) = H2 at s2 hq ⊢
      refine ⟨q, _, rfl, .inr (SqT.of hq), rfl, rfl, _, rfl, ?_⟩
      have vF : inV (.str (cutS z (some (i : Int)) (some ((i : Int) + 2)))) [V.str (tx [123, 123]), V.str (tx [125, 125])] = decide ((ch :: r).take 2 ∈ ([[123, 123], [125, 125]] : List (List Nat))) := by rw [c2]; exact inV_tx _ [[123, 123], [125, 125]]
      by_cases hf : (ch :: r).take 2 ∈ ([[123, 123], [125, 125]] : List (List Nat))
      · refine iteT' (vF.trans (decide_eq_true hf)) ?_
        have two : ∃ r2, (ch = 123 ∨ ch = 125) ∧ r = ch :: r2 := by
          cases r with
          | nil =>
            rcases List.mem_cons.mp hf with h | h
            · cases h
            · cases List.mem_singleton.mp h
          | cons d r2 =>
            rcases List.mem_cons.mp hf with h | h
            · cases h; exact ⟨r2, .inl rfl, rfl⟩
            · cases List.mem_singleton.mp h; exact ⟨r2, .inr rfl, rfl⟩
        obtain ⟨r2, hch, rfl⟩ := two
        have hr2 : z.cps.toList.drop (i + 2) = r2 := by rw [show i + 2 = (i + 1) + 1 by omega, ← List.drop_drop, hr]; rfl
        obtain ⟨o2, h2, ho2⟩ : ∃ o2, RO.PB r2 o2 ∧ o' = o2.map (Sum.inl ch :: ·) := by
          exact two_inv hd rfl hch
        walk_at "go"
        refine kb _ _ (.inr ⟨i + 2, .inl ch, .str ⟨#[ch]⟩, o2, rfl, rfl, by omega, by rw [List.length_cons] at hlr; omega, s2, rfl, by rw [hr2]; exact h2, ?_⟩)
        rw [ho, ho2]; cases o2 <;> simp
      · refine iteF' (vF.trans (decide_eq_false hf)) ?_
        walk_at "go"
        intro q2 fq2
        have s3 : Same H2 (upd H2 q2 (.tup [.str (tx [123]), .str (tx [125])])) := same_new fq2 _
        have hq2 : (upd H2 q2 (.tup [.str (tx [123]), .str (tx [125])])) q2 = some (.tup [.str (tx [123]), .str (tx [125])]) := upd_same
        generalize upd H2 q2 (.tup [.str (tx [123]), .str (tx [125])]) = H3 at s3 hq2 ⊢
        refine ⟨q2, _, rfl, .inr (SqT.of hq2), rfl, rfl, _, rfl, ?_⟩
        have s13 := s2.trans s3
        have vG : inV (.str ⟨#[ch]⟩) [V.str (tx [123]), V.str (tx [125])] = decide ([ch] ∈ ([[123], [125]] : List (List Nat))) := inV_tx [ch] [[123], [125]]
        cases hd with
        | two h1 h2 =>
          refine absurd ?_ hf
          rcases h1 with rfl | rfl
          · exact List.mem_cons_self
          · exact List.mem_cons_of_mem _ List.mem_cons_self
        | @ch _ _ o2 h1 h2 h3 =>
          refine iteF' (vG.trans (decide_eq_false fun h => ?_)) ?_
          · rcases List.mem_cons.mp h with h | h
            · cases h; exact h1 rfl
            · cases List.mem_singleton.mp h; exact h2 rfl
          walk_at "go"
          refine kb _ _ (.inr ⟨i + 1, .inl ch, .str ⟨#[ch]⟩, o2, rfl, rfl, by omega, by omega, s13, rfl, by rw [hr]; exact h3, ?_⟩)
          rw [ho]; cases o2 <;> simp
        | close h1 =>
          refine iteT' (vG.trans (decide_eq_true (List.mem_cons_of_mem _ List.mem_cons_self))) ?_
          have fa : Txt.find3 z (tx [125]) (i : Int) = ((i + 0 : Nat) : Int) := find_at (b := []) (t := r) (hdr.trans (by rw [hr]; rfl)) (fun h => nomatch h) hi
          have c3 : cutS z (some ((i : Int) + 1)) (some (Txt.find3 z (tx [125]) (i : Int) + 1 - 1)) = tx [] := by
            rw [fa]
            unfold cutS
            have e1 := HT.sIx_nat z.length 0 (i + 1)
            have e2 := HT.sIx_nat z.length z.length (i + 0)
            rw [show ((i + 1 : Nat) : Int) = (i : Int) + 1 by omega] at e1
            rw [show ((i + 0 : Nat) : Int) + 1 - 1 = ((i + 0 : Nat) : Int) by omega, e1, e2, show min (i + 0) z.length - min (i + 1) z.length = 0 by omega, List.take_zero]
          walk_at "go"
          refine iteT' (decide_eq_true (show (0 : Int) < Txt.find3 z (tx [125]) (i : Int) + 1 by rw [fa]; omega)) ?_
          walk_at "go"
          rw [c3]
          refine ⟨by rw [tx_len]; exact Nat.zero_le _, fun _ H4 s4 => ?_, fun h => absurd h (by show ¬ (RO.fieldB []).isSome = true; decide)⟩
          walk_at "go"
          exact kb _ _ (.inl ⟨ho, _, rfl, s13.trans s4⟩)
        | lost h1 h2 =>
          refine iteT' (vG.trans (decide_eq_true List.mem_cons_self)) ?_
          have fa : Txt.find3 z (tx [125]) (i : Int) = -1 := find_no (by rw [hdr, hr]; exact fun h => (List.mem_cons.mp h).elim (by decide) h2) hi
          walk_at "go"
          refine iteF' (decide_eq_false (show ¬ (0 : Int) < Txt.find3 z (tx [125]) (i : Int) + 1 by rw [fa]; omega)) ?_
          walk_at "go"
          exact kb _ _ (.inl ⟨ho, _, rfl, s13⟩)
        | @bad b r2 h1 h2 h3 =>
          refine iteT' (vG.trans (decide_eq_true List.mem_cons_self)) ?_
          have fa : Txt.find3 z (tx [125]) (i : Int) = ((i + (b.length + 1) : Nat) : Int) := find_at (b := 123 :: b) (t := r2) (hdr.trans (by rw [hr]; rfl)) (fun h => (List.mem_cons.mp h).elim (by decide) h2) hi
          have c3 : cutS z (some ((i : Int) + 1)) (some (Txt.find3 z (tx [125]) (i : Int) + 1 - 1)) = tx b := by
            have := cut_ab (z := z) (a := i + 1) (b := i + (b.length + 1)) (by omega)
            rw [hr, show i + (b.length + 1) - (i + 1) = b.length by omega, List.take_left] at this
            rw [fa, show ((i + (b.length + 1) : Nat) : Int) + 1 - 1 = ((i + (b.length + 1) : Nat) : Int) by omega]
            exact this
          walk_at "go"
          refine iteT' (decide_eq_true (show (0 : Int) < Txt.find3 z (tx [125]) (i : Int) + 1 by rw [fa]; omega)) ?_
          walk_at "go"
          rw [c3]
          have bl : (tx b).length ≤ 1000000 := by rw [tx_len]; rw [List.length_append] at hlr; omega
          refine ⟨bl, fun _ H4 s4 => ?_, fun h => absurd h (by show ¬ (RO.fieldB b).isSome = true; rw [h3]; decide)⟩
          walk_at "go"
          exact kb _ _ (.inl ⟨ho, _, rfl, s13.trans s4⟩)
        | @fld b r2 f2 o2 h1 h2 h3 h4 =>
          refine iteT' (vG.trans (decide_eq_true List.mem_cons_self)) ?_
          have fa : Txt.find3 z (tx [125]) (i : Int) = ((i + (b.length + 1) : Nat) : Int) := find_at (b := 123 :: b) (t := r2) (hdr.trans (by rw [hr]; rfl)) (fun h => (List.mem_cons.mp h).elim (by decide) h2) hi
          have c3 : cutS z (some ((i : Int) + 1)) (some (Txt.find3 z (tx [125]) (i : Int) + 1 - 1)) = tx b := by
            have := cut_ab (z := z) (a := i + 1) (b := i + (b.length + 1)) (by omega)
            rw [hr, show i + (b.length + 1) - (i + 1) = b.length by omega, List.take_left] at this
            rw [fa, show ((i + (b.length + 1) : Nat) : Int) + 1 - 1 = ((i + (b.length + 1) : Nat) : Int) by omega]
            exact this
          walk_at "go"
          refine iteT' (decide_eq_true (show (0 : Int) < Txt.find3 z (tx [125]) (i : Int) + 1 by rw [fa]; omega)) ?_
          walk_at "go"
          rw [c3]
          have bl : (tx b).length ≤ 1000000 := by rw [tx_len]; rw [List.length_append] at hlr; omega
          refine ⟨bl, fun h => absurd h (by show ¬ RO.fieldB b = none; rw [h3]; exact fun h => nomatch h), fun _ x dx fs H4 s4 fx hx hfl => ?_⟩
          walk_at "go"
          have hr2 : z.cps.toList.drop (i + (b.length + 2)) = r2 := by
            rw [show i + (b.length + 2) = (i + 1) + (b.length + 1) by omega, ← List.drop_drop, hr, List.drop_append]
            simp
          refine kb _ _ (.inr ⟨i + (b.length + 2), .inr f2, .ref x, o2, ?_, rfl, by omega, by rw [List.length_append, List.length_cons] at hlr; omega, s13.trans s4, ⟨x, dx, fs, rfl, hx, hfl⟩, by rw [hr2]; exact h4, ?_⟩)
          · have e5 : Txt.find3 z (tx [125]) (i : Int) + 1 = ((i + (b.length + 2) : Nat) : Int) := by rw [fa]; omega
            rw [← e5]; rfl
          · rw [ho]; cases o2 <;> simp
    rcases hm with ⟨rfl, e, rfl, s2⟩ | ⟨j, x, v, o2, rfl, vn, hj1, hj2, s2, hx, hb, rfl⟩
    · walk_at "go"
      exact hN _ rfl (s1.trans s2)
    · have hp2 := s2 _ _ hp
      have hps2 := hps.same s2
      have nx := next j (j : Int) x v (.int (j : Nat)) v H2 o2 rfl hj1 hj2 (s1.trans s2) hp2 hx hps2 hb rfl
      walk_at "go"
      exact nx.choose_spec
  · have t1 : decide (((i : Nat) : Int) < (z.length : Nat)) = false := decide_eq_false (by omega)
    have dn : z.cps.toList.drop i = [] := List.drop_eq_nil_of_le (by omega)
    rw [dn] at hd
    cases hd
    walk_at "go"
    exact hS ps vs p _ (by rw [ho]; exact congrArg some (List.append_nil _)) s1 fp hp (by omega) hps
end
end K17

set_option Elab.async false
set_option linter.all false
set_option maxRecDepth 100000
set_option maxHeartbeats 0
namespace K17
open PySem PySem.Spec PyProof.Rows L2 RC
section
variable {P : Program} {w : World} {K : PySem.W.Frag} {mg : Str → Option Value} {base : Heap}
/-! ### all together -/
theorem ok_law {f : Addr} {fd : FuncData} (T : Txt P w K mg) (F : FunD K "law" "law" (defArgs s_law) (defBody s_law) (defScope s_law) [] [] f fd) : FnOk P w K mg base CX0 8 f fd ["_law_script"] (spLaw K) := by
  have c_draw := ok_draw (base := base) T T.d__law_draw 
  have c_pick := ok_pick (base := base) T T.d__law_pick c_draw
  have c_text := ok_text (base := base) T T.d__law_text c_draw c_pick
  have c_bt := ok_braced_text (base := base) T T.d__law_braced_text 
  have c_br := ok_braced (base := base) T T.d__law_braced 
  have c_bp := ok_braced_parts (base := base) T T.d__law_braced_parts c_br c_bt
  have c_lf := ok_field (base := base) T T.d__law_field c_draw c_pick
  have c_fp := ok_format_parts (base := base) T T.d__law_format_parts c_draw c_pick c_text c_lf
  have c_wr := ok_wrong (base := base) T T.d__law_wrong_part c_pick
  have c_f2 := ok_field_init2 (base := base) T T.d_Field_init 
  have c_f5 := ok_field_init5 (base := base) T T.d_Field_init 
  have c_ne := ok_name_end (base := base) T T.d_name_end 
  have c_iw := ok_width (base := base) T T.d_is_width 
  have c_sp := ok_spec (base := base) T T.d_spec_of c_iw
  have c_fo := ok_field_of (base := base) T T.d_field_of c_ne c_sp c_f2 c_f5
  have c_pb := ok_parts (base := base) T T.d_parts_of_braces c_fo
  have c_jt := ok_joined (base := base) T T.d_joined_texts 
  have c_bf := ok_badformat_init (base := base) T T.d_BadFormat_init 
  have c_bs := ok_badstyle_init (base := base) T T.d_BadStyle_init 
  have c_fm1 := ok_fm_init1 (base := base) T T.d_Formatter_init c_pb c_jt c_bf c_bs
  have c_fm3 := ok_fm_init3 (base := base) T T.d_Formatter_init c_pb c_jt c_bf c_bs
  have c_told := ok_told (base := base) T T.d__law_formatter_told c_fm1
  have c_alone := ok_alone (base := base) T T.d__law_made_alone c_fm3
  have c_same := ok_same (base := base) T T.d__law_same rfl 4
  refine F.ok sc_law (fun vs H Q E h => ?_) (fun cdv A outer s H vs Q E hr hsp => ?_)
  · obtain ⟨a, ns, rfl, _⟩ := h; rfl
  obtain ⟨t, h, q⟩ := law_body T hr hsp c_draw c_pick c_text c_fp c_bp c_bt c_wr c_told c_alone c_same
  exact ⟨t, h.nox, q⟩
theorem facts {f : Addr} {h : Heap} (X : K.In h) (G : h.Ns mainGlobals mg) (hfa : mg ("law" : Str) = some (.ref f)) (c : RB.SaysB fa fx fn ts w K) :
    ∃ fd : FuncData, (∀ (s : Shared) (v : Value), BindsTo s fd ⟨[v], []⟩ [("_law_script", v)]) ∧ ∀ base : Heap, FnOk P w K mg base CX0 8 f fd ["_law_script"] (spLaw K) := by
  have T : Txt P w K mg := Txt.of X G c
  obtain ⟨fd, F⟩ := T.d_law
  have e := hfa.symm.trans T.g_law
  cases e
  have b := FunD.bindsA (ps := ["_law_script"]) F fun _ _ _ _ _ _ us hl => match us, hl with | [_], _ => rfl
  exact ⟨fd, fun s v => b s [v] rfl, fun base => ok_law T F⟩
end
end K17
open PySem PySem.W PySem.Calls PyProof.Rows
set_option maxHeartbeats 0
theorem PySem.Challenge.cw_recordyard_k08_formats_in_braces_refused_holds : PySem.Challenge.rw_recordyard_k08_formats_in_braces_refused.Holds := by
  w_on; o_law
  refine HandSHeadRun.head_any (r := OpenLaw.row PySem.Challenge.rw_recordyard_k08_formats_in_braces_refused) (q := view (OpenLaw.row PySem.Challenge.rw_recordyard_k08_formats_in_braces_refused).prog [38]) (H := K17.hk) (ob := K17.ob) (M := 6000) (loose := K17.names) (d := HandSHeadRun.topDef (OpenLaw.row PySem.Challenge.rw_recordyard_k08_formats_in_braces_refused).prog 38) (kwd := []) K17.ob_eq
    (by kernel_rfl) (fun s => by kernel_rfl) K17.run (by kernel_rfl) (by kernel_rfl) (by kernel_rfl) (by rfl) (by first | assumption | decide +kernel) (by decide +kernel) ⟨rfl, rfl, rfl, rfl, rfl, by decide +kernel⟩ ?hw ?hc
  case hw => w_witness2
  case hc =>
    refine L2.walk_ofE (l := PySem.Challenge.rw_recordyard_k08_formats_in_braces_refused) (n := 63) (k := 8) (x := "_law_script") (CX := L2.CX0) rfl (by decide) (by kernel_rfl) ⟨rfl, by decide, by decide⟩ ?F (fun _ _ _ _ z => z)
    intro w mg fa h Y G hmg0
    obtain ⟨K, KX, c⟩ := Y
    have hmg : mg ("law" : PySem.Str) = some (.ref fa) := by
      have e : (HandSHeadRun.topDef (OpenLaw.row PySem.Challenge.rw_recordyard_k08_formats_in_braces_refused).prog 38).name = ("law" : PySem.Str) := by kernel_rfl
      rw [← e]
      exact hmg0
    obtain ⟨fd, hb, hF⟩ := K17.facts (P := (PySem.Challenge.rw_recordyard_k08_formats_in_braces_refused).prog) (w := w) KX G hmg c
    exact ⟨K, fd, K17.spLaw K, KX, hb, fun H a ns hl _ hS => ⟨a, ns, rfl, hl, hS, fun _ => rfl⟩, fun base _ _ => hF base⟩
